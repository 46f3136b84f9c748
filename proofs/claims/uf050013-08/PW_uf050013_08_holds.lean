import PyProof.Rows.All
import Wide.FinOn
import Open.Line
import PyProof.Walks
import PyProof.WalksMore
import PyProof.WalksT
import PyProof.CompFree
import PyProof.Cells
import PyProof.Rows.Many
import PyProof.RaisesMany
import PyProof.TupleKey
import PyProof.DictRoadsH
import PyProof.RangeFor
import PyProof.Rows.Range3
import PyProof.ZipIter
import PyProof.EnumMake
import PyProof.Rows.ZipGen
import PyProof.IsInstance
import PyProof.IsInstanceH
import PyProof.IsiNone
import PyProof.Rows.IntRules
import PyProof.Rows.RuleB_mul
import PyProof.Rows.RuleB_floordiv
import PyProof.Rows.RuleB_pow
import PyProof.Rows.RuleC_int
import PyProof.Rows.RuleU_int
import PyProof.SumAny
import PyProof.MinMaxWalk
import PyProof.ConsumeWalk
import PyProof.TupleOfSeq
import PyProof.ListCopy
import PyProof.TupleCall
import PyProof.ListIndexNeg
import PyProof.Rows.StrTemp
import KE.KSortTup
import KE.KSortKey
import KE.KEqDeep
import OpenK.KMore
import PyProof.Rows.CatchOwn
import PyProof.RulesAs
import PyProof.ExcAttrAll.ValueError
import PyProof.StrBlock
import PyProof.Rows.RuleN_abs
import PyProof.Dict
import PyProof.DictIter
import PyProof.DictWalks
import PyProof.ListRange
import PyProof.MeetsDictList
import PyProof.AutoListH
import PyProof.AutoSeq1
import PyProof.SliceSyntax
import PyProof.SliceList
import PyProof.LetGo
import PyProof.Rows.TupDisplay
import PyProof.MeetsSeq
import PyProof.DictTruth
import PyProof.Rows.SortRuns
import PySem.Challenge.RW_uf050013_08
set_option compiler.extract_closed false
set_option genSizeOf false
set_option Elab.async false
set_option linter.all false
set_option autoImplicit false
namespace Mine
open PySem PySem.Calls PyProof.Rows PySem.W
noncomputable def xOne (K:Frag)(e:Str × Addr × List Value):Bool:=
 nsIn K mainGlobals e.1==some (some (.ref e.2.1))&&(clsIn K e.2.1).any (fun cd=>cd.mro==e.2.2)&&typeIn K (.ref e.2.1)==some (.type "type")&&
 findIn K (.ref e.2.1) "__class__"==some (some (.builtin "object.__class__"))&&findIn K (.ref e.2.1) "__getattribute__"==some (some (.builtin "BaseException.__getattribute__"))&&findIn K (.ref e.2.1) "__getattr__"==some none&&
 e.2.2.contains (.type "BaseException")&&e.2.2.contains (.type "object")&& !e.2.2.isEmpty
noncomputable def YA (h:Heap)(as:List Addr):Frag:=as.filterMap fun a=>(h.get? a).map fun o=>(a,o)
noncomputable def xAll (as:List Addr)(es:List (Str × Addr × List Value))(h:Heap):Bool:=as.all (fun a=>(h.get? a).isSome)&&es.all (xOne (YA h as))
theorem uy {h h':Heap}{as:List Addr}(hs:as.all (fun a=>(h.get? a).isSome)=true)(k:∀b o,h.get? b=some o->h'.get? b=some o):YA h' as=YA h as/\as.all (fun a=>(h'.get? a).isSome)=true:=by
 induction as with
 | nil=>exact ⟨rfl,rfl⟩
 | cons a r ih=>
  rw [List.all_cons,Bool.and_eq_true] at hs
  obtain ⟨o,ho⟩:=Option.isSome_iff_exists.mp hs.1
  have ho':=k _ _ ho
  obtain ⟨i1,i2⟩:=ih hs.2
  refine ⟨?_,?_⟩
  ·have i1':r.filterMap (fun a=>(h'.get? a).map fun o=>(a,o))=r.filterMap (fun a=>(h.get? a).map fun o=>(a,o)):=i1
   unfold YA
   rw [List.filterMap_cons,List.filterMap_cons,ho,ho',i1']
  ·rw [List.all_cons,ho',i2];rfl
theorem UO {as:List Addr}{es:List (Str × Addr × List Value)}{h h':Heap}(x:xAll as es h=true)(k:∀b o,h.get? b=some o->h'.get? b=some o):xAll as es h'=true:=by
 unfold xAll at*
 rw [Bool.and_eq_true] at*
 obtain ⟨e1,e2⟩:=uy x.1 k
 exact ⟨e2,by rw [e1];exact x.2⟩
noncomputable def xHook (as:List Addr)(es:List (Str × Addr × List Value)):Hook:=
 ⟨Bool,fun s=>xAll as es s.heap,fun _=>true,fun _ h=>xAll as es h=true,fun _ _ e=>e,fun _ _ _ x k=>UO x k⟩
noncomputable abbrev up08 (C:Addr):List Value:=[.ref C,.ref 31,.type "ValueError",.type "Exception",.type "BaseException",.type "object"]
noncomputable abbrev E08:List (Str × Addr × List Value):=[("EvenError",31,[.ref 31,.type "ValueError",.type "Exception",.type "BaseException",.type "object"]),("BadSystem",44,up08 44),("BadRow",56,up08 56),("NotEven",68,up08 68),("BadWants",80,up08 80),("BadBound",92,up08 92),("TooMany",104,up08 104),("Unread",116,up08 116)]
noncomputable abbrev A08:List Addr:=[mainGlobals,30,31,43,44,55,56,67,68,79,80,91,92,103,104,115,116]
end Mine
namespace Mine
open PySem PySem.W PyProof.Rows
def q08:Program:={PySem.Challenge.rw_uf050013_08.row.prog with main:={PySem.Challenge.rw_uf050013_08.row.prog.main with body:=[0,2,3,4,5,6,7,8,9,11,12,13,14,15,16,18,19,20,21,22,23,24,25,26,27,28,29,30,32,33,34,35,36,37,38,39,40,41,42,43,44,45,46,47,48].filterMap fun i=>PySem.Challenge.rw_uf050013_08.row.prog.main.body[i]?}}
set_option maxRecDepth 100000 in
theorem said08:OpenLaw.wellSaid PySem.Challenge.rw_uf050013_08=true:=by kernel_rfl
set_option maxRecDepth 100000 in
theorem left08:LeftO PySem.Challenge.rw_uf050013_08.row.prog q08 [] (fun s=>xlAt q08 [] s&&recOk (RowW.records PySem.Challenge.rw_uf050013_08.row.toRowW) s) (Hook.obs (xHook A08 E08)) (Hook.val (xHook A08 E08)) 6442:=fun w=>by kernel_rfl
end Mine
namespace Mine
inductive NE where
 | v (i:Nat)
 | n (k:Nat)
 | a (x y:NE)
 | m (k:Nat) (x:NE)
inductive IE where
 | v (i:Nat)
 | n (k:Int)
 | a (x y:IE)
 | s (x y:IE)
 | g (x:IE)
 | m (k:Int) (x:IE)
 | c (x:NE)
noncomputable def NE.d (xs:List Nat):NE->Nat
 | .v i=>xs.getD i 0
 | .n k=>k
 | .a x y=>x.d xs+y.d xs
 | .m k x=>k*x.d xs
noncomputable def IE.d (xs:List Nat)(ys:List Int):IE->Int
 | .v i=>ys.getD i 0
 | .n k=>k
 | .a x y=>x.d xs ys+y.d xs ys
 | .s x y=>x.d xs ys-y.d xs ys
 | .g x=> -x.d xs ys
 | .m k x=>k*x.d xs ys
 | .c x=>((x.d xs:Nat):Int)
inductive Cn where
 | nl (x y:NE)
 | nt (x y:NE)
 | ne (x y:NE)
 | nf (x y:NE)
 | il (x y:IE)
 | it (x y:IE)
 | ie (x y:IE)
 | jf (x y:IE)
noncomputable def Cn.d (xs:List Nat)(ys:List Int):Cn->Prop
 | .nl x y=>x.d xs<=y.d xs
 | .nt x y=>x.d xs<y.d xs
 | .ne x y=>x.d xs=y.d xs
 | .nf x y=>x.d xs=y.d xs
 | .il x y=>x.d xs ys<=y.d xs ys
 | .it x y=>x.d xs ys<y.d xs ys
 | .ie x y=>x.d xs ys=y.d xs ys
 | .jf x y=>x.d xs ys=y.d xs ys
structure Li where
 p:List Int
 q:List Int
 k:Int
noncomputable def ladd:List Int->List Int->List Int
 | [],y=>y
 | x,[]=>x
 | a::x,b::y=>(a+b)::ladd x y
noncomputable def lev:List Int->List Int->Int
 | a::x,b::y=>a*b+lev x y
 | _,_=>0
noncomputable def lone:Nat->List Int
 | 0=>[1]
 | i+1=>0::lone i
noncomputable def Li.add (x y:Li):Li:=⟨ladd x.p y.p,ladd x.q y.q,x.k+y.k⟩
noncomputable def Li.mul (c:Int)(x:Li):Li:=⟨x.p.map (c*·),x.q.map (c*·),c*x.k⟩
noncomputable def Li.ev (xs:List Nat)(ys:List Int)(x:Li):Int:=lev x.p (xs.map fun (n:Nat)=>(n:Int))+lev x.q ys+x.k
noncomputable def NE.l:NE->Li
 | .v i=>⟨lone i,[],0⟩
 | .n k=>⟨[],[],k⟩
 | .a x y=>x.l.add y.l
 | .m k x=>x.l.mul k
noncomputable def IE.l:IE->Li
 | .v i=>⟨[],lone i,0⟩
 | .n k=>⟨[],[],k⟩
 | .a x y=>x.l.add y.l
 | .s x y=>x.l.add (y.l.mul (-1))
 | .g x=>x.l.mul (-1)
 | .m k x=>x.l.mul k
 | .c x=>x.l
theorem wo:∀(x y z:List Int),lev (ladd x y) z=lev x z+lev y z
 | [],y,z=>by cases z<;>simp [ladd,lev]
 | a::x,[],z=>by cases z<;>simp [ladd,lev]
 | a::x,b::y,[]=>by simp [ladd,lev]
 | a::x,b::y,c::z=>by
  simp only [ladd,lev,wo x y z,Int.add_mul];lia
theorem wp (c:Int):∀(x z:List Int),lev (x.map (c*·)) z=c*lev x z
 | [],z=>by cases z<;>simp [lev]
 | a::x,[]=>by simp [lev]
 | a::x,b::z=>by simp only [List.map_cons,lev,wp c x z,Int.mul_add,Int.mul_assoc]
theorem U7:∀(i:Nat) (z:List Int),lev (lone i) z=z.getD i 0
 | 0,[]=>rfl
 | 0,b::z=>by cases z<;>simp [lone,lev]
 | i+1,[]=>rfl
 | i+1,b::z=>by simp [lone,lev,U7 i z]
section
variable (xs:List Nat) (ys:List Int)
theorem Li.ev_add (x y:Li):(x.add y).ev xs ys=x.ev xs ys+y.ev xs ys:=by
 simp only [Li.add,Li.ev,wo];lia
theorem Li.ev_mul (c:Int)(x:Li):(x.mul c).ev xs ys=c*x.ev xs ys:=by
 simp only [Li.mul,Li.ev,wp,Int.mul_add]
theorem NE.ok:∀e:NE,((e.d xs:Nat):Int)=e.l.ev xs ys
 | .v i=>by
  simp only [NE.d,NE.l,Li.ev,U7]
  have:(xs.map fun (n:Nat)=>(n:Int)).getD i 0=((xs.getD i 0:Nat):Int):=by
   simp only [List.getD_eq_getElem?_getD,List.getElem?_map]
   cases xs[i]? <;>rfl
  rw [this];cases ys<;>simp [lev]
 | .n k=>by simp [NE.d,NE.l,Li.ev,lev]
 | .a x y=>by rw [NE.l,Li.ev_add,<-NE.ok x,<-NE.ok y];simp [NE.d]
 | .m k x=>by rw [NE.l,Li.ev_mul,<-NE.ok x];simp [NE.d]
theorem IE.ok:∀e:IE,e.d xs ys=e.l.ev xs ys
 | .v i=>by
  simp only [IE.d,IE.l,Li.ev,U7]
  cases xs<;>simp [lev]
 | .n k=>by simp [IE.d,IE.l,Li.ev,lev]
 | .a x y=>by rw [IE.l,Li.ev_add,<-IE.ok x,<-IE.ok y];rfl
 | .s x y=>by rw [IE.l,Li.ev_add,Li.ev_mul,<-IE.ok x,<-IE.ok y];simp only [IE.d];lia
 | .g x=>by rw [IE.l,Li.ev_mul,<-IE.ok x];simp only [IE.d];lia
 | .m k x=>by rw [IE.l,Li.ev_mul,<-IE.ok x];rfl
 | .c x=>by rw [IE.l,<-NE.ok];rfl
noncomputable def Cn.l:Cn->Li
 | .nl x y=>x.l.add (y.l.mul (-1))
 | .nt x y=>(x.l.add (y.l.mul (-1))).add ⟨[],[],1⟩
 | .ne x y=>x.l.add (y.l.mul (-1))
 | .nf x y=>y.l.add (x.l.mul (-1))
 | .il x y=>x.l.add (y.l.mul (-1))
 | .it x y=>(x.l.add (y.l.mul (-1))).add ⟨[],[],1⟩
 | .ie x y=>x.l.add (y.l.mul (-1))
 | .jf x y=>y.l.add (x.l.mul (-1))
theorem ev_one:Li.ev xs ys ⟨[],[],1⟩=1:=by simp [Li.ev,lev]
theorem Cn.ok (c:Cn)(h:c.d xs ys):c.l.ev xs ys<=0:=by
 cases c<;>simp only [Cn.d,Cn.l,Li.ev_add,Li.ev_mul,<-NE.ok,<-IE.ok,ev_one] at h⊢<;>lia
noncomputable def imp:List (Nat × Cn)->Prop
 | []=>False
 | c::r=>c.2.d xs ys->imp r
noncomputable def Un:Li->List (Nat × Cn)->Li
 | s,[]=>s
 | s,c::r=>Un (s.add (c.2.l.mul c.1)) r
noncomputable def lok (x:Li):Bool:=x.p.all (fun a=>decide (0<=a))&&x.q.all (fun a=>decide (a=0))&&decide (0<x.k)
theorem wq:∀(p:List Int) (zs:List Nat),p.all (fun a=>decide (0<=a))=true->0<=lev p (zs.map fun (n:Nat)=>(n:Int))
 | [],zs,_=>by cases zs<;>simp [lev]
 | a::p,[],_=>by simp [lev]
 | a::p,b::zs,h=>by
  simp only [List.all_cons,Bool.and_eq_true,decide_eq_true_eq] at h
  have:=wq p zs h.2
  have:=Int.mul_nonneg h.1 (Int.natCast_nonneg b)
  simp only [List.map_cons,lev];lia
theorem Uo:∀(q:List Int) (z:List Int),q.all (fun a=>decide (a=0))=true->lev q z=0
 | [],z,_=>by cases z<;>simp [lev]
 | a::p,[],_=>by simp [lev]
 | a::p,b::zs,h=>by
  simp only [List.all_cons,Bool.and_eq_true,decide_eq_true_eq] at h
  simp only [lev,Uo p zs h.2,h.1];simp
theorem j0v:∀(cs:List (Nat × Cn)) (s:Li),s.ev xs ys<=0->lok (Un s cs)=true->imp xs ys cs
 | [],s,h,hk=>by
  simp only [Un,lok,Bool.and_eq_true] at hk
  have h1:=wq s.p xs hk.1.1
  have h2:=Uo s.q ys hk.1.2
  have h3:=of_decide_eq_true hk.2
  simp only [Li.ev] at h
  exact absurd h (by lia)
 | c::r,s,h,hk=>fun hc=>j0v r _ (by
  rw [Li.ev_add,Li.ev_mul]
  have:=c.2.ok xs ys hc
  have:=Int.mul_le_mul_of_nonneg_left this (Int.natCast_nonneg c.1)
  lia) hk
end
theorem lin (xs:List Nat)(ys:List Int)(cs:List (Nat × Cn))(h:lok (Un ⟨[],[],0⟩ cs)=true):imp xs ys cs:=j0v xs ys cs _ (by cases xs<;>cases ys<;>simp [Li.ev,lev]) h
theorem z0 {a b c:Nat}(h0:a<b):a<b+c:=Nat.lt_add_right c h0
theorem z1 {a b c d:Int}:a+b+(c+d)=a+c+(b+d):=by lia
theorem z2 {a b:Int}(h0:a+b<0)(h1:¬(b<0)):a<0:=Int.not_le.mp fun qz=>lin [] [_,_] [(1,.il (.n 0) (.v 0)),(1,.il (.n 0) (.v 1)),(1,.it (.a (.v 0) (.v 1)) (.n 0))] rfl qz (Int.not_lt.mp h1) h0
theorem z3 {a b c d:Int}(h0:b<=d)(h1:a<=c):a+b<=c+d:=Int.add_le_add h1 h0
theorem z4 {a:Nat}(h0:a<0):False:=Nat.not_succ_le_zero a h0
theorem z5 {a b c d:Int}(h0:a+c<=b+d)(h1:d<=c):a<=b:=Int.not_lt.mp fun qz=>lin [] [_,_,_,_] [(1,.it (.v 0) (.v 1)),(1,.il (.v 2) (.v 3)),(1,.il (.a (.v 1) (.v 3)) (.a (.v 0) (.v 2)))] rfl qz h1 h0
theorem z6 {a b:Nat}(h0:a<b+1)(h1:¬(a=b)):a<b:=Nat.lt_of_le_of_ne (Nat.le_of_lt_succ h0) h1
theorem z7 {a b c d:Int}:a-b+(c-d)=a+c-(b+d):=by lia
theorem z8 {a b:Nat}(h0:a<b):¬(a=b):=Nat.ne_of_lt h0
theorem z9 {a b:Int}(h0:0<=b)(h1:0<=a):0<=a+b:=Int.add_nonneg h1 h0
theorem z10 {a b:Int}(h0:0<=b)(h1:0<=a)(h2:a+b<=0):a=0:=Int.le_antisymm (Int.not_lt.mp fun qz=>lin [] [_,_] [(1,.it (.n 0) (.v 0)),(1,.il (.a (.v 0) (.v 1)) (.n 0)),(1,.il (.n 0) (.v 1))] rfl qz h2 h0) (Int.not_lt.mp fun qz=>lin [] [_] [(1,.it (.v 0) (.n 0)),(1,.il (.n 0) (.v 0))] rfl qz h1)
theorem z11 {a b:Int}(h0:0<=b)(h1:b+a<=0):a<=0:=Int.not_lt.mp fun qz=>lin [] [_,_] [(1,.it (.n 0) (.v 0)),(1,.il (.a (.v 1) (.v 0)) (.n 0)),(1,.il (.n 0) (.v 1))] rfl qz h1 h0
theorem z12 {a b:Nat}(h0:¬(b<a)):a<=b:=Nat.le_of_not_lt h0
theorem z13 {a b:Int}(h0:b<=a):0<=a-b:=Int.sub_nonneg_of_le h0
theorem z14 {a b:Int}(h0:0<=b):a-b<=a:=Int.sub_le_self a h0
theorem z15 {a b:Int}(h0:¬(b<=a)):a<b:=Int.lt_of_not_ge h0
theorem z16 {b:Nat}{a c:Int}(h0:c.toNat<=b+1)(h1:a<c):a.toNat<=b:=Int.toNat_le.mpr (Int.le_of_lt_add_one (Int.lt_of_lt_of_le h1 (Int.toNat_le.mp h0)))
theorem z17 {a b:Int}(h0:a=0):a-b= -b:=by lia
theorem z18 {a b:Int}(h0:0<b)(h1:a= -b):a<0:=Int.not_le.mp fun qz=>lin [] [_,_] [(1,.il (.n 0) (.v 0)),(1,.ie (.v 0) (.g (.v 1))),(1,.it (.n 0) (.v 1))] rfl qz h1 h0
theorem z19 {a b c:Int}(h0:a=b-c)(h1:c<=b)(h2:¬(c<b)):a=0:=Int.le_antisymm (Int.not_lt.mp fun qz=>lin [] [_,_,_] [(1,.it (.n 0) (.v 0)),(1,.il (.v 1) (.v 2)),(1,.ie (.v 0) (.s (.v 1) (.v 2)))] rfl qz (Int.not_lt.mp h2) h0) (Int.not_lt.mp fun qz=>lin [] [_,_,_] [(1,.it (.v 0) (.n 0)),(1,.il (.v 1) (.v 2)),(1,.jf (.v 0) (.s (.v 2) (.v 1)))] rfl qz h1 h0)
theorem z20 {a b c:Int}(h0:a=b-c)(h1:c<=b):0<=a:=Int.not_lt.mp fun qz=>lin [] [_,_,_] [(1,.it (.v 0) (.n 0)),(1,.il (.v 1) (.v 2)),(1,.jf (.v 0) (.s (.v 2) (.v 1)))] rfl qz h1 h0
theorem z21 {a b:Int}(h0:¬(b<a)):a<=b:=Int.not_lt.mp h0
theorem z22 {a b:Int}(h0:a<b)(h1:b<=a):False:=lin [] [_,_] [(1,.il (.v 0) (.v 1)),(1,.it (.v 1) (.v 0))] rfl h1 h0
theorem z23 {a b c:Nat}(h0:a<c)(h1:b=c):a<b:=Nat.lt_of_lt_of_eq h0 (id (Eq.symm h1))
theorem z24 {a b:Nat}(h0:a<b):a<=b:=Nat.le_of_lt h0
theorem z28 {a b:Nat}(h0:a=b):a<=b:=Nat.le_of_eq h0
theorem z29 {a b:Nat}(h0:b=a):a<=b:=(Nat.le_of_eq h0.symm)
theorem z32 {a b c:Nat}(h0:a+c<=b):a<=b:=Nat.le_of_add_right_le h0
theorem z33 {a b c d:Int}(h0:c=a)(h1:d<=b)(h2:b<=c)(h3:c<=d):a=b:=Int.le_antisymm (Int.not_lt.mp fun qz=>lin [] [_,_,_,_] [(1,.it (.v 0) (.v 1)),(1,.il (.v 2) (.v 3)),(1,.il (.v 3) (.v 0)),(1,.jf (.v 2) (.v 1))] rfl qz h3 h1 h0) (Int.not_lt.mp fun qz=>lin [] [_,_,_] [(1,.it (.v 0) (.v 1)),(1,.il (.v 1) (.v 2)),(1,.ie (.v 2) (.v 0))] rfl qz h2 h0)
theorem z36 {a b c:Int}(h0:a+c=b)(h1:c=0):a=b:=Int.le_antisymm (Int.not_lt.mp fun qz=>lin [] [_,_,_] [(1,.it (.v 0) (.v 1)),(1,.jf (.v 2) (.n 0)),(1,.ie (.a (.v 1) (.v 2)) (.v 0))] rfl qz h1 h0) (Int.not_lt.mp fun qz=>lin [] [_,_,_] [(1,.it (.v 0) (.v 1)),(1,.ie (.v 2) (.n 0)),(1,.jf (.a (.v 0) (.v 2)) (.v 1))] rfl qz h1 h0)
theorem z39 {a b c:Nat}(h0:a<c)(h1:c=b):a<b:=Nat.lt_of_lt_of_le h0 (Nat.le_of_eq h1)
theorem z46 {a b:Int}:a-b+b=a:=Int.sub_add_cancel a b
theorem z47 {a b c:Int}(h0:a=c)(h1:c<=b):a<=b:=le_of_eq_of_le h0 h1
theorem z48 {a:Int}(h0:a.toNat<=0):a<=0:=by lia
theorem z49 {a b c:Int}(h0:0<=b)(h1:a<=c):a-b<=c:=Int.not_lt.mp fun qz=>lin [] [_,_,_] [(1,.it (.v 0) (.s (.v 1) (.v 2))),(1,.il (.v 1) (.v 0)),(1,.il (.n 0) (.v 2))] rfl qz h1 h0
theorem z50 {b:Nat}{a c d:Int}(h0:0<c)(h1:d.toNat<=b+1)(h2:a=d-c):a.toNat<=b:=h2▸Int.toNat_le.mpr (Int.sub_right_le_of_le_add (Int.le_trans (Int.toNat_le.mp h1) (Int.add_le_add_left h0 b)))
theorem z51 {a b c:Int}:a+(b+c)=b+(a+c):=Int.add_left_comm a b c
theorem z52 {a b:Nat}(h0:a<=b)(h1:¬(b=a)):a+1<=b:=by lia
theorem z53 {a b c:Int}(h0:b-a=c): -a+b=c:=by lia
theorem z54 {a b c d:Nat}(h0:a+(c+b)=d):a+b+c=d:=by lia
theorem z55 {a b c:Int}(h0:a<b)(h1:a=c)(h2:b<=c):False:=lin [] [_,_,_] [(1,.il (.v 0) (.v 1)),(1,.jf (.v 2) (.v 1)),(1,.it (.v 2) (.v 0))] rfl h2 h1 h0
theorem z56 {a:Int}(h0:¬(0<=a)):0<=-a:=Int.not_lt.mp fun qz=>lin [] [_] [(1,.it (.g (.v 0)) (.n 0)),(1,.it (.v 0) (.n 0))] rfl qz (Int.not_le.mp h0)
theorem z57 {a:Int}(h0:a<0):0< -a:=Int.neg_pos_of_neg h0
theorem z58 {a b c:Int}(h0:a+(b+c)=c):a= -b:=by lia
theorem z59 {a b:Int}(h0:0*b+(a+0)=0):a=0:=by lia
theorem z60 {a b:Int}:a+(-b+0)=a-b:=by lia
theorem z61 {a:Int}(h0:¬(0<a)):0<=-a:=Int.not_lt.mp fun qz=>lin [] [_] [(1,.it (.g (.v 0)) (.n 0)),(1,.il (.v 0) (.n 0))] rfl qz (Int.not_lt.mp h0)
theorem z62 {a b:Int}(h0:0<=-b)(h1:0<=a):0<=a-b:=Int.not_lt.mp fun qz=>lin [] [_,_] [(1,.it (.s (.v 0) (.v 1)) (.n 0)),(1,.il (.n 0) (.v 0)),(1,.il (.n 0) (.g (.v 1)))] rfl qz h1 h0
theorem z63 {a b:Int}(h0:0<=a)(h1:a+1<=b)(h2:b.toNat<=a.toNat):False:=Int.lt_irrefl a (Int.lt_of_lt_of_le h1 (Int.toNat_of_nonneg h0▸Int.toNat_le.mp h2))
theorem z64 {a:Int}(h0:a<0):0< -1*a+(0*a+0):=by lia
theorem z65 {a b:Int}:1*a+(-1*b+0)=a-b:=by lia
theorem z66 {b:Nat}{a:Int}(h0:0<=a)(h1:a<=(b:Int)):0<=a/\a<0+(b+1:Int):=⟨h0,Int.not_le.mp fun qz=>lin [_] [_] [(1,.il (.a (.n 0) (.a (.c (.v 0)) (.n 1))) (.v 0)),(1,.il (.v 0) (.c (.v 0)))] rfl qz h1⟩
theorem z67 {b:Nat}{a c:Int}(h0:0<=c)(h1:a+c<=(b:Int)):a.toNat<b+1:=Nat.lt_succ_of_le (Int.toNat_le.mpr (Int.le_trans (Int.le_add_of_nonneg_right h0) h1))
theorem z69 {a:Nat}(h0:a<=5):a<6:=Nat.lt_succ_of_le h0
theorem z70 {b:Nat}{a:Int}(h0:(b+1:Int)<=a):0<a:=Int.not_le.mp fun qz=>lin [_] [_] [(1,.il (.v 0) (.n 0)),(1,.il (.a (.c (.v 0)) (.n 1)) (.v 0))] rfl qz h0
theorem z71 {a b:Int}(h0:0<=a):0<=a+b*0:=by lia
theorem z72 {a:Nat}{b:Int}(h0:(a+1:Int)<=b):(a:Int)<=b+-1:=Int.sub_right_le_iff_le_add.mp h0
theorem z73 {a b c:Int}(h0:a<=b+c*0):a<=b:=by lia
theorem z74 {a b:Nat}(h0:a<b)(h1:b<=a):False:=lin [_,_] [] [(1,.nl (.v 0) (.v 1)),(1,.nt (.v 1) (.v 0))] rfl h1 h0
theorem z75 {a:Nat}:1+(a:Int)=(a+1:Int):=Int.add_comm 1 ↑a
theorem z76 {a b:Nat}(h0:b<a):0<(a:Int):=Int.not_le.mp fun qz=>lin [_,_] [] [(1,.il (.c (.v 0)) (.n 0)),(1,.nt (.v 1) (.v 0))] rfl qz h0
theorem z77 {a b:Int}(h0:0<a-b)(h1:0<=b):1<=a:=Int.not_lt.mp fun qz=>lin [] [_,_] [(1,.it (.v 0) (.n 1)),(1,.il (.n 0) (.v 1)),(1,.it (.n 0) (.s (.v 0) (.v 1)))] rfl qz h1 h0
theorem z78 {a b c d:Int}(h0:0<b)(h1:0<c)(h2:0<=d)(h3:d-a+b+c=0):2<=a:=Int.not_lt.mp fun qz=>lin [] [_,_,_,_] [(1,.it (.v 0) (.n 2)),(1,.ie (.a (.a (.s (.v 1) (.v 0)) (.v 2)) (.v 3)) (.n 0)),(1,.il (.n 0) (.v 1)),(1,.it (.n 0) (.v 3)),(1,.it (.n 0) (.v 2))] rfl qz h3 h2 h1 h0
theorem z79 {a b c d:Int}(h0:0<b)(h1:0<=c)(h2:c-a+b+d=0)(h3:d=0):1<=a:=Int.not_lt.mp fun qz=>lin [] [_,_,_,_] [(1,.it (.v 0) (.n 1)),(1,.jf (.v 1) (.n 0)),(1,.ie (.a (.a (.s (.v 2) (.v 0)) (.v 3)) (.v 1)) (.n 0)),(1,.il (.n 0) (.v 2)),(1,.it (.n 0) (.v 3))] rfl qz h3 h2 h1 h0
theorem z80 {a b:Int}:0<a-b\/0<b-a\/a-b=0/\b-a=0:=(Int.lt_trichotomy a b).elim (fun h=>.inr (.inl (Int.sub_pos_of_lt h))) fun h=>h.elim (fun h=>.inr (.inr ⟨Int.sub_eq_zero_of_eq h,Int.sub_eq_zero_of_eq h.symm⟩)) fun h=>.inl (Int.sub_pos_of_lt h)
theorem z81 {a:Int}(h0: -2<=a)(h1:a<=2):a=0\/a=1\/a= -1\/a=2\/a= -2:=by lia
theorem z82 {a b c d e:Int}(h0:0*e+(1*a+(-1*b+(2*c+(-2*d+0))))=0):a-b+2*(c-d)=0:=by lia
theorem z83 {a b c d:Int}(h0:a-b+2*(c-d)=0)(h1:d-c=0):a=b:=Int.le_antisymm (Int.not_lt.mp fun qz=>lin [] [_,_,_,_] [(1,.it (.v 0) (.v 1)),(2,.ie (.s (.v 2) (.v 3)) (.n 0)),(1,.ie (.a (.s (.v 1) (.v 0)) (.m 2 (.s (.v 3) (.v 2)))) (.n 0))] rfl qz h1 h0) (Int.not_lt.mp fun qz=>lin [] [_,_,_,_] [(1,.it (.v 0) (.v 1)),(2,.jf (.s (.v 2) (.v 3)) (.n 0)),(1,.jf (.a (.s (.v 0) (.v 1)) (.m 2 (.s (.v 3) (.v 2)))) (.n 0))] rfl qz h1 h0)
theorem z84 {a b:Int}(h0:b-a=0):a=b:=Eq.symm (Int.eq_of_sub_eq_zero h0)
theorem z85 {a b c d e f g k m:Int}(h0:0*g+(1*a+(-1*b+(0*k+(0*m+(1*c+(-1*d+(1*e+(-1*f+0))))))))=0):a-b+(c-d)+(e-f)=0:=by lia
theorem z86 {a b c d e f g k m:Int}(h0:0*g+(0*k+(0*m+(1*a+(-1*b+(1*c+(-1*d+(-1*f+(1*e+0))))))))=0):a-b+(c-d)+(e-f)=0:=by lia
theorem z87 {a b c d e f g k m:Int}(h0:0*g+(1*b+(-1*a+(0*k+(0*m+(1*d+(-1*c+(1*f+(-1*e+0))))))))=0):a-b+(c-d)+(e-f)=0:=by lia
theorem z88 {a b c d e f g k m:Int}(h0:0*g+(0*k+(0*m+(1*b+(-1*a+(1*d+(-1*c+(-1*e+(1*f+0))))))))=0):a-b+(c-d)+(e-f)=0:=by lia
theorem z89 {b:Nat}{a:Int}:a<=(a.natAbs+b:Int):=Int.le_trans Int.le_natAbs (Int.le_add_of_nonneg_right (Int.natCast_nonneg b))
theorem z90 {b c:Nat}{a:Int}(h0:a<=(c:Int)):a<=(b+c:Int):=Int.not_lt.mp fun qz=>lin [_,_] [_] [(1,.it (.a (.c (.v 0)) (.c (.v 1))) (.v 0)),(1,.il (.v 0) (.c (.v 1)))] rfl qz h0
theorem z91 {b c:Nat}{a:Int}(h0:a<=(b:Int)):a<=(b+c:Int):=Int.not_lt.mp fun qz=>lin [_,_] [_] [(1,.it (.a (.c (.v 0)) (.c (.v 1))) (.v 0)),(1,.il (.v 0) (.c (.v 0)))] rfl qz h0
theorem z92 {a:Nat}(h0:4<=a):¬(a<3):=Nat.not_lt_of_gt h0
theorem z93 {a:Nat}(h0:4<=a):¬(a=3):=Nat.ne_of_lt' h0
theorem z94 {a b c:Nat}(h0:c<=a)(h1:b<=c):¬(a<b):=fun qz=>lin [_,_,_] [] [(1,.nt (.v 0) (.v 1)),(1,.nl (.v 1) (.v 2)),(1,.nl (.v 2) (.v 0))] rfl qz h1 h0
theorem z95 {a b c:Int}(h0: -c<=b)(h1:b<=c)(h2:c<=a): -a<=b/\b<=a:=⟨Int.not_lt.mp fun qz=>lin [] [_,_,_] [(1,.it (.v 0) (.g (.v 1))),(1,.il (.v 2) (.v 1)),(1,.il (.g (.v 2)) (.v 0))] rfl qz h2 h0,Int.le_trans h1 h2⟩
theorem z96 {a b:Nat}(h0:1+a=b)(h1:¬(4<=b)):a=0\/a=1\/a=2:=by lia
theorem z97 {a b:Nat}(h0:2+a=b)(h1:4<=b)(h2:b<=5):a=2\/a=3:=by lia
theorem z98 {a b:Nat}(h0:2+a=b)(h1:¬(4<=b)):a=0\/a=1:=by lia
theorem z99 {a b:Nat}(h0:3+a=b)(h1:b=5):a=2:=by lia
theorem z100 {a:Nat}(h0:a=5):4<=a:=Nat.le_of_lt (Nat.lt_of_lt_of_le (by decide) (Nat.le_of_eq h0.symm))
theorem z101 {a b:Nat}(h0:3+a=b)(h1:b<=5)(h2:¬(b=5)):a=0\/a=1:=by lia
theorem z102 {a b:Nat}(h0:a+1+1+1+1<=b)(h1:b<=3):False:=lin [_,_] [] [(1,.nl (.v 0) (.n 3)),(1,.nl (.a (.a (.a (.a (.v 1) (.n 1)) (.n 1)) (.n 1)) (.n 1)) (.v 0))] rfl h1 h0
theorem z112 {a b c:Nat}(h0:a<min c b):a<b:=Nat.lt_of_lt_of_le h0 (Nat.min_le_right _ _)
theorem z113 {a b c:Nat}(h0:a<min b c):a<b:=Nat.lt_of_lt_of_le h0 (Nat.min_le_left _ _)
theorem z114 {a b:Nat}(h0:b<a):a-1<a:=Nat.sub_one_lt_of_lt h0
theorem z115 {a b:Int}(h0:0<=b):a<=a+b:=Int.le_add_of_nonneg_right h0
theorem z116 {a b:Int}(h0:b=a+1):a<b:=Int.lt.intro (id (Eq.symm h0))
theorem z117 {a b c:Int}(h0:a<c)(h1:b=c+1):a<b:=Int.not_le.mp fun qz=>lin [] [_,_,_] [(1,.il (.v 0) (.v 1)),(1,.jf (.v 0) (.a (.v 2) (.n 1))),(1,.it (.v 1) (.v 2))] rfl qz h1 h0
theorem z118 {a b:Int}(h0:b<a):0<a-b:=Int.sub_pos_of_lt h0
theorem z119 {a b c:Int}(h0:0<=a)(h1:b-a=c)(h2:b<c):False:=lin [] [_,_,_] [(1,.it (.v 0) (.v 1)),(1,.jf (.s (.v 0) (.v 2)) (.v 1)),(1,.il (.n 0) (.v 2))] rfl h2 h1 h0
theorem z120 {a b c d:Nat}(h0:c<b)(h1:d=b-1)(h2:a<=d):a+1<=b:=Nat.not_lt.mp fun qz=>lin [_,_,_,_] [] [(1,.nt (.v 0) (.a (.v 1) (.n 1))),(1,.nl (.v 1) (.v 2)),(1,.ne (.v 2) (.v 3)),(1,.ne (.a (.v 3) (.n 1)) (.v 0))] rfl qz h2 h1 (Nat.sub_add_cancel (Nat.not_lt.mp fun qz=>lin [_,_] [] [(1,.nt (.v 0) (.n 1)),(1,.nt (.v 1) (.v 0))] rfl qz h0))
theorem z121 {a c:Nat}{b:Int}(h0:a<=c):(a:Int)+b<=(c:Int)+b:=Int.not_lt.mp fun qz=>lin [_,_] [_] [(1,.it (.a (.c (.v 0)) (.v 0)) (.a (.c (.v 1)) (.v 0))),(1,.nl (.v 1) (.v 0))] rfl qz h0
theorem z122 {a b c:Int}(h0:c<b)(h1:a<=c):a<b:=Int.lt_of_le_of_lt h1 h0
theorem z123 {a b c:Int}(h0:a=c+1)(h1:¬(b<=c)):a<=b:=Int.not_lt.mp fun qz=>lin [] [_,_,_] [(1,.it (.v 0) (.v 1)),(1,.it (.v 2) (.v 0)),(1,.ie (.v 1) (.a (.v 2) (.n 1)))] rfl qz (Int.not_le.mp h1) h0
theorem z124 {a b:Int}(h0:a<=b):a<=b+1:=Int.le_add_one h0
theorem z125 {b:Nat}{a:Int}(h0:a=(b:Int)+1):0<a:=Int.not_le.mp fun qz=>lin [_] [_] [(1,.il (.v 0) (.n 0)),(1,.jf (.v 0) (.a (.c (.v 0)) (.n 1)))] rfl qz h0
theorem z126 {a b:Int}(h0:a=b):a<=b:=Int.le_of_eq h0
theorem z127 {a b:Int}(h0:a=b+1)(h1:a<=b):False:=lin [] [_,_] [(1,.il (.v 0) (.v 1)),(1,.jf (.v 0) (.a (.v 1) (.n 1)))] rfl h1 h0
theorem z128 {a b:Int}(h0:¬(b<=a)):a+1<=b:=Int.not_lt.mp fun qz=>lin [] [_,_] [(1,.it (.v 0) (.a (.v 1) (.n 1))),(1,.it (.v 1) (.v 0))] rfl qz (Int.not_le.mp h0)
theorem z129 {c:Nat}{a b:Int}(h0:b=(c:Int)+1)(h1:a<=(c+1:Int)):a<=b:=Int.le_trans h1 (Int.le_of_eq h0.symm)
theorem z130 {a d:Nat}{b c:Int}(h0:(a+d:Int)+b<=c):(a:Int)+b<=c:=Int.not_lt.mp fun qz=>lin [_,_] [_,_] [(1,.it (.v 0) (.a (.c (.v 0)) (.v 1))),(1,.il (.a (.a (.c (.v 0)) (.c (.v 1))) (.v 1)) (.v 0))] rfl qz h0
theorem z131 {a:Nat}{b c:Int}(h0:(a+1:Int)+b<=c)(h1:c=(a:Int)+b):False:=lin [_] [_,_] [(1,.ie (.v 0) (.a (.c (.v 0)) (.v 1))),(1,.il (.a (.a (.c (.v 0)) (.n 1)) (.v 1)) (.v 0))] rfl h1 h0
theorem z132 {a b:Int}(h0:a<=b):a+0<=b:=Int.not_lt.mp fun qz=>lin [] [_,_] [(1,.it (.v 0) (.a (.v 1) (.n 0))),(1,.il (.v 1) (.v 0))] rfl qz h0
theorem z134 {a:Int}(h0: -a<0):1<=a:=Int.not_lt.mp fun qz=>lin [] [_] [(1,.it (.v 0) (.n 1)),(1,.it (.g (.v 0)) (.n 0))] rfl qz h0
theorem z192 {b:Nat}{a:Int}(h0: -(b:Int)<=a)(h1:a<=(b:Int)):a.natAbs<=b:=(Int.le_total 0 a).elim (fun h=>Int.ofNat_le.mp (Int.natAbs_of_nonneg h▸h1)) fun h=>Int.ofNat_le.mp (Int.ofNat_natAbs_of_nonpos h▸Int.neg_le_of_neg_le h0)
theorem z194 {a b:Int}(h0: -b<=a):0<=a+b:=Int.add_nonneg_iff_neg_le.mpr h0
theorem z252 {a:Nat}(h0:a<2):a=0\/a=1:=by lia
theorem z273 {a:Int}(h0:¬(1<=a)):a<=0:=by lia
theorem z274 {a b:Int}(h0:0<a)(h1:b= -a)(h2:b=0):False:=lin [] [_,_] [(1,.jf (.v 0) (.n 0)),(1,.ie (.v 0) (.g (.v 1))),(1,.it (.n 0) (.v 1))] rfl h2 h1 h0
theorem z275 {a b:Int}(h0:a<b):a<=b:=Int.le_of_lt h0
theorem z283 {a:Int}(h0:1<=a):0<a:=Int.lt_of_add_one_le h0
theorem z289 {a:Nat}:0<=(a:Int):=by simp
theorem z290 {b c:Nat}{a:Int}(h0:(b+c:Int)=a):a=(b:Int)+(c:Int):=(h0).symm
theorem z291 {a b c d e f g:Int}(h0:0<=c)(h1:2*d+2*e-a=c)(h2:f+g<=b)(h3:e=g)(h4:d=f):a<=2*b:=Int.not_lt.mp fun qz=>lin [] [_,_,_,_,_,_,_] [(1,.it (.m 2 (.v 0)) (.v 1)),(2,.ie (.v 2) (.v 3)),(2,.ie (.v 4) (.v 5)),(2,.il (.a (.v 3) (.v 5)) (.v 0)),(1,.jf (.s (.a (.m 2 (.v 2)) (.m 2 (.v 4))) (.v 1)) (.v 6)),(1,.il (.n 0) (.v 6))] rfl qz h4 h3 h2 h1 h0
theorem z296 {a b c:Int}(h0:0<=c)(h1:0<=b)(h2:0<=a):0<=a+b+c:=Int.not_lt.mp fun qz=>lin [] [_,_,_] [(1,.it (.a (.a (.v 0) (.v 1)) (.v 2)) (.n 0)),(1,.il (.n 0) (.v 0)),(1,.il (.n 0) (.v 1)),(1,.il (.n 0) (.v 2))] rfl qz h2 h1 h0
theorem z299 {a b c:Int}(h0:c<=4)(h1:b<=4)(h2:a<=4):a+b+c<=12:=Int.not_lt.mp fun qz=>lin [] [_,_,_] [(1,.it (.n 12) (.a (.a (.v 0) (.v 1)) (.v 2))),(1,.il (.v 0) (.n 4)),(1,.il (.v 1) (.n 4)),(1,.il (.v 2) (.n 4))] rfl qz h2 h1 h0
theorem z309 {b:Nat}{a:Int}(h0:0<=a)(h1:a<(b:Int)):a.toNat<b:=(Int.toNat_lt h0).mpr h1
theorem z310 {a b c d:Int}(h0:a+c=d)(h1:b+c=d):a=b:=Int.le_antisymm (Int.not_lt.mp fun qz=>lin [] [_,_,_,_] [(1,.it (.v 0) (.v 1)),(1,.jf (.a (.v 0) (.v 2)) (.v 3)),(1,.ie (.a (.v 1) (.v 2)) (.v 3))] rfl qz h1 h0) (Int.not_lt.mp fun qz=>lin [] [_,_,_,_] [(1,.it (.v 0) (.v 1)),(1,.ie (.a (.v 1) (.v 2)) (.v 3)),(1,.jf (.a (.v 0) (.v 2)) (.v 3))] rfl qz h1 h0)
theorem z311 {a b:Nat}(h0:0=a)(h1:a=b+1):False:=lin [_,_] [] [(1,.nf (.v 0) (.a (.v 1) (.n 1))),(1,.nf (.n 0) (.v 0))] rfl h1 h0
theorem z312 {a b:Nat}(h0:b<a):a=a-1+1:=((Nat.sub_add_cancel (Nat.not_lt.mp fun qz=>lin [_,_] [] [(1,.nt (.v 0) (.n 1)),(1,.nt (.v 1) (.v 0))] rfl qz h0))).symm
theorem z313 {a b c:Int}(h0:c<=b)(h1:a<=c):a<b+1:=Int.not_le.mp fun qz=>lin [] [_,_,_] [(1,.il (.a (.v 0) (.n 1)) (.v 1)),(1,.il (.v 1) (.v 2)),(1,.il (.v 2) (.v 0))] rfl qz h1 h0
theorem z314 {a:Nat}(h0:a<=24):a-1<=23:=Nat.sub_le_of_le_add h0
theorem z326 {a:Int}(h0: -2<=a)(h1:a<=2)(h2:¬(a=1\/a= -1)):a= -2\/a=0\/a=2:=by lia
theorem z327 {a:Int}(h0:a=2\/a= -2):a/2=1\/a/2= -1:=by rcases h0 with rfl|rfl<;>decide
theorem z337 {a:Int}(h0: -2<=a)(h1:a<=2): -2<=a/2/\a/2<=2:=⟨by lia,by lia⟩
theorem z338 {a:Int}(h0:a=0): -2<=a/\a<=2:=⟨Int.not_lt.mp fun qz=>lin [] [_] [(1,.it (.v 0) (.g (.n 2))),(1,.jf (.v 0) (.n 0))] rfl qz h0,Int.le_of_lt (Int.lt_of_le_of_lt (Int.le_of_eq h0) (by decide))⟩
theorem z339 {a b c d:Int}(h0:a=c\/a=b\/a=d)(h1:¬(a=d\/a=c)):a=b:=by lia
theorem z345 {b:Nat}{a:Int}(h0:a<=(b:Int)):(a+(b:Int)).toNat<2*b+1:=by simp;lia
theorem z359 {a b:Nat}(h0:a<b)(h1:b<=3):a=0\/a=1\/a=2:=by lia
theorem z364 {a b c d e f:Int}(h0:f=e)(h1:b=a)(h2:d=c):a=b/\c=d/\e=f:=⟨(h1).symm,⟨(h2).symm,(h0).symm⟩⟩
theorem z365 {a b c:Int}(h0:0<=c):a+b<=a+c+b:=Int.not_lt.mp fun qz=>lin [] [_,_,_] [(1,.it (.a (.a (.v 0) (.v 1)) (.v 2)) (.a (.v 0) (.v 2))),(1,.il (.n 0) (.v 1))] rfl qz h0
theorem z366 {a b c:Int}(h0:0<=c):a+b<=c+a+b:=Int.not_lt.mp fun qz=>lin [] [_,_,_] [(1,.it (.a (.a (.v 0) (.v 1)) (.v 2)) (.a (.v 1) (.v 2))),(1,.il (.n 0) (.v 0))] rfl qz h0
theorem z367 {a b c d:Int}(h0:¬(a≠b\/c≠b\/d≠b)):a=b:=by lia
theorem z368 {a b c d:Int}(h0:¬(c≠b\/a≠b\/d≠b)):a=b:=by lia
theorem z369 {a b c d:Int}(h0:¬(c≠b\/d≠b\/a≠b)):a=b:=by lia
theorem z401 {b:Nat}{a:Int}(h0:a<=(b:Int)):a.toNat<b+1:=by simp;lia
theorem z421 {a b c:Int}(h0: -a<=c-b)(h1:c-b<=a): -a<=b-c/\b-c<=a:=⟨Int.not_lt.mp fun qz=>lin [] [_,_,_] [(1,.it (.s (.v 0) (.v 1)) (.g (.v 2))),(1,.il (.s (.v 1) (.v 0)) (.v 2))] rfl qz h1,Int.not_lt.mp fun qz=>lin [] [_,_,_] [(1,.it (.v 0) (.s (.v 1) (.v 2))),(1,.il (.g (.v 0)) (.s (.v 2) (.v 1)))] rfl qz h0⟩
theorem z446 {a:Nat}:0<a+1:=Nat.zero_lt_succ a
theorem z473 {a:Nat}(h0:a<=5):a<=24:=Nat.le_of_lt (Nat.lt_of_le_of_lt h0 (by decide))
theorem z474 {a:Nat}(h0:a<=5):a-1<=4:=Nat.sub_le_of_le_add h0
theorem z475 {a b c d:Int}(h0:0<c)(h1:b<0)(h2:a<=b)(h3:c<=d):a<=b+c/\b+c<=d:=⟨Int.not_lt.mp fun qz=>lin [] [_,_,_] [(1,.it (.a (.v 0) (.v 1)) (.v 2)),(1,.il (.v 2) (.v 0)),(1,.it (.n 0) (.v 1))] rfl qz h2 h0,Int.not_lt.mp fun qz=>lin [] [_,_,_] [(1,.it (.v 0) (.a (.v 1) (.v 2))),(1,.il (.v 2) (.v 0)),(1,.it (.v 1) (.n 0))] rfl qz h3 h1⟩
theorem z476 {a b c d:Int}(h0:0<b)(h1:c<0)(h2:b<=d)(h3:a<=c):a<=b+c/\b+c<=d:=⟨Int.not_lt.mp fun qz=>lin [] [_,_,_] [(1,.it (.a (.v 0) (.v 1)) (.v 2)),(1,.il (.v 2) (.v 1)),(1,.it (.n 0) (.v 0))] rfl qz h3 h0,Int.not_lt.mp fun qz=>lin [] [_,_,_] [(1,.it (.v 0) (.a (.v 1) (.v 2))),(1,.il (.v 1) (.v 0)),(1,.it (.v 2) (.n 0))] rfl qz h2 h1⟩
theorem z477 {a:Nat}(h0:a<=20):2*a+2<=100000000:=Nat.not_lt.mp fun qz=>lin [_] [] [(1,.nt (.n 100000000) (.a (.m 2 (.v 0)) (.n 2))),(2,.nl (.v 0) (.n 20))] rfl qz h0
theorem z478 {c:Nat}{a b:Int}(h0:a<b+(c:Int))(h1:b<=a):(a-b).toNat<c:=Int.ofNat_lt.mp ((Int.toNat_of_nonneg (Int.sub_nonneg_of_le h1)).symm▸Int.sub_left_lt_of_lt_add h0)
theorem z479 {a b:Int}:a+(b-a)=b:=by lia
theorem z480 {a:Int}(h0:¬(-2<=a)):3<=-a:=Int.not_lt.mp fun qz=>lin [] [_] [(1,.it (.g (.v 0)) (.n 3)),(1,.it (.v 0) (.g (.n 2)))] rfl qz (Int.not_le.mp h0)
theorem z481 {a:Int}(h0:¬(-2<=a)):0<=-a:=Int.not_lt.mp fun qz=>lin [] [_] [(1,.it (.g (.v 0)) (.n 0)),(1,.it (.v 0) (.g (.n 2)))] rfl qz (Int.not_le.mp h0)
theorem z482 {a:Int}(h0:¬(a<3)):0<=a:=Int.le_of_lt (Int.lt_of_lt_of_le (by decide) (Int.not_lt.mp h0))
theorem z483 {a b:Int}(h0:a*3<=b)(h1:b<=4)(h2:¬(a<3)):False:=by lia
theorem z484 {a b c:Int}(h0:0<=b)(h1:a<=c):a<=b+c:=Int.not_lt.mp fun qz=>lin [] [_,_,_] [(1,.it (.a (.v 0) (.v 1)) (.v 2)),(1,.il (.v 2) (.v 1)),(1,.il (.n 0) (.v 0))] rfl qz h1 h0
theorem z485 {a b c:Int}(h0:c<=b)(h1:a<=c):a<=b:=Int.le_trans h1 h0
theorem z486 {a:Int}(h0: -1<=a)(h1:a<=1): -1<=a/\a< -1+(3:Int):=⟨h0,Int.not_le.mp fun qz=>lin [] [_] [(1,.il (.a (.g (.n 1)) (.n 3)) (.v 0)),(1,.il (.v 0) (.n 1))] rfl qz h1⟩
theorem z487 {a:Int}(h0: -1<=a)(h1:a<=1):a= -1\/a=0\/a=1:=by lia
theorem z491 {b:Nat}{a:Int}(h0:a<=(b:Int))(h1:b<=3):a<=4:=Int.not_lt.mp fun qz=>lin [_] [_] [(1,.it (.n 4) (.v 0)),(1,.nl (.v 0) (.n 3)),(1,.il (.v 0) (.c (.v 0)))] rfl qz h1 h0
theorem z492 {b:Nat}{a:Int}(h0:a<=(b+1:Int))(h1:b<=33):a<=(34:Int):=Int.not_lt.mp fun qz=>lin [_] [_] [(1,.it (.n 34) (.v 0)),(1,.nl (.v 0) (.n 33)),(1,.il (.v 0) (.a (.c (.v 0)) (.n 1)))] rfl qz h1 h0
theorem z493 {a:Nat}(h0:a<1):a=0:=Nat.lt_one_iff.mp h0
theorem z494 {a b:Int}(h0:1*a<=b):a<=b:=Int.not_lt.mp fun qz=>lin [] [_,_] [(1,.it (.v 0) (.v 1)),(1,.il (.m 1 (.v 1)) (.v 0))] rfl qz h0
theorem z495 {a b:Int}:0+a+-b=a-b:=by lia
theorem z496 {a b:Int}:0+-a+b=b-a:=by lia
theorem z497 {a b:Int}(h0:0<a)(h1:0<=b): -a<=b:=Int.not_lt.mp fun qz=>lin [] [_,_] [(1,.it (.v 0) (.g (.v 1))),(1,.il (.n 0) (.v 0)),(1,.it (.n 0) (.v 1))] rfl qz h1 h0
theorem z498 {b:Nat}{a:Int}(h0: -(b*(20*20):Int)<=a)(h1:a<=(b*(20*20):Int))(h2:b<=3): -1200<=a/\a<=1200:=⟨by lia,by lia⟩
theorem z499 {a b:Int}(h0: -b<=-a):a<=b:=Int.le_of_neg_le_neg h0
theorem z500 {a b c d e f g k m n p q:Int}(h0:c=d+e)(h1:f=g+k)(h2:m<=1200*1200)(h3:n<=1200*1200)(h4:p<=1200*1200)(h5:q<=1200*1200)(h6:b<=c)(h7:e<=m)(h8:d<=p)(h9:k<=n)(h10:g<=q)(h11:a<=f):a<=2880000/\b<=2880000:=⟨Int.not_lt.mp fun qz=>lin [] [_,_,_,_,_,_] [(1,.it (.n 2880000) (.v 0)),(1,.il (.v 0) (.v 1)),(1,.il (.v 2) (.v 3)),(1,.il (.v 4) (.v 5)),(1,.il (.v 3) (.m 1200 (.n 1200))),(1,.il (.v 5) (.m 1200 (.n 1200))),(1,.ie (.v 1) (.a (.v 2) (.v 4)))] rfl qz h11 h10 h9 h5 h3 h1,Int.not_lt.mp fun qz=>lin [] [_,_,_,_,_,_] [(1,.it (.n 2880000) (.v 0)),(1,.il (.v 1) (.v 2)),(1,.il (.v 3) (.v 4)),(1,.il (.v 0) (.v 5)),(1,.il (.v 2) (.m 1200 (.n 1200))),(1,.il (.v 4) (.m 1200 (.n 1200))),(1,.ie (.v 5) (.a (.v 1) (.v 3)))] rfl qz h8 h7 h6 h4 h2 h0⟩
theorem z501 {a b c:Int}(h0:1<=c)(h1:a<b):a<b+c:=Int.not_le.mp fun qz=>lin [] [_,_,_] [(1,.il (.a (.v 0) (.v 1)) (.v 2)),(1,.it (.v 2) (.v 0)),(1,.il (.n 1) (.v 1))] rfl qz h1 h0
theorem z502 {a b c:Int}(h0: -b<=-c)(h1:a<c):a<=b:=Int.not_lt.mp fun qz=>lin [] [_,_,_] [(1,.it (.v 0) (.v 1)),(1,.it (.v 1) (.v 2)),(1,.il (.g (.v 0)) (.g (.v 2)))] rfl qz h1 h0
theorem z503 {a b c d e f:Int}(h0: -1200<=-c)(h1:d-e<=f)(h2:a<c)(h3:f<=1200)(h4:e<=1200*1200)(h5:b<=d):a<=2880000/\b<=2880000:=⟨Int.not_lt.mp fun qz=>lin [] [_,_] [(1,.it (.n 2880000) (.v 0)),(1,.it (.v 0) (.v 1)),(1,.il (.g (.n 1200)) (.g (.v 1)))] rfl qz h2 h0,Int.not_lt.mp fun qz=>lin [] [_,_,_,_] [(1,.it (.n 2880000) (.v 0)),(1,.il (.v 0) (.v 1)),(1,.il (.v 2) (.m 1200 (.n 1200))),(1,.il (.v 3) (.n 1200)),(1,.il (.s (.v 1) (.v 2)) (.v 3))] rfl qz h5 h4 h3 h1⟩
theorem z504 {a b c d:Int}(h0:a-d<=b)(h1:d<=c):a<=b+c:=Int.not_lt.mp fun qz=>lin [] [_,_,_,_] [(1,.it (.a (.v 0) (.v 1)) (.v 2)),(1,.il (.v 3) (.v 1)),(1,.il (.s (.v 2) (.v 3)) (.v 0))] rfl qz h1 h0
theorem z505 {a b c d:Int}(h0: -1200<=-c)(h1:b<d)(h2:a<=1+c)(h3:d<=1200):a<=2880000/\b<=2880000:=⟨Int.not_lt.mp fun qz=>lin [] [_,_] [(1,.it (.n 2880000) (.v 0)),(1,.il (.v 0) (.a (.n 1) (.v 1))),(1,.il (.g (.n 1200)) (.g (.v 1)))] rfl qz h2 h0,Int.le_of_lt (Int.lt_trans (Int.lt_of_lt_of_le h1 h3) (by decide))⟩
theorem z506 {a b c d:Int}(h0: -1200<=-c)(h1:c=a)(h2:d=b)(h3:d<=1200):a<=2880000/\b<=2880000:=⟨Int.not_lt.mp fun qz=>lin [] [_,_] [(1,.it (.n 2880000) (.v 0)),(1,.jf (.v 1) (.v 0)),(1,.il (.g (.n 1200)) (.g (.v 1)))] rfl qz h1 h0,Int.le_of_lt (Int.lt_of_le_of_lt (Int.le_trans (Int.le_of_eq h2.symm) h3) (by decide))⟩
theorem z507 {a b c:Int}(h0:c=1)(h1:b<=c)(h2:a<=c):a<=2880000/\b<=2880000:=⟨Int.le_of_lt (Int.lt_of_le_of_lt (Int.le_trans h2 (Int.le_of_eq h0)) (by decide)),Int.le_of_lt (Int.lt_of_le_of_lt (Int.le_trans h1 (Int.le_of_eq h0)) (by decide))⟩
theorem z508 {a b c:Int}(h0:a=0+b+c)(h1:c<=2880000)(h2:b<=2880000):a<=(5760000:Int):=Int.not_lt.mp fun qz=>lin [] [_,_,_] [(1,.it (.n 5760000) (.v 0)),(1,.il (.v 1) (.n 2880000)),(1,.il (.v 2) (.n 2880000)),(1,.ie (.v 0) (.a (.a (.n 0) (.v 1)) (.v 2)))] rfl qz h2 h1 h0
theorem z509 {a:Int}(h0:a<=2880000):a<2880001:=Int.lt_of_le_sub_one h0
theorem z510 {a:Int}(h0: -2<=a)(h1:a<=2):a= -2\/a= -1\/a=0\/a=1\/a=2:=by lia
theorem z511 {a b:Int}(h0: -a<=b):0<=a+b:=Int.add_nonneg_iff_neg_le'.mpr h0
theorem z512 {a b c d:Int}(h0:a<0)(h1:b<=1)(h2:d<=2*2)(h3:c<=2*2):2*a+(b+(c+(d+0)))<=8:=Int.not_lt.mp fun qz=>lin [] [_,_,_,_] [(1,.it (.n 8) (.a (.m 2 (.v 0)) (.a (.v 1) (.a (.v 2) (.a (.v 3) (.n 0)))))),(1,.il (.v 2) (.m 2 (.n 2))),(1,.il (.v 3) (.m 2 (.n 2))),(1,.il (.v 1) (.n 1)),(2,.it (.v 0) (.n 0))] rfl qz h3 h2 h1 h0
theorem z513 {a b c d:Int}(h0:a<0)(h1:c<=1)(h2:d<=2*2)(h3:b<=2*2):2*a+(b+(c+(d+0)))<=8:=Int.not_lt.mp fun qz=>lin [] [_,_,_,_] [(1,.it (.n 8) (.a (.m 2 (.v 0)) (.a (.v 1) (.a (.v 2) (.a (.v 3) (.n 0)))))),(1,.il (.v 1) (.m 2 (.n 2))),(1,.il (.v 3) (.m 2 (.n 2))),(1,.il (.v 2) (.n 1)),(2,.it (.v 0) (.n 0))] rfl qz h3 h2 h1 h0
theorem z514 {a b c d:Int}(h0:a<0)(h1:d<=1)(h2:c<=2*2)(h3:b<=2*2):2*a+(b+(c+(d+0)))<=8:=Int.not_lt.mp fun qz=>lin [] [_,_,_,_] [(1,.it (.n 8) (.a (.m 2 (.v 0)) (.a (.v 1) (.a (.v 2) (.a (.v 3) (.n 0)))))),(1,.il (.v 1) (.m 2 (.n 2))),(1,.il (.v 2) (.m 2 (.n 2))),(1,.il (.v 3) (.n 1)),(2,.it (.v 0) (.n 0))] rfl qz h3 h2 h1 h0
theorem z523 {a b c:Int}:a+b+(b+c)=a+(2*b+c):=by lia
theorem z524 {a b c d:Int}(h0:b<=8)(h1:a<=8*c+d):a+b<=8*(c+1)+d:=Int.not_lt.mp fun qz=>lin [] [_,_,_,_] [(1,.it (.a (.m 8 (.a (.v 0) (.n 1))) (.v 1)) (.a (.v 2) (.v 3))),(1,.il (.v 2) (.a (.m 8 (.v 0)) (.v 1))),(1,.il (.v 3) (.n 8))] rfl qz h1 h0
theorem z525 {a b c:Int}:a+(b+(c+0))=a+b+c:=by lia
theorem z526 {a:Int}(h0:0<=a): -a<=0:=Int.not_lt.mp fun qz=>lin [] [_] [(1,.it (.n 0) (.g (.v 0))),(1,.il (.n 0) (.v 0))] rfl qz h0
theorem z527 {a:Int}(h0:0<=a)(h1:a≠0):1<=a:=by lia
theorem z528 {a b c:Int}(h0:a<=c)(h1:¬(b<c)):a<=b:=Int.le_trans h0 (Int.not_lt.mp h1)
theorem z529 {a b c d:Int}(h0:0<=b)(h1:0<=c)(h2:0<=d)(h3:b+c+d=a):0<=a:=Int.not_lt.mp fun qz=>lin [] [_,_,_,_] [(1,.it (.v 0) (.n 0)),(1,.ie (.a (.a (.v 1) (.v 2)) (.v 3)) (.v 0)),(1,.il (.n 0) (.v 3)),(1,.il (.n 0) (.v 2)),(1,.il (.n 0) (.v 1))] rfl qz h3 h2 h1 h0
theorem z530 {a b:Int}(h0:b=a)(h1:¬(b<=10368)):10369<=a:=Int.not_lt.mp fun qz=>lin [] [_,_] [(1,.it (.v 0) (.n 10369)),(1,.it (.n 10368) (.v 1)),(1,.ie (.v 1) (.v 0))] rfl qz (Int.not_le.mp h1) h0
theorem z531 {a b:Int}(h0:b=a)(h1:¬(b<=10368)):0<=a:=Int.le_of_lt (Int.lt_of_lt_of_le (Int.lt_trans (by decide) (Int.not_le.mp h1)) (Int.le_of_eq h0))
theorem z532 {a b c d e f g:Int}(h0:10369*a<=b)(h1:c=a)(h2:b<=3*(d+e+f))(h3:g<=8*c+4)(h4:e<=g*144)(h5:f<=g*144)(h6:d<=g*144)(h7:¬(c<=10368)):False:=by lia
theorem z533 {a b c:Int}(h0:b<=10368)(h1:c<=8*b+4)(h2:a<=c*144):a<3500*3500:=by lia
theorem z534 {a b:Int}(h0:a*1<=b):a<=b:=by lia
theorem z535 {a b:Int}(h0:b<=-a):a<=-b:=Int.not_lt.mp fun qz=>lin [] [_,_] [(1,.it (.g (.v 0)) (.v 1)),(1,.il (.v 0) (.g (.v 1)))] rfl qz h0
theorem z536 {a b c d e:Int}(h0: -c<=d-e)(h1:a<=-d)(h2:b<=e):a+b<=c:=Int.not_lt.mp fun qz=>lin [] [_,_,_,_,_] [(1,.it (.v 0) (.a (.v 1) (.v 2))),(1,.il (.v 2) (.v 3)),(1,.il (.v 1) (.g (.v 4))),(1,.il (.g (.v 0)) (.s (.v 4) (.v 3)))] rfl qz h2 h1 h0
theorem z537 {a b:Int}(h0:a<=b*8):a<=8*b:=by lia
theorem z538 {a b:Int}(h0: -b<=a): -a<=b:=Int.not_lt.mp fun qz=>lin [] [_,_] [(1,.it (.v 0) (.g (.v 1))),(1,.il (.g (.v 0)) (.v 1))] rfl qz h0
theorem z539 {a b:Int}(h0: -b<=a*8): -(8*a)<=b:=by lia
theorem z540 {a b c d e:Int}(h0: -b<=d-e)(h1:a<=e)(h2:d<=c):a<=b+c:=Int.not_lt.mp fun qz=>lin [] [_,_,_,_,_] [(1,.it (.a (.v 0) (.v 1)) (.v 2)),(1,.il (.v 3) (.v 1)),(1,.il (.v 2) (.v 4)),(1,.il (.g (.v 0)) (.s (.v 3) (.v 4)))] rfl qz h2 h1 h0
theorem z541 {a b c d e:Int}(h0: -c<=d)(h1:d-e<=b)(h2:a<=-e):a<=b+c:=Int.not_lt.mp fun qz=>lin [] [_,_,_,_,_] [(1,.it (.a (.v 0) (.v 1)) (.v 2)),(1,.il (.v 2) (.g (.v 3))),(1,.il (.s (.v 4) (.v 3)) (.v 0)),(1,.il (.g (.v 1)) (.v 4))] rfl qz h2 h1 h0
theorem z542 {a b c d e f g:Int}(h0:0<=b)(h1:a=e)(h2:c=f)(h3:d=g)(h4:g<=8)(h5:f<=8)(h6:e<=8):a<=b+56/\c<=b+56/\d<=b+56:=⟨Int.not_lt.mp fun qz=>lin [] [_,_,_] [(1,.it (.a (.v 0) (.n 56)) (.v 1)),(1,.il (.v 2) (.n 8)),(1,.ie (.v 1) (.v 2)),(1,.il (.n 0) (.v 0))] rfl qz h6 h1 h0,⟨Int.not_lt.mp fun qz=>lin [] [_,_,_] [(1,.it (.a (.v 0) (.n 56)) (.v 1)),(1,.il (.v 2) (.n 8)),(1,.ie (.v 1) (.v 2)),(1,.il (.n 0) (.v 0))] rfl qz h5 h2 h0,Int.not_lt.mp fun qz=>lin [] [_,_,_] [(1,.it (.a (.v 0) (.n 56)) (.v 1)),(1,.il (.v 2) (.n 8)),(1,.ie (.v 1) (.v 2)),(1,.il (.n 0) (.v 0))] rfl qz h4 h3 h0⟩⟩
theorem z543 {a b:Int}(h0:b<=8)(h1:¬(b<=a)):a<=7:=Int.not_lt.mp fun qz=>lin [] [_,_] [(1,.it (.n 7) (.v 0)),(1,.it (.v 0) (.v 1)),(1,.il (.v 1) (.n 8))] rfl qz (Int.not_le.mp h1) h0
theorem z544 {a b:Int}(h0:0<=b)(h1:¬(a<=b)):1<=a:=Int.not_lt.mp fun qz=>lin [] [_,_] [(1,.it (.v 0) (.n 1)),(1,.it (.v 1) (.v 0)),(1,.il (.n 0) (.v 1))] rfl qz (Int.not_le.mp h1) h0
theorem z545 {a b:Int}(h0:0<=b)(h1:b<=a): -a<=b/\b<=a:=⟨Int.not_lt.mp fun qz=>lin [] [_,_] [(1,.it (.v 0) (.g (.v 1))),(1,.il (.v 0) (.v 1)),(2,.il (.n 0) (.v 0))] rfl qz h1 h0,h1⟩
theorem z546 {a b c d e f:Int}(h0: -b<=e)(h1:f<=8)(h2:e<=b)(h3:c<=b+8*7)(h4:a<=b+8*7)(h5:¬(f<=d)):a<=b+56/\c<=b+56/\d<=b+56:=⟨Int.not_lt.mp fun qz=>lin [] [_,_] [(1,.it (.a (.v 0) (.n 56)) (.v 1)),(1,.il (.v 1) (.a (.v 0) (.m 8 (.n 7))))] rfl qz h4,⟨Int.not_lt.mp fun qz=>lin [] [_,_] [(1,.it (.a (.v 0) (.n 56)) (.v 1)),(1,.il (.v 1) (.a (.v 0) (.m 8 (.n 7))))] rfl qz h3,Int.not_lt.mp fun qz=>lin [] [_,_,_,_] [(2,.it (.a (.v 0) (.n 56)) (.v 1)),(2,.it (.v 1) (.v 2)),(1,.il (.v 3) (.v 0)),(2,.il (.v 2) (.n 8)),(1,.il (.g (.v 0)) (.v 3))] rfl qz (Int.not_le.mp h5) h2 h1 h0⟩⟩
theorem z547 {a b c d e:Int}(h0:0<=b)(h1:e<=8)(h2:d<=b+8*7)(h3:a<=b+8*7)(h4:¬(e<=c)):a<=b+56/\c<=b+56/\d<=b+56:=⟨Int.not_lt.mp fun qz=>lin [] [_,_] [(1,.it (.a (.v 0) (.n 56)) (.v 1)),(1,.il (.v 1) (.a (.v 0) (.m 8 (.n 7))))] rfl qz h3,⟨Int.not_lt.mp fun qz=>lin [] [_,_,_] [(1,.it (.a (.v 0) (.n 56)) (.v 1)),(1,.it (.v 1) (.v 2)),(1,.il (.v 2) (.n 8)),(1,.il (.n 0) (.v 0))] rfl qz (Int.not_le.mp h4) h1 h0,Int.not_lt.mp fun qz=>lin [] [_,_] [(1,.it (.a (.v 0) (.n 56)) (.v 1)),(1,.il (.v 1) (.a (.v 0) (.m 8 (.n 7))))] rfl qz h2⟩⟩
theorem z548 {a b c d e:Int}(h0:0<=b)(h1:e<=8)(h2:d<=b+8*7)(h3:c<=b+8*7)(h4:¬(e<=a)):a<=b+56/\c<=b+56/\d<=b+56:=⟨Int.not_lt.mp fun qz=>lin [] [_,_,_] [(1,.it (.a (.v 0) (.n 56)) (.v 1)),(1,.it (.v 1) (.v 2)),(1,.il (.v 2) (.n 8)),(1,.il (.n 0) (.v 0))] rfl qz (Int.not_le.mp h4) h1 h0,⟨Int.not_lt.mp fun qz=>lin [] [_,_] [(1,.it (.a (.v 0) (.n 56)) (.v 1)),(1,.il (.v 1) (.a (.v 0) (.m 8 (.n 7))))] rfl qz h3,Int.not_lt.mp fun qz=>lin [] [_,_] [(1,.it (.a (.v 0) (.n 56)) (.v 1)),(1,.il (.v 1) (.a (.v 0) (.m 8 (.n 7))))] rfl qz h2⟩⟩
theorem z549 {a b c:Int}(h0:c=b)(h1:a<=c):a<=b:=Int.le_trans h1 (Int.le_of_eq h0)
theorem z550 {a b c:Int}(h0:c=2*b)(h1:a<=c+8*b):a<=10*b:=Int.not_lt.mp fun qz=>lin [] [_,_,_] [(1,.it (.m 10 (.v 0)) (.v 1)),(1,.il (.v 1) (.a (.v 2) (.m 8 (.v 0)))),(1,.ie (.v 2) (.m 2 (.v 0)))] rfl qz h1 h0
theorem z551 {a b c d:Int}(h0:c+a<=d)(h1:d=2*b)(h2:¬(c<=b)):a<=b:=Int.not_lt.mp fun qz=>lin [] [_,_,_,_] [(1,.it (.v 0) (.v 1)),(1,.it (.v 0) (.v 2)),(1,.ie (.v 3) (.m 2 (.v 0))),(1,.il (.a (.v 2) (.v 1)) (.v 3))] rfl qz (Int.not_le.mp h2) h1 h0
theorem z552 {a b c d:Int}(h0:0<=c)(h1:0<=a)(h2:a+c<=2*b)(h3:d<=10*b):a<=10*b+56/\c<=10*b+56/\d<=10*b+56/\a+c+d<=12*b+168:=⟨Int.not_lt.mp fun qz=>lin [] [_,_,_] [(1,.it (.a (.m 10 (.v 0)) (.n 56)) (.v 1)),(5,.il (.a (.v 1) (.v 2)) (.m 2 (.v 0))),(4,.il (.n 0) (.v 1)),(5,.il (.n 0) (.v 2))] rfl qz h2 h1 h0,⟨Int.not_lt.mp fun qz=>lin [] [_,_,_] [(1,.it (.a (.m 10 (.v 0)) (.n 56)) (.v 1)),(5,.il (.a (.v 2) (.v 1)) (.m 2 (.v 0))),(5,.il (.n 0) (.v 2)),(4,.il (.n 0) (.v 1))] rfl qz h2 h1 h0,⟨Int.not_lt.mp fun qz=>lin [] [_,_] [(1,.it (.a (.m 10 (.v 0)) (.n 56)) (.v 1)),(1,.il (.v 1) (.m 10 (.v 0)))] rfl qz h3,Int.not_lt.mp fun qz=>lin [] [_,_,_,_] [(1,.it (.a (.m 12 (.v 0)) (.n 168)) (.a (.a (.v 1) (.v 2)) (.v 3))),(1,.il (.v 3) (.m 10 (.v 0))),(1,.il (.a (.v 1) (.v 2)) (.m 2 (.v 0)))] rfl qz h3 h2⟩⟩⟩
theorem z553 {a b c d:Int}(h0:0<=c)(h1:0<=a)(h2:c+a<=2*b)(h3:d<=10*b):a<=10*b+56/\c<=10*b+56/\d<=10*b+56/\a+c+d<=12*b+168:=⟨Int.not_lt.mp fun qz=>lin [] [_,_,_] [(1,.it (.a (.m 10 (.v 0)) (.n 56)) (.v 1)),(5,.il (.a (.v 2) (.v 1)) (.m 2 (.v 0))),(4,.il (.n 0) (.v 1)),(5,.il (.n 0) (.v 2))] rfl qz h2 h1 h0,⟨Int.not_lt.mp fun qz=>lin [] [_,_,_] [(1,.it (.a (.m 10 (.v 0)) (.n 56)) (.v 1)),(5,.il (.a (.v 1) (.v 2)) (.m 2 (.v 0))),(5,.il (.n 0) (.v 2)),(4,.il (.n 0) (.v 1))] rfl qz h2 h1 h0,⟨Int.not_lt.mp fun qz=>lin [] [_,_] [(1,.it (.a (.m 10 (.v 0)) (.n 56)) (.v 1)),(1,.il (.v 1) (.m 10 (.v 0)))] rfl qz h3,Int.not_lt.mp fun qz=>lin [] [_,_,_,_] [(1,.it (.a (.m 12 (.v 0)) (.n 168)) (.a (.a (.v 1) (.v 2)) (.v 3))),(1,.il (.v 3) (.m 10 (.v 0))),(1,.il (.a (.v 2) (.v 1)) (.m 2 (.v 0)))] rfl qz h3 h2⟩⟩⟩
theorem z554 {a b c d:Int}(h0:0<=d)(h1:0<=a)(h2:a+d<=2*b)(h3:c<=10*b):a<=10*b+56/\c<=10*b+56/\d<=10*b+56/\a+c+d<=12*b+168:=⟨Int.not_lt.mp fun qz=>lin [] [_,_,_] [(1,.it (.a (.m 10 (.v 0)) (.n 56)) (.v 1)),(5,.il (.a (.v 1) (.v 2)) (.m 2 (.v 0))),(4,.il (.n 0) (.v 1)),(5,.il (.n 0) (.v 2))] rfl qz h2 h1 h0,⟨Int.not_lt.mp fun qz=>lin [] [_,_] [(1,.it (.a (.m 10 (.v 0)) (.n 56)) (.v 1)),(1,.il (.v 1) (.m 10 (.v 0)))] rfl qz h3,⟨Int.not_lt.mp fun qz=>lin [] [_,_,_] [(1,.it (.a (.m 10 (.v 0)) (.n 56)) (.v 1)),(5,.il (.a (.v 2) (.v 1)) (.m 2 (.v 0))),(5,.il (.n 0) (.v 2)),(4,.il (.n 0) (.v 1))] rfl qz h2 h1 h0,Int.not_lt.mp fun qz=>lin [] [_,_,_,_] [(1,.it (.a (.m 12 (.v 0)) (.n 168)) (.a (.a (.v 1) (.v 2)) (.v 3))),(1,.il (.v 2) (.m 10 (.v 0))),(1,.il (.a (.v 1) (.v 3)) (.m 2 (.v 0)))] rfl qz h3 h2⟩⟩⟩
theorem z555 {a b c d:Int}(h0:0<=d)(h1:0<=a)(h2:d+a<=2*b)(h3:c<=10*b):a<=10*b+56/\c<=10*b+56/\d<=10*b+56/\a+c+d<=12*b+168:=⟨Int.not_lt.mp fun qz=>lin [] [_,_,_] [(1,.it (.a (.m 10 (.v 0)) (.n 56)) (.v 1)),(5,.il (.a (.v 2) (.v 1)) (.m 2 (.v 0))),(4,.il (.n 0) (.v 1)),(5,.il (.n 0) (.v 2))] rfl qz h2 h1 h0,⟨Int.not_lt.mp fun qz=>lin [] [_,_] [(1,.it (.a (.m 10 (.v 0)) (.n 56)) (.v 1)),(1,.il (.v 1) (.m 10 (.v 0)))] rfl qz h3,⟨Int.not_lt.mp fun qz=>lin [] [_,_,_] [(1,.it (.a (.m 10 (.v 0)) (.n 56)) (.v 1)),(5,.il (.a (.v 1) (.v 2)) (.m 2 (.v 0))),(5,.il (.n 0) (.v 2)),(4,.il (.n 0) (.v 1))] rfl qz h2 h1 h0,Int.not_lt.mp fun qz=>lin [] [_,_,_,_] [(1,.it (.a (.m 12 (.v 0)) (.n 168)) (.a (.a (.v 1) (.v 2)) (.v 3))),(1,.il (.v 2) (.m 10 (.v 0))),(1,.il (.a (.v 3) (.v 1)) (.m 2 (.v 0)))] rfl qz h3 h2⟩⟩⟩
theorem z556 {a b c d:Int}(h0:0<=d)(h1:0<=c)(h2:c+d<=2*b)(h3:a<=10*b):a<=10*b+56/\c<=10*b+56/\d<=10*b+56/\a+c+d<=12*b+168:=⟨Int.not_lt.mp fun qz=>lin [] [_,_] [(1,.it (.a (.m 10 (.v 0)) (.n 56)) (.v 1)),(1,.il (.v 1) (.m 10 (.v 0)))] rfl qz h3,⟨Int.not_lt.mp fun qz=>lin [] [_,_,_] [(1,.it (.a (.m 10 (.v 0)) (.n 56)) (.v 1)),(5,.il (.a (.v 1) (.v 2)) (.m 2 (.v 0))),(4,.il (.n 0) (.v 1)),(5,.il (.n 0) (.v 2))] rfl qz h2 h1 h0,⟨Int.not_lt.mp fun qz=>lin [] [_,_,_] [(1,.it (.a (.m 10 (.v 0)) (.n 56)) (.v 1)),(5,.il (.a (.v 2) (.v 1)) (.m 2 (.v 0))),(5,.il (.n 0) (.v 2)),(4,.il (.n 0) (.v 1))] rfl qz h2 h1 h0,Int.not_lt.mp fun qz=>lin [] [_,_,_,_] [(1,.it (.a (.m 12 (.v 0)) (.n 168)) (.a (.a (.v 1) (.v 2)) (.v 3))),(1,.il (.v 1) (.m 10 (.v 0))),(1,.il (.a (.v 2) (.v 3)) (.m 2 (.v 0)))] rfl qz h3 h2⟩⟩⟩
theorem z557 {a b c d:Int}(h0:0<=d)(h1:0<=c)(h2:d+c<=2*b)(h3:a<=10*b):a<=10*b+56/\c<=10*b+56/\d<=10*b+56/\a+c+d<=12*b+168:=⟨Int.not_lt.mp fun qz=>lin [] [_,_] [(1,.it (.a (.m 10 (.v 0)) (.n 56)) (.v 1)),(1,.il (.v 1) (.m 10 (.v 0)))] rfl qz h3,⟨Int.not_lt.mp fun qz=>lin [] [_,_,_] [(1,.it (.a (.m 10 (.v 0)) (.n 56)) (.v 1)),(5,.il (.a (.v 2) (.v 1)) (.m 2 (.v 0))),(4,.il (.n 0) (.v 1)),(5,.il (.n 0) (.v 2))] rfl qz h2 h1 h0,⟨Int.not_lt.mp fun qz=>lin [] [_,_,_] [(1,.it (.a (.m 10 (.v 0)) (.n 56)) (.v 1)),(5,.il (.a (.v 1) (.v 2)) (.m 2 (.v 0))),(5,.il (.n 0) (.v 2)),(4,.il (.n 0) (.v 1))] rfl qz h2 h1 h0,Int.not_lt.mp fun qz=>lin [] [_,_,_,_] [(1,.it (.a (.m 12 (.v 0)) (.n 168)) (.a (.a (.v 1) (.v 2)) (.v 3))),(1,.il (.v 1) (.m 10 (.v 0))),(1,.il (.a (.v 3) (.v 2)) (.m 2 (.v 0)))] rfl qz h3 h2⟩⟩⟩
theorem z558 {a:Int}(h0:0<=a):0<=2*a:=Int.not_lt.mp fun qz=>lin [] [_] [(1,.it (.m 2 (.v 0)) (.n 0)),(2,.il (.n 0) (.v 0))] rfl qz h0
theorem z559 {a b c d:Int}(h0:0<=b)(h1:a<=2*b+56)(h2:c<=2*b+56)(h3:d<=2*b+56):a<=10*b+56/\c<=10*b+56/\d<=10*b+56/\a+c+d<=12*b+168:=⟨Int.not_lt.mp fun qz=>lin [] [_,_] [(1,.it (.a (.m 10 (.v 0)) (.n 56)) (.v 1)),(1,.il (.v 1) (.a (.m 2 (.v 0)) (.n 56))),(8,.il (.n 0) (.v 0))] rfl qz h1 h0,⟨Int.not_lt.mp fun qz=>lin [] [_,_] [(1,.it (.a (.m 10 (.v 0)) (.n 56)) (.v 1)),(1,.il (.v 1) (.a (.m 2 (.v 0)) (.n 56))),(8,.il (.n 0) (.v 0))] rfl qz h2 h0,⟨Int.not_lt.mp fun qz=>lin [] [_,_] [(1,.it (.a (.m 10 (.v 0)) (.n 56)) (.v 1)),(1,.il (.v 1) (.a (.m 2 (.v 0)) (.n 56))),(8,.il (.n 0) (.v 0))] rfl qz h3 h0,Int.not_lt.mp fun qz=>lin [] [_,_,_,_] [(1,.it (.a (.m 12 (.v 0)) (.n 168)) (.a (.a (.v 1) (.v 2)) (.v 3))),(1,.il (.v 3) (.a (.m 2 (.v 0)) (.n 56))),(1,.il (.v 2) (.a (.m 2 (.v 0)) (.n 56))),(1,.il (.v 1) (.a (.m 2 (.v 0)) (.n 56))),(6,.il (.n 0) (.v 0))] rfl qz h3 h2 h1 h0⟩⟩⟩
theorem z560 {a b c d:Int}(h0: -b<=a)(h1:¬(0<=a/\0<=c/\0<=d))(h2:¬(1<=a/\d<=-1))(h3:¬(1<=a/\c<=-1)):0<=-a/\-a<=b:=by lia
theorem z561 {a b c d:Int}(h0: -b<=a)(h1:¬(0<=c/\0<=a/\0<=d))(h2:¬(1<=a/\d<=-1))(h3:¬(1<=a/\c<=-1)):0<=-a/\-a<=b:=by lia
theorem z572 {a:Int}(h0:¬(a<=205)):206<=a:=Int.not_lt.mp fun qz=>lin [] [_] [(1,.it (.v 0) (.n 206)),(1,.it (.n 205) (.v 0))] rfl qz (Int.not_le.mp h0)
theorem z573 {a b c d:Int}(h0:206*a<=b)(h1:c<=12*a+168)(h2:b<=2*d)(h3:d<=8*c+4)(h4:¬(a<=205)):False:=lin [] [_,_,_,_] [(14,.it (.n 205) (.v 0)),(2,.il (.v 1) (.a (.m 8 (.v 2)) (.n 4))),(1,.il (.v 3) (.m 2 (.v 1))),(16,.il (.v 2) (.a (.m 12 (.v 0)) (.n 168))),(1,.il (.m 206 (.v 0)) (.v 3))] rfl (Int.not_le.mp h4) h3 h2 h1 h0
theorem z574 {a b c d:Int}(h0:c<=10*d+56)(h1:a<=10*d+56)(h2:b<=10*d+56)(h3:d<=205):a<3500/\b<3500/\c<3500:=⟨Int.not_le.mp fun qz=>lin [] [_,_] [(1,.il (.n 3500) (.v 0)),(10,.il (.v 1) (.n 205)),(1,.il (.v 0) (.a (.m 10 (.v 1)) (.n 56)))] rfl qz h3 h1,⟨Int.not_le.mp fun qz=>lin [] [_,_] [(1,.il (.n 3500) (.v 0)),(10,.il (.v 1) (.n 205)),(1,.il (.v 0) (.a (.m 10 (.v 1)) (.n 56)))] rfl qz h3 h2,Int.not_le.mp fun qz=>lin [] [_,_] [(1,.il (.n 3500) (.v 0)),(10,.il (.v 1) (.n 205)),(1,.il (.v 0) (.a (.m 10 (.v 1)) (.n 56)))] rfl qz h3 h0⟩⟩
theorem z575 {a b:Int}(h0:1*b=a):a=b:=by lia
theorem z576 {a b:Int}(h0: -1*b=a): -a=b:=by lia
theorem z577 {a:Nat}(h0:a<=8):a-1<=7:=Nat.sub_le_sub_right h0 1
theorem z581 {a b c d:Int}(h0:b<3500)(h1:c<3500)(h2:d<3500)(h3:a=0+b+c+d):a<=(12288:Int):=Int.not_lt.mp fun qz=>lin [] [_,_,_,_] [(1,.it (.n 12288) (.v 0)),(1,.ie (.v 0) (.a (.a (.a (.n 0) (.v 1)) (.v 2)) (.v 3))),(1,.it (.v 3) (.n 3500)),(1,.it (.v 2) (.n 3500)),(1,.it (.v 1) (.n 3500))] rfl qz h3 h2 h1 h0
theorem z582 {a b c:Int}(h0:a+(b+c)=0): -a+(-b+-c)=0:=by rw [<-Int.neg_add,<-Int.neg_add,h0];rfl
theorem z583 {a b c d e:Int}(h0:a<=8*(b+(c+(d+0)))+e):a<=8*(b+c+d)+e:=Int.not_lt.mp fun qz=>lin [] [_,_,_,_,_] [(1,.it (.a (.m 8 (.a (.a (.v 0) (.v 1)) (.v 2))) (.v 3)) (.v 4)),(1,.il (.v 4) (.a (.m 8 (.a (.v 0) (.a (.v 1) (.a (.v 2) (.n 0))))) (.v 3)))] rfl qz h0
theorem z586 {a:Nat}(h0:1<=a)(h1:a<=5):a=1\/a=2\/a=3\/a=4\/a=5:=by lia
theorem z594 {a b c:Int}(h0: -c<=b)(h1:c<=a)(h2:b<=c): -a<=b/\b<=a:=⟨Int.not_lt.mp fun qz=>lin [] [_,_,_] [(1,.it (.v 0) (.g (.v 1))),(1,.il (.v 2) (.v 1)),(1,.il (.g (.v 2)) (.v 0))] rfl qz h1 h0,Int.le_trans h2 h1⟩
theorem z598 {a b:Nat}(h0:b<=a):a+1-(b+1)<a+1-b:=Nat.not_le.mp fun qz=>lin [_,_,_,_] [] [(1,.nl (.v 0) (.v 1)),(1,.nl (.a (.v 2) (.n 1)) (.a (.v 0) (.v 3))),(1,.ne (.a (.v 1) (.a (.v 3) (.n 1))) (.a (.v 2) (.n 1)))] rfl qz (Nat.sub_le_iff_le_add.mp (Nat.le_refl _)) (Nat.sub_add_cancel (Nat.not_lt.mp fun qz=>lin [_,_] [] [(1,.nt (.a (.v 0) (.n 1)) (.a (.v 1) (.n 1))),(1,.nl (.v 1) (.v 0))] rfl qz h0))
theorem z599 {a b:Nat}(h0:a<=b)(h1:¬(a<b)):a=b:=Nat.le_antisymm (Nat.not_lt.mp fun qz=>lin [_,_] [] [(1,.nt (.v 0) (.v 1)),(1,.nl (.v 1) (.v 0))] rfl qz h0) (Nat.not_lt.mp fun qz=>lin [_,_] [] [(1,.nt (.v 0) (.v 1)),(1,.nl (.v 1) (.v 0))] rfl qz (Nat.not_lt.mp h1))
theorem z603 {a b:Nat}:a<=min a b\/b<=min a b:=(Nat.le_total a b).imp (fun h=>Nat.le_min.mpr ⟨Nat.le_refl a,h⟩) fun h=>Nat.le_min.mpr ⟨h,Nat.le_refl b⟩
theorem z604 {a:Nat}(h0:a<64):a<9000:=Nat.lt_trans h0 (by decide)
theorem z605 {a:Int}(h0:a≠0):a.natAbs≠0:=by simp<;>omega
theorem z606 {a b c:Nat}(h0:a+c<b):a<b:=Nat.not_le.mp fun qz=>lin [_,_,_] [] [(1,.nl (.v 0) (.v 1)),(1,.nt (.a (.v 1) (.v 2)) (.v 0))] rfl qz h0
theorem z609 {a b:Int}(h0:b<a):a=max b a:=(Int.max_eq_right (Int.le_of_lt h0)).symm
theorem z610 {a b:Int}(h0:¬(a<b)):a=max a b:=(Int.max_eq_left (Int.not_lt.mp h0)).symm
theorem z611 {a:Nat}(h0:a<2^62):(a:Int)<2^63:=by lia
theorem z612 {b:Nat}{a:Int}(h0:a.toNat<b):a<(b:Int):=Int.lt_of_le_of_lt (Int.self_le_toNat a) (Int.ofNat_lt.mpr h0)
theorem z613 {a:Nat}(h0:5<=a):3<a:=Nat.lt_of_lt_of_le (by decide) h0
theorem z614 {a:Nat}(h0:5<=a):1<a:=Nat.lt_of_lt_of_le (by decide) h0
theorem z615 {a b:Nat}:5<=a+1+1+1+1+1+b:=Nat.not_lt.mp fun qz=>lin [_,_] [] [(1,.nt (.a (.a (.a (.a (.a (.a (.v 0) (.n 1)) (.n 1)) (.n 1)) (.n 1)) (.n 1)) (.v 1)) (.n 5))] rfl qz
theorem z616 {a b c d e:Nat}(h0:a+(b+1)<c)(h1:d+10*(b+1)<e):a+1+b<c/\d+3+10*b<e:=⟨Nat.not_le.mp fun qz=>lin [_,_,_] [] [(1,.nl (.v 0) (.a (.a (.v 1) (.n 1)) (.v 2))),(1,.nt (.a (.v 1) (.a (.v 2) (.n 1))) (.v 0))] rfl qz h0,Nat.not_le.mp fun qz=>lin [_,_,_] [] [(1,.nl (.v 0) (.a (.a (.v 1) (.n 3)) (.m 10 (.v 2)))),(1,.nt (.a (.v 1) (.m 10 (.a (.v 2) (.n 1)))) (.v 0))] rfl qz h1⟩
theorem z617 {a b c d e f:Nat}(h0:a+(b+f)<c)(h1:d+10*(b+f)<e):a+b<c/\d+10*b<e:=⟨Nat.not_le.mp fun qz=>lin [_,_,_,_] [] [(1,.nl (.v 0) (.a (.v 1) (.v 2))),(1,.nt (.a (.v 1) (.a (.v 2) (.v 3))) (.v 0))] rfl qz h0,Nat.not_le.mp fun qz=>lin [_,_,_,_] [] [(1,.nl (.v 0) (.a (.v 1) (.m 10 (.v 2)))),(1,.nt (.a (.v 1) (.m 10 (.a (.v 2) (.v 3)))) (.v 0))] rfl qz h1⟩
theorem z619 {a:Nat}:¬((a:Int)<0):=by simp
theorem z626 {a b:Nat}(h0:b<100)(h1:a=b):a<2^62:=by lia
theorem z628 {a b c:Int}(h0:b<=c)(h1:a<=b):a<=b/\b<=c:=⟨h1,h0⟩
theorem z629 {a:Nat}(h0:1<=a)(h1:a<=5):1<=(a:Int)/\(a:Int)<=5:=⟨Int.not_lt.mp fun qz=>lin [_] [] [(1,.it (.c (.v 0)) (.n 1)),(1,.nl (.n 1) (.v 0))] rfl qz h0,Int.not_lt.mp fun qz=>lin [_] [] [(1,.it (.n 5) (.c (.v 0))),(1,.nl (.v 0) (.n 5))] rfl qz h1⟩
theorem z630 {a b:Nat}(h0:a=b)(h1:b<=3):a<2^62:=by lia
theorem z631 {a:Nat}(h0:a<=3):¬(3<(a:Int)):=fun qz=>lin [_] [] [(1,.it (.n 3) (.c (.v 0))),(1,.nl (.v 0) (.n 3))] rfl qz h0
theorem z632 {a:Nat}(h0:a<=3):a<=2^24:=by lia
theorem z633 {a:Nat}(h0:a<=5):a<100:=Nat.lt_of_le_of_lt h0 (by decide)
theorem z645 {a b c:Nat}(h0:a=c)(h1:c<=b):a<=b:=Nat.le_trans (Nat.le_of_eq h0) h1
theorem z648 {a b:Nat}:min a b<=a:=Nat.min_le_left a b
theorem z653 {a:Nat}: -2^62<=(a:Int):=Int.neg_ofNat_le_natCast (2^62) a
theorem z655 {a b c:Nat}(h0:b<c)(h1:b=a):a=b/\b<c:=⟨(h1).symm,h0⟩
theorem z658 {a:Nat}(h0:a<=5):a<1000:=Nat.lt_of_le_of_lt h0 (by decide)
theorem z661 {a:Nat}(h0:a<=3):a<2^62:=by lia
theorem z663 {a:Nat}(h0:a<3):(a:Int)<3:=Int.lt_toNat.mp h0
theorem z665 {a b:Nat}(h0:a<b):a+1<=b:=h0
theorem z667 {a:Nat}(h0:¬(a<3)):¬((a:Int)<3):=fun qz=>lin [_] [] [(1,.it (.c (.v 0)) (.n 3)),(1,.nl (.n 3) (.v 0))] rfl qz (Nat.not_lt.mp h0)
theorem z672 {a:Nat}(h0:a<=3):a<100:=Nat.lt_of_le_of_lt h0 (by decide)
theorem z674 {a:Nat}(h0:a<=5):(a:Int)<2^62:=by lia
theorem z675 {a b c:Nat}(h0:a<c)(h1:c<=b):a+1<=b:=Nat.lt_of_lt_of_le h0 h1
theorem z676 {a:Nat}: -2^62<=(a:Int)+1:=Int.neg_ofNat_le_ofNat (2^62) (a+1)
theorem z678 {a:Nat}:((a:Int)+1).toNat=a+1:=Int.toNat_natCast_add_one
theorem z679 {a b c:Nat}(h0:a=b)(h1:c<=5)(h2:b<=c):a+(0+1)<=2^24:=h0▸Nat.le_trans (Nat.succ_le_succ (Nat.le_trans h2 h1)) (by decide)
theorem z680 {a b c d e:Nat}(h0:b+c<=d)(h1:a=b+e)(h2:d<=4084101)(h3:e<=c):a<=2^24:=by subst h1;lia
theorem z682 {a b c:Nat}(h0:a<c+1)(h1:c<=b):a<=b:=Nat.not_lt.mp fun qz=>lin [_,_,_] [] [(1,.nt (.v 0) (.v 1)),(1,.nl (.v 2) (.v 0)),(1,.nt (.v 1) (.a (.v 2) (.n 1)))] rfl qz h1 h0
theorem z684 {a:Nat}(h0:a<100):a<2^64:=Nat.lt_trans h0 (by decide)
theorem z689 {a b c:Nat}(h0:a<=b):a<=b+c:=Nat.le_add_right_of_le h0
theorem z696 {a:Nat}(h0:a<=5):a<2^60:=by lia
theorem z697 {a:Nat}(h0:a<=3):(a:Int)<2^62:=by lia
theorem z702 {a:Int}:2*a+1≠0:=by lia
theorem z703 {a b:Int}(h0:0<=b)(h1:b<2*a+1): -a<=b-a/\b-a<=a:=⟨Int.not_lt.mp fun qz=>lin [] [_,_] [(1,.it (.s (.v 0) (.v 1)) (.g (.v 1))),(1,.il (.n 0) (.v 0))] rfl qz h0,Int.not_lt.mp fun qz=>lin [] [_,_] [(1,.it (.v 0) (.s (.v 1) (.v 0))),(1,.it (.v 1) (.a (.m 2 (.v 0)) (.n 1)))] rfl qz h1⟩
theorem z714 {a:Int}(h0: -20<=a)(h1:a<=20):a.natAbs<100:=by lia
theorem z718 {a:Int}(h0: -20<=a)(h1:a<=20):a.natAbs<2^64:=Nat.lt_of_le_of_lt (z192 (b:=20) h0 h1) (by decide)
theorem z725 {a:Nat}(h0:¬(a=3)):¬((a:Int)=3):=Nat.ToInt.of_diseq rfl rfl h0
theorem z726 {a:Nat}(h0:a<=4084101):a<=2^24:=by lia
theorem z728 {a:Nat}(h0:0=a)(h1:1<=a):False:=lin [_] [] [(1,.nl (.n 1) (.v 0)),(1,.nf (.n 0) (.v 0))] rfl h1 h0
theorem z729 {a b:Int}(h0:b<=a):¬(a<b):=Int.not_lt_of_ge h0
theorem z775 {a b:Int}(h0:b<a):a≠b:=Ne.symm (Int.ne_of_lt h0)
theorem z781: -2^63<=-1:=by simp
theorem z782: -1<2^63:=by simp
theorem z784: -1<0:=by simp
theorem z795 {a:Int}(h0:0<=a): -2^62<=a:=by lia
theorem z796 {a:Int}(h0:a<100):a<2^62:=by lia
theorem z800 {a:Nat}(h0:a<100):(a:Int)<100:=Int.lt_toNat.mp h0
theorem z801 {a:Nat}(h0:a<100):(a:Int)<2^62:=by lia
theorem z803 {a:Nat}:0+a=a:=by simp
theorem z805 {a b c d:Nat}(h0:a+d<=c)(h1:b<=d):a+b<=c:=Nat.not_lt.mp fun qz=>lin [_,_,_,_] [] [(1,.nt (.v 0) (.a (.v 1) (.v 2))),(1,.nl (.v 2) (.v 3)),(1,.nl (.a (.v 1) (.v 3)) (.v 0))] rfl qz h1 h0
theorem z807 {a b c:Nat}(h0:c<b)(h1:a=c):a<b:=lt_of_eq_of_lt h1 h0
theorem z808 {a:Nat}:(-1+(a:Int)).toNat=a-1:=by cases a with| zero=>rfl| succ n=>rw [Int.natCast_succ,Int.add_comm,Int.add_neg_cancel_right];rfl
theorem z809 {a b c:Nat}(h0:c<a)(h1:b=a):a-1<b:=Nat.not_le.mp fun qz=>lin [_,_,_] [] [(1,.nl (.v 0) (.v 1)),(1,.nf (.v 0) (.v 2)),(1,.ne (.a (.v 1) (.n 1)) (.v 2))] rfl qz h1 (Nat.sub_add_cancel (Nat.not_lt.mp fun qz=>lin [_,_] [] [(1,.nt (.v 0) (.n 1)),(1,.nt (.v 1) (.v 0))] rfl qz h0))
theorem z810 {a b:Nat}(h0:b<100)(h1:a<b):a<2^60:=by lia
theorem z811 {a b c:Nat}(h0:b<c)(h1:a=c): -(a:Int)<=-1:=Int.not_lt.mp fun qz=>lin [_,_,_] [] [(1,.it (.g (.n 1)) (.g (.c (.v 0)))),(1,.nf (.v 0) (.v 1)),(1,.nt (.v 2) (.v 1))] rfl qz h1 h0
theorem z812 {a b c:Nat}(h0:b+a=c)(h1:b<c):a-1<a:=Nat.not_le.mp fun qz=>lin [_,_] [] [(1,.nl (.v 0) (.v 1)),(1,.ne (.a (.v 1) (.n 1)) (.v 0))] rfl qz (Nat.sub_add_cancel (Nat.not_lt.mp fun qz=>lin [_,_,_] [] [(1,.nt (.v 0) (.n 1)),(1,.nt (.v 1) (.v 2)),(1,.nf (.a (.v 1) (.v 0)) (.v 2))] rfl qz h1 h0))
theorem z813 {a b c:Nat}(h0:a+b=c)(h1:a<c):a+1+(b-1)=c:=Nat.le_antisymm (Nat.not_lt.mp fun qz=>lin [_,_,_,_] [] [(1,.nt (.v 0) (.a (.a (.v 1) (.n 1)) (.v 2))),(1,.ne (.a (.v 1) (.v 3)) (.v 0)),(1,.ne (.a (.v 2) (.n 1)) (.v 3))] rfl qz h0 (Nat.sub_add_cancel (Nat.not_lt.mp fun qz=>lin [_,_,_] [] [(1,.nt (.v 0) (.n 1)),(1,.nt (.v 1) (.v 2)),(1,.nf (.a (.v 1) (.v 0)) (.v 2))] rfl qz h1 h0))) (Nat.not_lt.mp fun qz=>lin [_,_,_,_] [] [(1,.nt (.a (.a (.v 0) (.n 1)) (.v 1)) (.v 2)),(1,.nf (.a (.v 0) (.v 3)) (.v 2)),(1,.nl (.v 3) (.a (.v 1) (.n 1)))] rfl qz h0 (Nat.sub_le_iff_le_add.mp (Nat.le_refl _)))
theorem z814 {a:Nat}(h0:a<=63):a<2^62:=by lia
theorem z815 {a:Int}(h0:0<=a): -2^63<=a:=by lia
theorem z816 {a:Int}(h0:a<2^60):a<2^63:=by lia
theorem z817 {a:Nat}{b:Int}(h0:0<=b): -(a:Int)<=b:=Int.not_lt.mp fun qz=>lin [_] [_] [(1,.it (.v 0) (.g (.c (.v 0)))),(1,.il (.n 0) (.v 0))] rfl qz h0
theorem z818 {a:Nat}{b:Int}(h0:¬(b<(a:Int))):a<=b.toNat:=Int.ofNat_le.mp (Int.le_trans (Int.not_lt.mp h0) (Int.self_le_toNat b))
theorem z819 {b:Nat}{a:Int}(h0:0<=a)(h1:a+3<(b:Int)):(a+3).toNat<b:=(Int.toNat_lt (Int.add_nonneg h0 (by decide))).mpr h1
theorem z820 {a:Int}(h0:0<=a): -2^63<=a+3:=by lia
theorem z821 {a:Int}(h0:a<1099511627776):a+3<2^63:=by lia
theorem z822 {a:Nat}{b:Int}(h0:0<=b): -(a:Int)<=b+3:=Int.not_lt.mp fun qz=>lin [_] [_] [(1,.it (.a (.v 0) (.n 3)) (.g (.c (.v 0)))),(1,.il (.n 0) (.v 0))] rfl qz h0
theorem z823 {a b:Int}(h0:b<=a):¬(a+3<b):=fun qz=>lin [] [_,_] [(1,.it (.a (.v 0) (.n 3)) (.v 1)),(1,.il (.v 1) (.v 0))] rfl qz h0
theorem z824 {b:Nat}{a:Int}(h0:a<1099511627776)(h1:¬(a+3<(b:Int))):a.natAbs<2^64:=by simp at*;lia
theorem z832 {a:Nat}(h0:a<=3):a<2^60:=by lia
theorem z833 {a:Nat}(h0:a<=3):a=0\/a=1\/a=2\/a=3:=by lia
theorem z834 {a b:Int}:(a%3+b%6).toNat<2^60:=by simp;lia
theorem z836 {a b:Int}:(a%3+b%6).toNat<8:=by simp;lia
theorem z837 {a:Nat}(h0:a<8):a=0\/a=1\/a=2\/a=3\/a=4\/a=5\/a=6\/a=7:=(by decide:∀x,x<8->(x=0\/x=1\/x=2\/x=3\/x=4\/x=5\/x=6\/x=7)) a h0
theorem z838 {a b c:Nat}(h0:b<c)(h1:b=a):a=b/\a<c:=⟨(h1).symm,Nat.lt_of_le_of_lt (Nat.le_of_eq h1.symm) h0⟩
theorem z839 {a b:Nat}(h0:b<=3)(h1:a<=b):(a:Int).natAbs<2^64:=by simp;lia
theorem z840 {a b:Nat}(h0:b<=3)(h1:a<=b):(a:Int)<=3:=Int.not_lt.mp fun qz=>lin [_,_] [] [(1,.it (.n 3) (.c (.v 0))),(1,.nl (.v 0) (.v 1)),(1,.nl (.v 1) (.n 3))] rfl qz h1 h0
theorem z843 {a:Int}(h0:a<=3*5):a<=15:=Int.le_def.mpr h0
theorem z844 {c:Nat}{a b:Int}(h0:a<=b):a<=b+(c:Int):=Int.not_lt.mp fun qz=>lin [_] [_,_] [(1,.it (.a (.v 0) (.c (.v 0))) (.v 1)),(1,.il (.v 1) (.v 0))] rfl qz h0
theorem z845 {b c:Nat}{a:Int}(h0:a<=15)(h1:b<c)(h2:c<=5):a+(b:Int)<1099511627776:=by lia
theorem z846 {a:Int}(h0:1<=a):0<2*a+1:=Int.not_le.mp fun qz=>lin [] [_] [(1,.il (.a (.m 2 (.v 0)) (.n 1)) (.n 0)),(2,.il (.n 1) (.v 0))] rfl qz h0
theorem z847 {a:Int}(h0:1<=a)(h1:a<=20):(2*a+1).natAbs<2^64:=by grind
theorem z849 {a b:Nat}(h0:a=b)(h1:b<=5):a<100:=Nat.lt_of_le_of_lt (Nat.le_trans (Nat.le_of_eq h0) h1) (by decide)
theorem z870 {a b c:Nat}(h0:a+c<990)(h1:b=1000):a<b:=Nat.not_le.mp fun qz=>lin [_,_,_] [] [(1,.nl (.v 0) (.v 1)),(1,.nf (.v 0) (.n 1000)),(1,.nt (.a (.v 1) (.v 2)) (.n 990))] rfl qz h1 h0
theorem z871 {a b c d:Nat}(h0:a+d<9800)(h1:c=9900)(h2:b<=90):a+1+b<c:=Nat.not_le.mp fun qz=>lin [_,_,_,_] [] [(1,.nl (.v 0) (.a (.a (.v 1) (.n 1)) (.v 2))),(1,.nl (.v 2) (.n 90)),(1,.nf (.v 0) (.n 9900)),(1,.nt (.a (.v 1) (.v 3)) (.n 9800))] rfl qz h2 h1 h0
theorem z872 {a b c d e f:Nat}(h0:a+e+f<d)(h1:b<=f):a+min b c<d:=Nat.lt_of_le_of_lt (Nat.add_le_add (Nat.le_add_right a e) (Nat.le_trans (Nat.min_le_left ..) h1)) h0
theorem z874 {a:Nat}(h0:a<=2^24):a<=16777216:=by omega
theorem z875 {a:Int}(h0: -2^63<=a)(h1:a<2^63): -9223372036854775808<=a/\a<9223372036854775808:=⟨h0,h1⟩
theorem z876 {a:Nat}(h0:a<=2^24):¬(a>(2^63-1)/8):=by lia
theorem z879 {a b c:Nat}(h0:c<b):a<=a+b-1-c:=Nat.not_lt.mp fun qz=>lin [_,_,_,_,_] [] [(1,.nt (.v 0) (.v 1)),(1,.nt (.v 2) (.v 3)),(1,.nl (.v 4) (.a (.v 0) (.v 2))),(1,.nl (.a (.v 1) (.v 3)) (.a (.v 4) (.n 1)))] rfl qz h0 (Nat.sub_le_iff_le_add.mp (Nat.le_refl _)) (Nat.sub_le_iff_le_add.mp (Nat.le_refl _))
theorem z894 {a b c:Nat}(h0:c<=b):a-b<=a-c:=Nat.sub_le_sub_left h0 a
theorem z899 {a b c:Nat}(h0:c+a<=b):a<=b:=Nat.le_of_add_left_le h0
theorem z907 {a b c:Nat}(h0:c<b)(h1:a<=c):a<b:=Nat.lt_of_le_of_lt h1 h0
theorem z908 {a b:Nat}(h0:a<=b)(h1:¬(a=b)):a<b:=Nat.lt_of_le_of_ne h0 h1
theorem z915 {a b:Nat}(h0:a<=b):a<=(a+b)/2:=(Nat.le_div_iff_mul_le (Nat.zero_lt_succ 1)).mpr (Nat.mul_two a▸Nat.add_le_add_left h0 a)
theorem z918 {a b:Nat}(h0:¬(a>=b)):(a+b)/2+1<=b:=Nat.div_lt_of_lt_mul (Nat.two_mul b▸Nat.add_lt_add_right (Nat.not_le.mp h0) b)
theorem z935 {a b c:Nat}(h0:a<c)(h1:c<=b):a<b:=Nat.lt_of_lt_of_le h0 h1
theorem z936 {a b c:Int}(h0:a<c)(h1:c<b):a<b:=Int.lt_trans h0 h1
theorem z937 {a b:Int}(h0:¬(a<b))(h1:¬(b<a)):a=b:=Int.le_antisymm (Int.not_lt.mp fun qz=>lin [] [_,_] [(1,.it (.v 0) (.v 1)),(1,.il (.v 1) (.v 0))] rfl qz (Int.not_lt.mp h1)) (Int.not_lt.mp fun qz=>lin [] [_,_] [(1,.it (.v 0) (.v 1)),(1,.il (.v 1) (.v 0))] rfl qz (Int.not_lt.mp h0))
theorem z938 {a b c:Nat}(h0:a<c):a+b<c+b:=Nat.add_lt_add_right h0 b
theorem z940 {a b c:Int}(h0:c<b)(h1:a=c):a<b:=Int.lt_of_le_of_lt (Int.le_of_eq h1) h0
theorem z941 {a b c:Int}(h0:a=c)(h1:c=b):a=b:=by lia
theorem z942 {a b:Nat}(h0:a<=b):a<b+1:=Nat.lt_succ_of_le h0
theorem z943 {a b:Nat}(h0:a<b):(a:Int)<(b:Int):=Int.ofNat_lt.mpr h0
theorem z945 {a b:Nat}(h0:a+8<b):a+1+5<b:=Nat.not_le.mp fun qz=>lin [_,_] [] [(1,.nl (.v 0) (.a (.a (.v 1) (.n 1)) (.n 5))),(1,.nt (.a (.v 1) (.n 8)) (.v 0))] rfl qz h0
theorem z946 {a b c d:Nat}(h0:a+8<d)(h1:b<=2):a+min b c<d:=Nat.lt_of_le_of_lt (Nat.add_le_add_left (Nat.le_trans (Nat.min_le_left ..) (Nat.le_trans h1 (by decide))) a) h0
theorem z950 {a b:Nat}(h0:a+12<b):a+5<b:=Nat.not_le.mp fun qz=>lin [_,_] [] [(1,.nl (.v 0) (.a (.v 1) (.n 5))),(1,.nt (.a (.v 1) (.n 12)) (.v 0))] rfl qz h0
theorem z951 {a b:Nat}(h0:a+12<b):a+8<b:=Nat.not_le.mp fun qz=>lin [_,_] [] [(1,.nl (.v 0) (.a (.v 1) (.n 8))),(1,.nt (.a (.v 1) (.n 12)) (.v 0))] rfl qz h0
theorem z955 {a b:Nat}(h0:2<=b)(h1:a=b):0<a:=Nat.lt_of_lt_of_le (Nat.lt_of_lt_of_le (by decide) h0) (Nat.le_of_eq h1.symm)
theorem z961 {a b:Nat}(h0:a+20<b):a+1+1+12<b:=Nat.not_le.mp fun qz=>lin [_,_] [] [(1,.nl (.v 0) (.a (.a (.a (.v 1) (.n 1)) (.n 1)) (.n 12))),(1,.nt (.a (.v 1) (.n 20)) (.v 0))] rfl qz h0
theorem z963 {a b c d:Nat}(h0:a+(b+d)<c):a+b<c:=Nat.not_le.mp fun qz=>lin [_,_,_,_] [] [(1,.nl (.v 0) (.a (.v 1) (.v 2))),(1,.nt (.a (.v 1) (.a (.v 2) (.v 3))) (.v 0))] rfl qz h0
theorem z964 {a b c d:Nat}(h0:a+10*(c+b)<d):a+b+b+10*c<d:=Nat.not_le.mp fun qz=>lin [_,_,_,_] [] [(1,.nl (.v 0) (.a (.a (.a (.v 1) (.v 2)) (.v 2)) (.m 10 (.v 3)))),(1,.nt (.a (.v 1) (.m 10 (.a (.v 3) (.v 2)))) (.v 0))] rfl qz h0
theorem z966 {a b c:Nat}(h0:a+c<9800)(h1:b=9900):a+20<b:=Nat.not_le.mp fun qz=>lin [_,_,_] [] [(1,.nl (.v 0) (.a (.v 1) (.n 20))),(1,.nf (.v 0) (.n 9900)),(1,.nt (.a (.v 1) (.v 2)) (.n 9800))] rfl qz h1 h0
theorem z967 {a:Nat}: -2^63<=(a:Int):=Int.neg_ofNat_le_natCast (2^63) a
theorem z968 {a:Nat}(h0:a<2^60):(a:Int)<2^63:=by lia
theorem z969 {a b:Nat}: -(a:Int)<=(b:Int):=by simp
theorem z970 {a:Nat}(h0:a<=600):1+300+a<990:=Nat.not_le.mp fun qz=>lin [_] [] [(1,.nl (.n 990) (.a (.a (.n 1) (.n 300)) (.v 0))),(1,.nl (.v 0) (.n 600))] rfl qz h0
theorem z971 {a:Nat}(h0:a<=600):4+10*a<9800:=Nat.not_le.mp fun qz=>lin [_] [] [(1,.nl (.n 9800) (.a (.n 4) (.m 10 (.v 0)))),(10,.nl (.v 0) (.n 600))] rfl qz h0
theorem z972 {a b c d e:Nat}(h0:d+(b+e)<c)(h1:a=d+e):a+b<c:=Nat.not_le.mp fun qz=>lin [_,_,_,_,_] [] [(1,.nl (.v 0) (.a (.v 1) (.v 2))),(1,.ne (.v 1) (.a (.v 3) (.v 4))),(1,.nt (.a (.v 3) (.a (.v 2) (.v 4))) (.v 0))] rfl qz h1 h0
theorem z973 {a b c d e:Nat}(h0:d+10*(b+e)<c)(h1:a=d+e):a+10*b<c:=Nat.not_le.mp fun qz=>lin [_,_,_,_,_] [] [(1,.nl (.v 0) (.a (.v 1) (.m 10 (.v 2)))),(1,.ne (.v 1) (.a (.v 3) (.v 4))),(1,.nt (.a (.v 3) (.m 10 (.a (.v 2) (.v 4)))) (.v 0))] rfl qz h1 h0
theorem z974 {a b:Nat}(h0:a<=100):a+b<=16777216+b:=Nat.not_lt.mp fun qz=>lin [_,_] [] [(1,.nt (.a (.n 16777216) (.v 0)) (.a (.v 1) (.v 0))),(1,.nl (.v 1) (.n 100))] rfl qz h0
theorem z989 {a:Nat}(h0:3<a)(h1:a=1):False:=lin [_] [] [(1,.ne (.v 0) (.n 1)),(1,.nt (.n 3) (.v 0))] rfl h1 h0
theorem z990 {a b c:Nat}(h0:a<b)(h1:c=b):a<min b c:=Nat.lt_min.mpr ⟨h0,h1.symm▸h0⟩
theorem z991 {a b c:Nat}(h0:a+c<9800)(h1:b=9900):a+1<b:=Nat.not_le.mp fun qz=>lin [_,_,_] [] [(1,.nl (.v 0) (.a (.v 1) (.n 1))),(1,.nf (.v 0) (.n 9900)),(1,.nt (.a (.v 1) (.v 2)) (.n 9800))] rfl qz h1 h0
theorem z993 {a b c:Nat}(h0:c=b)(h1:a<=c):a<=b:=Nat.le_trans h1 (Nat.le_of_eq h0)
theorem z994 {a b c d e:Nat}(h0:a=c)(h1:d=e)(h2:e=c)(h3:d<=b):a<=b:=Nat.le_trans (Nat.le_trans (Nat.le_trans (Nat.le_of_eq h0) (Nat.le_of_eq h2.symm)) (Nat.le_of_eq h1.symm)) h3
theorem z998 {a:Nat}(h0:a<1000):(a:Int)<2^63:=by lia
theorem z999 {a:Nat}(h0:a<1000):(0+1)*a<=2^24:=Nat.le_trans (Nat.le_of_eq (Nat.one_mul a)) (Nat.le_trans (Nat.le_of_lt h0) (by decide))
theorem z1000 {a:Nat}(h0:a<2^62):¬((a:Int)>=2^63):=by lia
theorem z1001 {a b c:Nat}(h0:a+c<9800)(h1:b=9900):a<b:=Nat.not_le.mp fun qz=>lin [_,_,_] [] [(1,.nl (.v 0) (.v 1)),(1,.nf (.v 0) (.n 9900)),(1,.nt (.a (.v 1) (.v 2)) (.n 9800))] rfl qz h1 h0
theorem z1002 {a b c:Nat}(h0:a=c)(h1:c=b):a=b:=by lia
theorem z1003 {a b:Nat}:a<=a+b:=Nat.le_add_right a b
theorem z1004 {a b c:Nat}(h0:b<=c):a+b<=a+c:=Nat.add_le_add_iff_left.mpr h0
theorem z1005 {a b c:Nat}(h0:b<c):a+b<a+c:=Nat.add_lt_add_left h0 a
theorem z1006 {a b c:Int}(h0:a<=c)(h1:c<=b):a<=b:=Int.le_trans h0 h1
theorem z1010 {a:Nat}:a<2*a+1:=Nat.not_le.mp fun qz=>lin [_] [] [(1,.nl (.a (.m 2 (.v 0)) (.n 1)) (.v 0))] rfl qz
theorem z1015 {a b c d:Nat}(h0:b<c)(h1:b<d):a+b+1<=a+min c d:=Nat.add_lt_add_left (Nat.lt_min.mpr ⟨h0,h1⟩) a
theorem z1016 {a b c:Nat}(h0:a<c):a+min b (c-a)<=c:=Nat.le_trans (Nat.add_le_add_left (Nat.min_le_right ..) a) (Nat.le_of_eq (Nat.add_sub_of_le (Nat.le_of_lt h0)))
theorem z1019 {a b c:Nat}(h0:b<=c)(h1:¬(a>=b)):a+(b-a)/2<c:=Nat.lt_of_lt_of_le (Nat.lt_of_lt_of_le (Nat.add_lt_add_left (Nat.div_lt_self (Nat.sub_pos_of_lt (Nat.not_le.mp h1)) (Nat.lt_succ_self 1)) a) (Nat.le_of_eq (Nat.add_sub_of_le (Nat.le_of_lt (Nat.not_le.mp h1))))) h0
theorem j0T {a b:Nat}(h0:¬(a>=b)):a+(b-a)/2+1<=b:=z1019 (Nat.le_refl b) h0
theorem z1026 {a b c:Nat}(h0:c<b):a+1-min b (a+1)<=a-c:=(Nat.le_total b (a+1)).elim (fun h=>by rw [Nat.min_eq_left h];exact Nat.le_trans (Nat.sub_le_sub_left h0 (a+1)) (Nat.le_of_eq (Nat.add_sub_add_right a 1 c))) fun h=>by rw [Nat.min_eq_right h,Nat.sub_self];exact Nat.zero_le _
theorem z1027 {a b c:Nat}(h0:a<c):a-b<=c:=Nat.le_of_lt (Nat.lt_of_le_of_lt (Nat.sub_le _ _) h0)
theorem z1086 {a b c d e:Nat}(h0:a<d\/e<=a)(h1:d<=b)(h2:c<=e):a<b\/c<=a:=h0.imp (Nat.lt_of_lt_of_le · h1) (Nat.le_trans h2)
theorem z1087 {a b c d e:Nat}(h0:b<d\/e<=b)(h1:d<=a)(h2:c<=e):¬(a<=b/\b<c):=fun ⟨p,q⟩=>h0.elim (fun h=>Nat.not_lt.mpr (Nat.le_trans h1 p) h) fun h=>Nat.not_lt.mpr (Nat.le_trans h2 h) q
theorem z1088 {a b c d e:Nat}(h0:d+c<=b)(h1:b<e)(h2:a<d\/e<=a):¬(a=b-c):=fun q=>h2.elim (fun h=>Nat.not_le.mpr h (q▸Nat.le_sub_of_add_le h0)) fun h=>Nat.not_le.mpr h1 (Nat.le_trans h (q▸Nat.sub_le b c))
theorem z1089 {a b c d e:Nat}(h0:d+b<=a)(h1:a<e)(h2:c<d\/e<=c):¬(a-b<c/\c<=a):=fun ⟨p,q⟩=>h2.elim (fun h=>Nat.lt_irrefl c (Nat.lt_of_lt_of_le h (Nat.le_trans (Nat.le_sub_of_add_le h0) (Nat.le_of_lt p)))) fun h=>Nat.not_le.mpr h1 (Nat.le_trans h q)
theorem z1090 {a b c d e f:Nat}(h0:d<e)(h1:a<=d)(h2:f<=a)(h3:e<=b\/c<=f):a<b\/c<=a:=h3.imp (fun h=>Nat.lt_of_le_of_lt h1 (Nat.lt_of_lt_of_le h0 h)) fun h=>Nat.le_trans h h2
theorem z1091 {a b c d e f:Nat}(h0:a<d)(h1:e<=a)(h2:f<=e)(h3:d<=b\/c<=f):a<b\/c<=a:=h3.imp (Nat.lt_of_lt_of_le h0) fun h=>Nat.le_trans h (Nat.le_trans h2 h1)
theorem z1097 {a b c d e:Nat}(h0:a+d<=e)(h1:b<d)(h2:c=e):a+b<c:=Nat.not_le.mp fun qz=>lin [_,_,_,_,_] [] [(1,.nl (.v 0) (.a (.v 1) (.v 2))),(1,.nf (.v 0) (.v 3)),(1,.nt (.v 2) (.v 4)),(1,.nl (.a (.v 1) (.v 4)) (.v 3))] rfl qz h2 h1 h0
theorem z1103 {a b c:Nat}:a+(a+b-(a+c))<=a+b:=Nat.add_le_add_left (Nat.le_trans (Nat.le_of_eq (Nat.add_sub_add_left a b c)) (Nat.sub_le b c)) a
theorem z1112 {a b c d:Nat}(h0:a+d<=c)(h1:b<d):a+b<c:=Nat.not_le.mp fun qz=>lin [_,_,_,_] [] [(1,.nl (.v 0) (.a (.v 1) (.v 2))),(1,.nt (.v 2) (.v 3)),(1,.nl (.a (.v 1) (.v 3)) (.v 0))] rfl qz h1 h0
theorem z1113 {a b c d e:Nat}(h0:a+e<=d)(h1:b<e):a+b-c<d:=Nat.not_le.mp fun qz=>lin [_,_,_,_,_] [] [(1,.nl (.v 0) (.v 1)),(1,.nt (.v 2) (.v 3)),(1,.nl (.a (.v 4) (.v 3)) (.v 0)),(1,.nl (.v 1) (.a (.v 4) (.v 2)))] rfl qz h1 h0 (Nat.sub_le _ _)
theorem z1118 {a b c d:Nat}(h0:d<b)(h1:a<=c):a+b-1-c<b:=Nat.lt_of_le_of_lt (Nat.sub_le_sub_right (Nat.sub_le_sub_right (Nat.add_le_add_right h1 b) 1) c) (by rw [Nat.sub_right_comm,Nat.add_sub_cancel_left];exact Nat.sub_lt (Nat.zero_lt_of_lt h0) Nat.one_pos)
theorem z1119 {a b c d e f:Nat}(h0:a+e<=f)(h1:b<e)(h2:d=f):a+b-c<d:=Nat.not_le.mp fun qz=>lin [_,_,_,_,_,_] [] [(1,.nl (.v 0) (.v 1)),(1,.nf (.v 0) (.v 2)),(1,.nt (.v 3) (.v 4)),(1,.nl (.a (.v 5) (.v 4)) (.v 2)),(1,.nl (.v 1) (.a (.v 5) (.v 3)))] rfl qz h2 h1 h0 (Nat.sub_le _ _)
theorem z1120 {a b c:Nat}(h0:c<=b):a<=a+b-c:=Nat.not_lt.mp fun qz=>lin [_,_,_,_] [] [(1,.nt (.v 0) (.v 1)),(1,.nl (.v 2) (.v 3)),(1,.nl (.a (.v 1) (.v 3)) (.a (.v 0) (.v 2)))] rfl qz h0 (Nat.sub_le_iff_le_add.mp (Nat.le_refl _))
theorem z1124 {a b c d e:Nat}(h0:a+(b+e)-(c+e)<=d):a+b-c<=d:=by rw [<-Nat.add_assoc,Nat.add_sub_add_right] at h0;exact h0
theorem z1128 {a b c:Nat}(h0:1<=c)(h1:a+c<=b):a<b:=Nat.not_le.mp fun qz=>lin [_,_,_] [] [(1,.nl (.v 0) (.v 1)),(1,.nl (.a (.v 1) (.v 2)) (.v 0)),(1,.nl (.n 1) (.v 2))] rfl qz h1 h0
theorem z1129 {a b c d:Nat}(h0:1<=d)(h1:a+d<=c)(h2:b<=d):a+b-1<c:=Nat.lt_of_le_of_lt (Nat.sub_le_sub_right (Nat.le_trans (Nat.add_le_add_left h2 a) h1) 1) (Nat.sub_lt (Nat.lt_of_lt_of_le h0 (Nat.le_trans (Nat.le_add_left d a) h1)) Nat.one_pos)
theorem z1130 {a b:Nat}(h0:1<=b):a+b-1<a+b:=Nat.not_le.mp fun qz=>lin [_,_,_] [] [(1,.nl (.a (.v 0) (.v 1)) (.v 2)),(1,.ne (.a (.v 2) (.n 1)) (.a (.v 0) (.v 1)))] rfl qz (Nat.sub_add_cancel (Nat.not_lt.mp fun qz=>lin [_,_] [] [(1,.nt (.a (.v 0) (.v 1)) (.n 1)),(1,.nl (.n 1) (.v 1))] rfl qz h0))
theorem z1193 {a b:Nat}(h0:b<a):a-1+1=a:=(Nat.sub_add_cancel (Nat.not_lt.mp fun qz=>lin [_,_] [] [(1,.nt (.v 0) (.n 1)),(1,.nt (.v 1) (.v 0))] rfl qz h0))
theorem z1201 {a b:Nat}(h0:a>b):a-2<a:=Nat.sub_lt (Nat.zero_lt_of_lt h0) (Nat.zero_lt_succ 1)
theorem z1202 {a:Nat}(h0:a>1):a-2+1<a:=Nat.not_le.mp fun qz=>lin [_,_] [] [(1,.nl (.v 0) (.a (.v 1) (.n 1))),(1,.ne (.a (.v 1) (.n 2)) (.v 0))] rfl qz (Nat.sub_add_cancel (Nat.not_lt.mp fun qz=>lin [_] [] [(1,.nt (.v 0) (.n 2)),(1,.nt (.n 1) (.v 0))] rfl qz h0))
theorem z1203 {a b c d:Nat}(h0:a<=c)(h1:b<=d):a+b<=c+d:=Nat.add_le_add h0 h1
theorem z1210 {a b c d:Nat}(h0:c<d)(h1:a=min c d)(h2:d<=b):a+1<=b:=h1▸Nat.le_trans (Nat.lt_of_le_of_lt (Nat.min_le_left ..) h0) h2
theorem z1289 {a b:Nat}(h0:a<b+1):(a:Int)<=(b:Int):=Int.not_lt.mp fun qz=>lin [_,_] [] [(1,.it (.c (.v 0)) (.c (.v 1))),(1,.nt (.v 1) (.a (.v 0) (.n 1)))] rfl qz h0
theorem z1290 {a b c:Int}(h0:c-a=0):a+0*b=c:=Int.le_antisymm (Int.not_lt.mp fun qz=>lin [] [_,_,_] [(1,.it (.v 0) (.a (.v 1) (.m 0 (.v 2)))),(1,.jf (.s (.v 0) (.v 1)) (.n 0))] rfl qz h0) (Int.not_lt.mp fun qz=>lin [] [_,_,_] [(1,.it (.a (.v 0) (.m 0 (.v 1))) (.v 2)),(1,.ie (.s (.v 2) (.v 0)) (.n 0))] rfl qz h0)
theorem z1291 {a b c:Int}(h0:a+0*b=c)(h1:¬(c-a=0)):False:=by lia
theorem z1292 {a b c d:Int}(h0:b+d=c-a)(h1:d=0):a+b=c:=Int.le_antisymm (Int.not_lt.mp fun qz=>lin [] [_,_,_,_] [(1,.it (.v 0) (.a (.v 1) (.v 2))),(1,.jf (.v 3) (.n 0)),(1,.ie (.a (.v 2) (.v 3)) (.s (.v 0) (.v 1)))] rfl qz h1 h0) (Int.not_lt.mp fun qz=>lin [] [_,_,_,_] [(1,.it (.a (.v 0) (.v 1)) (.v 2)),(1,.ie (.v 3) (.n 0)),(1,.jf (.a (.v 1) (.v 3)) (.s (.v 2) (.v 0)))] rfl qz h1 h0)
theorem z1293 {a b c:Int}(h0:b+c=a):a-b=c:=Int.sub_eq_iff_eq_add'.mpr (id (Eq.symm h0))
theorem j0U {a b:Nat}(h0:(a:Int)=(b:Int))(h1:a<b):False:=lin [_,_] [] [(1,.nt (.v 0) (.v 1)),(1,.jf (.c (.v 0)) (.c (.v 1)))] rfl h1 h0
theorem z1396 {a:Int}:(((1+a%4).toNat:Nat):Int)=1+a%4:=Int.toNat_of_nonneg (Int.add_nonneg (by decide) (Int.emod_nonneg a (by decide)))
theorem z1397 {a b:Int}:a%3+b%6=(((a%3+b%6).toNat:Nat):Int):=(Int.toNat_of_nonneg (Int.add_nonneg (Int.emod_nonneg a (by decide)) (Int.emod_nonneg b (by decide)))).symm
theorem j0V {a:Nat}(h0:a<=60):(a:Int)+1<2^62:=by lia
theorem j0W {a:Nat}(h0:a<=60):a+1<=61:=Nat.succ_le_succ h0
theorem z1401 {a b c:Nat}(h0:b<=60)(h1:c<=60*61)(h2:a<=c):a+(b+1)<=2^24:=by lia
theorem z1402 {a b:Nat}(h0:b<=60*61)(h1:a<=b):a<=2^24:=by lia
theorem z1403 {a b c:Int}(h0:max a c<=b):a<=b:=Int.le_trans (Int.le_max_left a c) h0
theorem z1404 {a b c:Int}(h0:max c a<=b):a<=b:=Int.le_trans (Int.le_max_right c a) h0
theorem z1405 {a b c:Int}(h0:a<=c)(h1:b<=c):max a b<=c:=Int.max_le.mpr ⟨h0,h1⟩
theorem z1406 {a:Nat}(h0:a<=60):0<=(a:Int)/\(a:Int)<=60:=⟨Int.not_lt.mp fun qz=>lin [_] [] [(1,.it (.c (.v 0)) (.n 0))] rfl qz,Int.not_lt.mp fun qz=>lin [_] [] [(1,.it (.n 60) (.c (.v 0))),(1,.nl (.v 0) (.n 60))] rfl qz h0⟩
theorem z1407 {a b c:Nat}(h0:a+b<=c)(h1:c<=300):a<2^24:=by lia
theorem z1408 {a b:Nat}(h0:b<=300)(h1:a<=b):a<=2^24:=by lia
theorem z1409 {a b:Nat}(h0:a=b+1)(h1:b<=300):a<2^62:=by lia
theorem z1410 {a:Nat}(h0:300<(a:Int)):300<a:=Nat.not_le.mp fun qz=>lin [_] [] [(1,.nl (.v 0) (.n 300)),(1,.it (.n 300) (.c (.v 0)))] rfl qz h0
theorem z1411 {a:Nat}(h0:¬(300<(a:Int))):a<=300:=Nat.not_lt.mp fun qz=>lin [_] [] [(1,.nt (.n 300) (.v 0)),(1,.il (.c (.v 0)) (.n 300))] rfl qz (Int.not_lt.mp h0)
theorem z1412 {a b c d:Nat}(h0:2*(300-a)+b<c)(h1:d=a+1)(h2:¬(300<(d:Int))):2*(299-a)+(b+1)<c:=Nat.not_le.mp fun qz=>lin [_,_,_,_,_] [] [(1,.nl (.v 0) (.a (.m 2 (.v 1)) (.a (.v 2) (.n 1)))),(1,.nt (.a (.m 2 (.v 3)) (.v 2)) (.v 0)),(2,.nl (.n 300) (.a (.v 3) (.v 4))),(2,.ne (.a (.v 1) (.v 4)) (.n 299))] rfl qz h0 (Nat.sub_le_iff_le_add.mp (Nat.le_refl _)) (Nat.sub_add_cancel (Nat.not_lt.mp fun qz=>lin [_,_] [] [(1,.nt (.n 299) (.v 0)),(1,.il (.c (.v 1)) (.n 300)),(1,.nf (.v 1) (.a (.v 0) (.n 1)))] rfl qz (Int.not_lt.mp h2) h1))
theorem z1413 {a:Nat}:a+1>0:=Nat.zero_lt_succ a
theorem z1414 {b:Nat}{a:Int}(h0:a<((b+1:Nat):Int)):a<=(b:Int):=Int.le_iff_lt_add_one.mpr h0
theorem z1415 {b:Nat}{a:Int}(h0:a<=(b:Int)):a<((b+1:Nat):Int):=Int.not_le.mp fun qz=>lin [_] [_] [(1,.il (.c (.a (.v 0) (.n 1))) (.v 0)),(1,.il (.v 0) (.c (.v 0)))] rfl qz h0
theorem z1416 {a:Nat}(h0:¬(a=1)):(a:Int)≠1:=Nat.ToInt.of_diseq rfl rfl h0
theorem z1417 {a:Nat}(h0:¬(a=2)):(a:Int)≠2:=Nat.ToInt.of_diseq rfl rfl h0
theorem z1418 {a b:Nat}(h0:a=b)(h1:b<=4084101):a<=2^24:=by lia
theorem z1419 {a b:Nat}:(a:Int)<=((a+b:Nat):Int):=Int.le.intro b rfl
theorem z1420:3<=6/\6<=6:=by simp
theorem z1421:3<=5/\5<=6:=by simp
theorem z1422:3<=3/\3<=6:=by simp
theorem z1423 {a:Nat}(h0:3<=a):0<(a:Int):=Int.not_le.mp fun qz=>lin [_] [] [(1,.il (.c (.v 0)) (.n 0)),(1,.nl (.n 3) (.v 0))] rfl qz h0
theorem z1424 {a:Nat}(h0:a<=6):(a:Int).natAbs<2^64:=Nat.lt_of_le_of_lt h0 (by decide)
theorem z1425 {a:Nat}(h0:3<=a):(a:Int)≠0:=fun qz=>lin [_] [] [(1,.ie (.c (.v 0)) (.n 0)),(1,.nl (.n 3) (.v 0))] rfl qz h0
theorem z1426 {a b:Nat}(h0:a<b)(h1:b<=6):a<=60:=Nat.le_of_lt (Nat.lt_trans (Nat.lt_of_lt_of_le h0 h1) (by decide))
theorem z1427 {a:Int}:(1+a%2).toNat=1\/(1+a%2).toNat=2:=by lia
theorem z1428 {a:Int}:1+a%2=(((1+a%2).toNat:Nat):Int):=(Int.toNat_of_nonneg (Int.add_nonneg (by decide) (Int.emod_nonneg a (by decide)))).symm
theorem z1429 {a:Int}:(58+a%3).toNat<=60:=by lia
theorem z1430 {a:Int}:(58+a%3).toNat+1<=4084101:=Nat.le_trans (Nat.succ_le_succ (Int.toNat_le.mpr (Int.add_le_add_left (Int.le_of_lt (Int.emod_lt_of_pos a (by decide))) 58))) (by decide)
theorem z1431 {a:Int}:0<=58+a%3:=by lia
theorem z1432 {a:Int}:(16+(a%4+1)/2).toNat<=60:=by lia
theorem z1433 {a:Int}:(16+(a%4+1)/2).toNat+1<=19:=by lia
theorem z1434 {a:Int}:0<=16+(a%4+1)/2:=Int.add_nonneg (by decide) (Int.ediv_nonneg (Int.add_nonneg (Int.emod_nonneg a (by decide)) (by decide)) (by decide))
theorem z1435 {a:Nat}(h0:a=1\/a=2):(a:Int)-1=((a-1:Nat):Int):=by lia
theorem z1436 {a b:Nat}(h0:a=b\/a=2):a-b<2^60:=h0.elim (fun h=>Nat.lt_of_le_of_lt (Nat.le_of_eq (Nat.sub_eq_zero_of_le (Nat.le_of_eq h))) (by decide)) fun h=>Nat.lt_of_le_of_lt (Nat.le_trans (Nat.sub_le a b) (Nat.le_of_eq h)) (by decide)
theorem z1437 {a:Nat}(h0:a=1\/a=2):1<=a:=by lia
theorem z1438 {a:Nat}(h0:a=1\/a=2):a<=5:=by lia
theorem z1439 {a:Int}:(a%61).toNat<=60:=Int.toNat_le.mpr (Int.le_of_lt_add_one (Int.emod_lt_of_pos a (by decide)))
theorem z1440 {a:Int}:a%61=(((a%61).toNat:Nat):Int):=by lia
theorem z1441 {a:Nat}(h0:a<=4084101):a<=16777216:=by lia
theorem z1442 {a:Nat}(h0:a<=4084101):a<2^62:=by lia
theorem z1443 {a:Nat}(h0:300<a):300<(a:Int):=Int.lt_of_toNat_lt h0
theorem z1444 {a:Nat}(h0:¬(300<a)):¬(300<(a:Int)):=fun qz=>lin [_] [] [(1,.it (.n 300) (.c (.v 0))),(1,.nl (.v 0) (.n 300))] rfl qz (Nat.not_lt.mp h0)
theorem z1445 {a:Nat}(h0:0<(a:Int)):a=a-1+1:=((Nat.sub_add_cancel (Nat.not_lt.mp fun qz=>lin [_] [] [(1,.nt (.v 0) (.n 1)),(1,.it (.n 0) (.c (.v 0)))] rfl qz h0))).symm
theorem z1446 {a b c:Nat}(h0:b<=c)(h1:c<=a):¬(a<b):=fun qz=>lin [_,_,_] [] [(1,.nt (.v 0) (.v 1)),(1,.nl (.v 2) (.v 0)),(1,.nl (.v 1) (.v 2))] rfl qz h1 h0
theorem z1447 {a:Nat}:((a+1:Nat):Int)-1=(a:Int):=Int.sub_eq_iff_eq_add.mpr rfl
end Mine
namespace Mine
open PySem PySem.Calls PyProof.Rows
theorem len2 {α:Type}{l:List α}(h:l.length=2):∃a b,l=[a,b]:=by
 obtain ⟨a,t,rfl⟩:=List.exists_cons_of_length_eq_add_one h
 obtain ⟨b,rfl⟩:=List.length_eq_one_iff.mp (Nat.succ.inj h)
 exact ⟨a,b,rfl⟩
theorem len3 {α:Type}{l:List α}(h:l.length=3):∃a b c,l=[a,b,c]:=by
 obtain ⟨a,t,rfl⟩:=List.exists_cons_of_length_eq_add_one h
 obtain ⟨b,c,rfl⟩:=len2 (Nat.succ.inj h)
 exact ⟨a,b,c,rfl⟩
inductive D where
 | none
 | bool (b:Bool)
 | int (i:Int)
 | str (x:Str)
 | tup (ds:List D)
 | lst (ds:List D)
 | sys (C:Addr) (size rules:D)
 | own (C dx:Addr)
 | exc (C:Addr)
 | typ (T:String)
 | ref (a:Addr)
noncomputable abbrev yC (vs:List Value)(n:Nat):Obj:={cls:=.type "tuple",data:=.seq vs.toArray n}
noncomputable abbrev jk (vs:List Value)(n:Nat):Obj:={cls:=.type "list",data:=.seq vs.toArray n}
inductive SysAt (K:List Addr)(h:Heap)(C:Addr)(P1 P2:Value->Prop)(v:Value):Prop
 | mk (a dx:Addr) (v1 v2:Value) (mA:Str->Option Value) (e:v=.ref a) (na:a∉K) (nd:dx∉K) (g:h.get? a=some {cls:=.ref C,dict:=some dx,data:=.plain}) (ns:h.Ns dx mA) (f1:mA "size"=some v1) (f2:mA "rules"=some v2)
   (f3:∀x:Str,x≠"size"->x≠"rules"->mA x=none) (r1:P1 v1) (r2:P2 v2):SysAt K h C P1 P2 v
mutual
noncomputable def V (K:List Addr)(h:Heap):D->Value->Prop
 | .none,v=>v=.none
 | .bool b,v=>v=.bool b
 | .int i,v=>∃t,v=.int i t
 | .str x,v=>∃t,v=.str x t
 | .tup ds,v=>∃a vs n,v=.ref a/\a∉K/\h.get? a=some (yC vs n)/\Vs K h ds vs
 | .lst ds,v=>∃a vs n,v=.ref a/\a∉K/\h.get? a=some (jk vs n)/\Vs K h ds vs
 | .sys C sz ru,v=>SysAt K h C (fun x=>V K h sz x) (fun x=>V K h ru x) v
 | .own C dx,v=>∃a,v=.ref a/\a∉K/\h.get? a=some {cls:=.ref C,dict:=some dx,data:=.plain}
 | .exc C,v=>∃a o vs,v=.ref a/\a∉K/\h.get? a=some o/\o.cls=.ref C/\o.data=.fields vs/\o.dict=none
 | .typ T,v=>v=.type T
 | .ref a,v=>v=.ref a
noncomputable def Vs (K:List Addr)(h:Heap):List D->List Value->Prop
 | [],vs=>vs=[]
 | d::ds,vs=>∃v r,vs=v::r/\V K h d v/\Vs K h ds r
end
noncomputable def Stay (K:List Addr)(h h':Heap):Prop:=∀b o,b∉K->h.get? b=some o->h'.get? b=some o
noncomputable def Less (K K':List Addr)(h:Heap):Prop:=∀a,a∈K'->a∈K\/h.get? a=none
theorem Less.nin {K K':List Addr}{h:Heap}(l:Less K K' h){a:Addr}{o:Obj}(n:a∉K)(e:h.get? a=some o):a∉K':=fun m=>
 (l a m).elim n fun q=>by replace e:=(q ..).symm.trans e;contradiction
mutual
theorem V.move {K K':List Addr}{h h':Heap}(k:Stay K h h')(l:Less K K' h):∀(d:D) (v:Value),V K h d v->V K' h' d v
 | .none,v,x=>by unfold V at*;exact x
 | .bool b,v,x=>by unfold V at*;exact x
 | .int i,v,x=>by unfold V at*;exact x
 | .str y,v,x=>by unfold V at*;exact x
 | .tup ds,v,x=>by
  unfold V at*
  obtain ⟨a,vs,n,e,nk,g,r⟩:=x
  exact ⟨a,vs,n,e,l.nin nk g,k _ _ nk g,Vs.move k l ds vs r⟩
 | .lst ds,v,x=>by
  unfold V at*
  obtain ⟨a,vs,n,e,nk,g,r⟩:=x
  exact ⟨a,vs,n,e,l.nin nk g,k _ _ nk g,Vs.move k l ds vs r⟩
 | .sys C sz ru,v,x=>by
  unfold V at*
  obtain ⟨a,dx,v1,v2,mA,e,nk,nd,g,⟨od,es,ep,gd,hd⟩,f1,f2,f3,r1,r2⟩:=x
  exact ⟨a,dx,v1,v2,mA,e,l.nin nk g,l.nin nd gd,k _ _ nk g,⟨od,es,ep,k _ _ nd gd,hd⟩,f1,f2,f3,V.move k l sz v1 r1,V.move k l ru v2 r2⟩
 | .own C dx,v,x=>by
  unfold V at*
  obtain ⟨a,e,nk,g⟩:=x
  exact ⟨a,e,l.nin nk g,k _ _ nk g⟩
 | .exc C,v,x=>by
  unfold V at*
  obtain ⟨a,o,vs,e,nk,g,r⟩:=x
  exact ⟨a,o,vs,e,l.nin nk g,k _ _ nk g,r⟩
 | .typ T,v,x=>by unfold V at*;exact x
 | .ref a,v,x=>by unfold V at*;exact x
theorem Vs.move {K K':List Addr}{h h':Heap}(k:Stay K h h')(l:Less K K' h):∀(ds:List D) (vs:List Value),Vs K h ds vs->Vs K' h' ds vs
 | [],vs,x=>by unfold Vs at*;exact x
 | d::ds,vs,x=>by
  unfold Vs at*
  obtain ⟨v,r,e,p,q⟩:=x
  exact ⟨v,r,e,V.move k l d v p,Vs.move k l ds r q⟩
end
theorem Vs.length {K:List Addr}{h:Heap}:∀{ds:List D} {vs:List Value},Vs K h ds vs->vs.length=ds.length
 | [],_,x=>by subst x;rfl
 | _::_,_,x=>by obtain ⟨v,r,rfl,_,q⟩:=x;simp [q.length]
theorem Vs.get {K:List Addr}{h:Heap}:∀{ds:List D} {vs:List Value},Vs K h ds vs->∀{i:Nat} {v:Value},vs[i]? =some v->∃d,ds[i]? =some d/\V K h d v
 | [],_,x,i,v,e=>by subst x;contradiction
 | d::ds,_,x,i,v,e=>by
  obtain ⟨v',r,rfl,p,q⟩:=x
  cases i with
  | zero=>simp at e;subst e;exact ⟨d,rfl,p⟩
  | succ i=>simp at e;exact q.get e
theorem Vs.got {K:List Addr}{h:Heap}:∀{ds:List D} {vs:List Value},Vs K h ds vs->∀{i:Nat} {d:D},ds[i]? =some d->∃v,vs[i]? =some v/\V K h d v
 | [],_,x,i,v,e=>by contradiction
 | d::ds,_,x,i,d',e=>by
  obtain ⟨v',r,rfl,p,q⟩:=x
  cases i with
  | zero=>simp at e;subst e;exact ⟨v',rfl,p⟩
  | succ i=>simp at e;exact q.got e
theorem Vs.nil {K:List Addr}{h:Heap}:Vs K h [] []:=by unfold Vs;rfl
theorem Vs.cons {K:List Addr}{h:Heap}{d:D}{v:Value}{ds:List D}{vs:List Value}(a:V K h d v)(b:Vs K h ds vs):Vs K h (d::ds) (v::vs):=by exact ⟨v,vs,rfl,a,b⟩
theorem Vs.append {K:List Addr}{h:Heap}:∀{ds:List D} {vs:List Value} {es:List D} {us:List Value},Vs K h ds vs->Vs K h es us->Vs K h (ds++es) (vs++us)
 | [],_,_,_,x,y=>by subst x;exact y
 | d::ds,_,_,_,x,y=>by obtain ⟨v,r,rfl,p,q⟩:=x;exact .cons p (q.append y)
theorem Vs.snoc {K:List Addr}{h:Heap}{d:D}{v:Value}{ds:List D}{vs:List Value}(b:Vs K h ds vs)(a:V K h d v):Vs K h (ds++[d]) (vs++[v]):=b.append (.cons a .nil)
theorem Vs.take {K:List Addr}{h:Heap}:∀(n:Nat) {ds:List D} {vs:List Value},Vs K h ds vs->Vs K h (ds.take n) (vs.take n)
 | 0,_,_,_=>by exact Vs.nil
 | n+1,[],_,x=>by subst x;exact Vs.nil
 | n+1,d::ds,_,x=>by obtain ⟨v,r,rfl,p,q⟩:=x;exact .cons p (q.take n)
inductive O where
 | lst (ds:List D)
 | rows (rs:List (List Int))
 | flds (fs:List (Str × D))
noncomputable abbrev Sto:=List (Addr × O)
noncomputable abbrev keys (σ:Sto):List Addr:=σ.map (·.1)
noncomputable def jz (rs:List (List Int))(as:List Addr):List (List Int × Addr × Value):=(rs.zip as).map fun p=>(p.1,p.2,Value.bool true)
noncomputable def IsO (prog:Program)(w:World)(K:List Addr)(h:Heap)(a:Addr):O->Prop
 | .lst ds=>∃vs n,h.get? a=some (jk vs n)/\Vs K h ds vs
 | .rows rs=>∃as:List Addr,as.length=rs.length/\(Vs K h (rs.map fun r=>.tup (r.map .int)) (as.map .ref)/\(a==sysModules)=false)/\h.DictOfH (tupleKind (intKind prog w)) a (jz rs as)
 | .flds fs=>∃mA,h.Ns1 a mA/\(∀x d,fs.lookup x=some d->∃v,mA x=some v/\V K h d v)/\∀x,fs.lookup x=none->mA x=none
theorem IsTupleKey.stay {prog:Program}{w:World}{K:List Addr}{h h':Heap}{ks:List Int}{a:Addr}(x:IsTupleKey (intKind prog w) h ks a)(k:Stay K h h')(n:a∉K):IsTupleKey (intKind prog w) h' ks a:=by
 obtain ⟨o,items,n',ho,r⟩:=x
 exact ⟨o,items,n',k _ _ n ho,r⟩
theorem uz {rs:List (List Int)}{as:List Addr}{x:List Int × Addr × Value}(h:x∈jz rs as):x.2.1∈as:=by
 obtain ⟨p,hp,rfl⟩:=List.mem_map.mp h
 exact (List.of_mem_zip hp).2
theorem Vs.refs {K:List Addr}{h:Heap}:∀{rs:List (List Int)} {as:List Addr},Vs K h (rs.map fun r=>.tup (r.map .int)) (as.map .ref)->∀x∈as,x∉K
 | [],[],_,x,hx=>by cases hx
 | [],_::_,v,x,hx=>by simp only [List.map_nil] at v;contradiction
 | _::_,[],v,x,hx=>by cases hx
 | r::rs,a::as,v,x,hx=>by
  obtain ⟨w,us,e,v1,v2⟩:=v
  cases e
  rcases List.mem_cons.mp hx with rfl| hx
  ·obtain ⟨b,vs,n,e,nk,_⟩:=v1
   injection e with e;subst e;exact nk
  ·exact Vs.refs v2 x hx
theorem IsO.move {prog:Program}{w:World}{K K':List Addr}{h h':Heap}{a:Addr}{o:O}(k:Stay K h h')(l:Less K K' h)(e:∀x,h.get? a=some x->h'.get? a=some x)(x:IsO prog w K h a o):IsO prog w K' h' a o:=by
 cases o with
 | lst ds=>
  obtain ⟨vs,n,g,r⟩:=x
  exact ⟨vs,n,e _ g,Vs.move k l ds vs r⟩
 | rows rs=>
  obtain ⟨as,hl,hn,o,es,ep,g,ex,hd,he,hk,nd⟩:=x
  refine ⟨as,hl,⟨Vs.move k l _ _ hn.1,hn.2⟩,o,es,ep,e _ g,ex,hd,he,fun y hy=> ?_,nd⟩
  exact IsTupleKey.stay (hk y hy) k (Vs.refs hn.1 _ (uz hy))
 | flds fs=>
  obtain ⟨mA,⟨o,es,ep,g,hd⟩,h1,h2⟩:=x
  refine ⟨mA,⟨o,es,ep,e _ g,hd⟩,fun x d q=> ?_,h2⟩
  obtain ⟨v,a,b⟩:=h1 x d q
  exact ⟨v,a,V.move k l d v b⟩
structure Cx where
 prog:Program
 w:World
 h0:Heap
 mg:Str->Option Value
 mb:Str->Option Value
noncomputable abbrev Vars:=List (Str × D)
structure Fm (env:Env)(m:Vars)(fr K:List Addr)(h:Heap):Prop where
 kind:env.scope.kind=.function
 glob:env.globals=mainGlobals
 bui:env.builtins=builtinsNs
 ns:∃mv,h.Ns env.locals mv/\∀x d,m.lookup x=some d->env.kindOf x=some .local->∃v,mv x=some v/\V K h d v
 cell:∀x c,env.cells.lookup x=some c->∃ov,h.IsCell c ov/\∀d,m.lookup x=some d->(env.kindOf x=some .cell\/env.kindOf x=some .free)->∃v,ov=some v/\V K h d v
 has:∀x,(env.kindOf x=some .cell\/env.kindOf x=some .free)->∃c,env.cells.lookup x=some c
 inn:env.locals∈fr/\∀p∈env.cells,p.2∈fr
 apart:(env.cells.Pairwise fun x y=>x.2≠y.2)/\∀p∈env.cells,p.2≠env.locals
noncomputable def wt (h:Heap)(b:Addr):Prop:=∃o es n,h.get? b=some o/\o.data=.dict es n
structure Ok (c:Cx)(A:Around)(fr:List Addr)(σ:Sto)(h:Heap):Prop where
 base:c.h0.StaysIn h
 sto:∀p∈σ,IsO c.prog c.w (keys σ++fr) h p.1 p.2
 nd:(keys σ++fr).Nodup
 new:∀a∈keys σ++fr,c.h0.get? a=none
 live:∀a∈fr,∃o,h.get? a=some o
 stack:∃l,A.frames=some l/\h.FunFrames c.h0 l/\(∀b∈l.filterMap (·.frame),b∈fr)/\∀b∈l.filterMap (·.frame),wt h b
structure Post (F fr:List Addr)(σ:Sto)(s s':Shared)(σ':Sto):Prop where
 shape:∃h tk,s'={s with heap:=h,toks:=tk}
 kept:∀b o,b∉keys σ++fr->s.heap.get? b=some o->s'.heap.get? b=some o
 slots:∀b o,b∈fr->b∉F->s.heap.get? b=some o->∃sl,s'.heap.get? b=some {o with slots:=sl}/\((∀es n,o.data≠.dict es n)->sl=o.slots)
 alive:∀b o,s.heap.get? b=some o->∃o',s'.heap.get? b=some o'
 grow:∀a,a∈keys σ'->a∈keys σ\/s.heap.get? a=none
theorem Post.stay {F fr:List Addr}{σ σ':Sto}{s s':Shared}(p:Post F fr σ s s' σ'):Stay (keys σ++fr) s.heap s'.heap:=fun b o n e=>p.kept b o n e
theorem Post.less {F fr:List Addr}{σ σ':Sto}{s s':Shared}(p:Post F fr σ s s' σ'):Less (keys σ++fr) (keys σ'++fr) s.heap:=fun a m=>by
 rcases List.mem_append.mp m with q| q
 ·exact (p.grow a q).imp (List.mem_append_left _) id
 ·exact .inl (List.mem_append_right _ q)
theorem Post.v {F fr:List Addr}{σ σ':Sto}{s s':Shared}{d:D}{v:Value}(p:Post F fr σ s s' σ')(x:V (keys σ++fr) s.heap d v):V (keys σ'++fr) s'.heap d v:=V.move p.stay p.less d v x
theorem Post.vs {F fr:List Addr}{σ σ':Sto}{s s':Shared}{d:List D}{v:List Value}(p:Post F fr σ s s' σ')(x:Vs (keys σ++fr) s.heap d v):Vs (keys σ'++fr) s'.heap d v:=Vs.move p.stay p.less d v x
theorem Post.refl (F fr:List Addr)(σ:Sto)(s:Shared):Post F fr σ s s σ:=
 ⟨⟨s.heap,s.toks,rfl⟩,fun _ _ _ e=>e,fun _ o _ _ e=>⟨o.slots,e,fun _=>rfl⟩,fun _ o e=>⟨o,e⟩,fun _ m=>.inl m⟩
theorem Post.tok (F fr:List Addr)(σ:Sto)(s:Shared)(tk:Nat):Post F fr σ s {s with toks:=tk} σ:=
 ⟨⟨s.heap,tk,rfl⟩,fun _ _ _ e=>e,fun _ o _ _ e=>⟨o.slots,e,fun _=>rfl⟩,fun _ o e=>⟨o,e⟩,fun _ m=>.inl m⟩
theorem Post.trans {F fr:List Addr}{σ σ' σ'':Sto}{s s' s'':Shared}(p:Post F fr σ s s' σ')(q:Post F fr σ' s' s'' σ''):Post F fr σ s s'' σ'' where
 shape:=by obtain ⟨h,tk,rfl⟩:=p.shape;obtain ⟨h',tk',rfl⟩:=q.shape;exact ⟨h',tk',rfl⟩
 kept:=fun b o n e=>q.kept b o (p.less.nin n e) (p.kept b o n e)
 slots:=fun b o m n e=>by
  obtain ⟨sl,e1,r1⟩:=p.slots b o m n e
  obtain ⟨sl',e2,r2⟩:=q.slots b _ m n e1
  exact ⟨sl',e2,fun z=>(r2 z).trans (r1 z)⟩
 alive:=fun b o e=>by obtain ⟨o1,e1⟩:=p.alive b o e;exact q.alive b o1 e1
 grow:=fun a m=>by
  rcases q.grow a m with h| h
  ·exact p.grow a h
  ·refine .inr ?_
   cases e:s.heap.get? a with
   | none=>rfl
   | some o=>obtain ⟨o1,e1⟩:=p.alive a o e;replace h:=(e1 ..).symm.trans h;contradiction
theorem Post.wide {F F' fr:List Addr}{σ σ':Sto}{s s':Shared}(p:Post F fr σ s s' σ')(h:∀a∈F,a∈F'):Post F' fr σ s s' σ':=
 ⟨p.shape,p.kept,fun b o m n e=>p.slots b o m (fun q=>n (h b q)) e,p.alive,p.grow⟩
theorem Fm.move {env:Env}{m:Vars}{fr:List Addr}{σ σ':Sto}{s s':Shared}(f:Fm env m fr (keys σ++fr) s.heap)(p:Post [] fr σ s s' σ'):Fm env m fr (keys σ'++fr) s'.heap where
 kind:=f.kind
 glob:=f.glob
 bui:=f.bui
 ns:=by
  obtain ⟨mv,⟨o,es,ep,g,hd,hk,hf⟩,r⟩:=f.ns
  obtain ⟨sl,g',_⟩:=p.slots _ _ f.inn.1 (by simp) g
  exact ⟨mv,⟨_,es,ep,g',hd,hk,hf⟩,fun x d e k=>by obtain ⟨v,a,b⟩:=r x d e k;exact ⟨v,a,p.v b⟩⟩
 cell:=fun x c e=>by
  obtain ⟨ov,⟨o,g,hd⟩,r⟩:=f.cell x c e
  obtain ⟨sl,g',_⟩:=p.slots _ _ (f.inn.2 _ (mem_of_lookup e)) (by simp) g
  exact ⟨ov,⟨_,g',hd⟩,fun d e k=>by obtain ⟨v,a,b⟩:=r d e k;exact ⟨v,a,p.v b⟩⟩
 has:=f.has
 inn:=f.inn
 apart:=f.apart
noncomputable abbrev Fa (env:Env):List Addr:=env.locals::env.cells.map (·.2)
noncomputable abbrev Fo:Option Env->List Addr
 | none=>[]
 | some env=>Fa env
noncomputable def Fx (fr K:List Addr)(h:Heap):Option Env->Prop
 | none=>True
 | some env=>Fm env [] fr K h
inductive TbAt (h:Heap)(ex:List Addr)(e:Addr)(vs:Array Value):Prop
 | mk (T:Addr) (oT:Obj) (ts:Array Value) (e1:ex=[e,T]) (e2:vs[1]? =some (.ref T)) (g:h.get? T=some oT) (d:oT.data=.fields ts) (n:5<=ts.size):TbAt h ex e vs
inductive ExcOk (h:Heap)(ex:List Addr)(e C:Addr)(t:Bool):Prop
 | mk (oe:Obj) (vs:Array Value) (g:h.get? e=some oe) (cd:oe.cls=.ref C/\oe.dict=none) (d:oe.data=.fields vs) (n:5<=vs.size) (tb:(t=false/\ex=[e]/\vs[1]? =some .none)\/TbAt h ex e vs):ExcOk h ex e C t
inductive Ex (c:Cx)(A:Around)(G:Option Env)(fr:List Addr)(σ:Sto)(s:Shared)(t:Bool)(X:Addr->Sto->Prop)(v:Value)(s':Shared):Prop
 | mk (e C:Addr) (σ':Sto) (ex:List Addr) (hv:v=.ref e) (p:Post (Fo G) fr σ s s' σ') (ok:Ok c A (ex++fr) σ' s'.heap) (n:∀a∈ex,s.heap.get? a=none) (o:ExcOk s'.heap ex e C t) (f:Fx fr (keys σ'++fr) s'.heap G) (x:X C σ'):Ex c A G fr σ s t X v s'
theorem jF {F fr:List Addr}{σ σ':Sto}{s s':Shared}(p:Post F fr σ s s' σ'){a:Addr}(h:s'.heap.get? a=none):s.heap.get? a=none:=by
 cases e:s.heap.get? a with
 | none=>rfl
 | some o=>refine Exists.elim (p.alive a o e) fun o1 e1=> ?_;replace h:=(e1 ..).symm.trans h;contradiction
theorem Ex.back {c:Cx}{A:Around}{G:Option Env}{fr:List Addr}{σ σ':Sto}{s s' s'':Shared}{t:Bool}{X X':Addr->Sto->Prop}{v:Value}(p:Post (Fo G) fr σ s s' σ')(x:Ex c A G fr σ' s' t X v s'')(hX:∀C σ,X C σ->X' C σ):Ex c A G fr σ s t X' v s'':=by
 obtain ⟨e,C,σ2,ex,rfl,q,ok,n,r,f,hx⟩:=x
 exact ⟨e,C,σ2,ex,rfl,p.trans q,ok,fun a ha=>jF p (n a ha),r,f,hX _ _ hx⟩
inductive Po {α β:Type}(c:Cx)(A:Around)(G:Option Env)(fr:List Addr)(σ:Sto)(s:Shared)(R:List Addr->Heap->β->α->Prop)(Q:β->Sto->Prop)(a:α)(s':Shared):Prop
 | mk (b:β) (σ':Sto) (p:Post (Fo G) fr σ s s' σ') (ok:Ok c A fr σ' s'.heap) (r:R (keys σ'++fr) s'.heap b a) (q:Q b σ'):Po c A G fr σ s R Q a s'
theorem Po.back {α β:Type}{c:Cx}{A:Around}{G:Option Env}{fr:List Addr}{σ σ1:Sto}{s s1:Shared}{R:List Addr->Heap->β->α->Prop}{Q:β->Sto->Prop}{a:α}{s':Shared}(p:Post (Fo G) fr σ s s1 σ1)(x:Po c A G fr σ1 s1 R Q a s'):Po c A G fr σ s R Q a s':=by
 obtain ⟨b,σ2,p2,ok,r,q⟩:=x
 exact ⟨b,σ2,p.trans p2,ok,r,q⟩
noncomputable def W {α β:Type}(c:Cx)(A:Around)(G:Option Env)(fr:List Addr)(σ:Sto)(t:Sem α)(R:List Addr->Heap->β->α->Prop)(Q:β->Sto->Prop)(X:Addr->Sto->Prop)(s:Shared):Prop:=
 wpAny (model c.prog c.w) A t (Po c A G fr σ s R Q) (Ex c A G fr σ s false X) s
noncomputable def WE (c:Cx)(A:Around)(fr:List Addr)(env:Env)(m:Vars)(σ:Sto)(e:Expr)(Q:D->Sto->Prop)(X:Addr->Sto->Prop):Prop:=
 ∀s,Ok c A fr σ s.heap->Fm env m fr (keys σ++fr) s.heap->W c A none fr σ (eval e env) V Q X s
section
variable {c:Cx} {A:Around} {G:Option Env} {fr:List Addr} {σ:Sto} {X:Addr->Sto->Prop} {env:Env} {m:Vars}
theorem W.mono {α β:Type}{t:Sem α}{R:List Addr->Heap->β->α->Prop}{Q Q':β->Sto->Prop}{X':Addr->Sto->Prop}{s:Shared}(h:W c A G fr σ t R Q X s)(hQ:∀b σ,Q b σ->Q' b σ)(hX:∀C σ,X C σ->X' C σ):W c A G fr σ t R Q' X' s:=
 wpAny_mono h (fun _ _ z=>by cases z with| mk b σ' p ok r q=>exact ⟨b,σ',p,ok,r,hQ _ _ q⟩) fun _ _ x=>Ex.back (Post.refl ..) x hX
theorem W.bind {α β α' β':Type}{t:Sem α}{k:α->Sem α'}{R:List Addr->Heap->β->α->Prop}{R':List Addr->Heap->β'->α'->Prop}{Q:β'->Sto->Prop}{s:Shared}
  (h:W c A G fr σ t R (fun b σ'=>∀a s',Post (Fo G) fr σ s s' σ'->Ok c A fr σ' s'.heap->R (keys σ'++fr) s'.heap b a->W c A G fr σ' (k a) R' Q X s') X s):W c A G fr σ (t>>=k) R' Q X s:=by
 refine wpAny_bind (wpAny_mono h (fun a s' hz=> ?_) fun _ _ x=>x)
 obtain ⟨b,σ',p,ok,r,q⟩:=hz
 refine wpAny_mono (q a s' p ok r) (fun _ _ z=>z.back p) fun _ _ x=>Ex.back p x fun _ _ y=>y
theorem W.pure {α β:Type}{a:α}{b:β}{R:List Addr->Heap->β->α->Prop}{Q:β->Sto->Prop}{s:Shared}(ok:Ok c A fr σ s.heap)(r:R (keys σ++fr) s.heap b a)(q:Q b σ):W c A G fr σ (Pure.pure a) R Q X s:=
 wpAny_pure ⟨b,σ,Post.refl ..,ok,r,q⟩
theorem W.standAt {β:Type}{α:Type}{pos:Pos}{k:Sem α}{R:List Addr->Heap->β->α->Prop}{Q:β->Sto->Prop}{s:Shared}(h:W c A G fr σ k R Q X s):W c A G fr σ (PySem.standAt pos>>=fun _=>k) R Q X s:=
 wpAny_bind (wpAny_standAt h)
theorem W.holding {β:Type}{α:Type}{vs:List Value}{k:Sem α}{R:List Addr->Heap->β->α->Prop}{Q:β->Sto->Prop}{s:Shared}(h:W c A G fr σ k R Q X s):W c A G fr σ (PySem.holding vs k) R Q X s:=
 wpAny_holding h
end
theorem FunFrames.stays {c:Cx}{h h':Heap}{l:List Env}{fr:List Addr}(hk:∀b o,b∈fr->h.get? b=some o->∃sl,h'.get? b=some {o with slots:=sl})(hl:h.FunFrames c.h0 l)(hin:∀b∈l.filterMap (·.frame),b∈fr):h'.FunFrames c.h0 l:=by
 induction l with
 | nil=>trivial
 | cons env rest ih=>
  obtain ⟨hk1,⟨L,o,hf,hn,ho,hd⟩,hr⟩:=hl
  obtain ⟨sl,e⟩:=hk L o (hin L (by simp [hf])) ho
  exact ⟨hk1,⟨L,_,hf,hn,e,hd⟩,ih hr fun b hb=>hin b (by simp only [List.filterMap_cons,hf];exact List.mem_cons_of_mem _ hb)⟩
theorem Ok.keeps {c:Cx}{A:Around}{fr:List Addr}{σ:Sto}{h h':Heap}(ok:Ok c A fr σ h)(k:∀b o,h.get? b=some o->h'.get? b=some o):Ok c A fr σ h' where
 base:=fun b o e=>k b o (ok.base b o e)
 sto:=fun p hp=>IsO.move (fun b o _ e=>k b o e) (fun a m=>.inl m) (fun x e=>k _ x e) (ok.sto p hp)
 nd:=ok.nd
 new:=ok.new
 live:=fun a ha=>by obtain ⟨o,e⟩:=ok.live a ha;exact ⟨o,k _ _ e⟩
 stack:=by
  obtain ⟨l,a,b,d,f⟩:=ok.stack
  exact ⟨l,a,FunFrames.stays (fun b o _ e=>⟨o.slots,k b o e⟩) b d,d,fun x hx=>by obtain ⟨o,es,n,g,r⟩:=f x hx;exact ⟨o,es,n,k _ _ g,r⟩⟩
theorem Post.keeps {F fr:List Addr}{σ:Sto}{s:Shared}{h:Heap}{tk:Nat}(k:∀b o,s.heap.get? b=some o->h.get? b=some o):Post F fr σ s {s with heap:=h,toks:=tk} σ:=
 ⟨⟨h,tk,rfl⟩,fun b o _ e=>k b o e,fun b o _ _ e=>⟨o.slots,k b o e,fun _=>rfl⟩,fun b o e=>⟨o,k b o e⟩,fun _ m=>.inl m⟩
section
variable {c:Cx} {A:Around} {G:Option Env} {fr:List Addr} {σ:Sto} {X:Addr->Sto->Prop} {env:Env} {m:Vars} {Q:D->Sto->Prop}
theorem Jl {M:Model}{A:Around}{E:Value->Shared->Prop}{s:Shared}{vs keep:List Value}{Q:Unit->Shared->Prop}(h:Q () s):wpAny M A (release vs keep) Q E s:=fun Γ p hΓ=>by
 unfold release
 rw [Sem.wp_release_go];exact h
theorem W.operate {β:Type}{vs:List Value}{t:Sem Value}{R:List Addr->Heap->β->Value->Prop}{Q:β->Sto->Prop}{s:Shared}(h:W c A G fr σ t R Q X s):W c A G fr σ (PySem.operate vs t) R Q X s:=by
 exact wpAny_bind (wpAny_holding (wpAny_mono h (fun a s' q=>wpAny_bind (Jl (wpAny_pure q))) fun _ _ x=>x))
theorem WE.kInt {i:Int}{k:Nat}{pos:Pos}(h:Q (.int i) σ):WE c A fr env m σ (.Constant (.int i) k pos) Q X:=fun s ok fm=>
 wpAny_Constant_int ⟨.int i,σ,Post.tok ..,ok,by exact ⟨_,rfl⟩,h⟩
theorem WE.kStr {x:Str}{k:Nat}{pos:Pos}(h:Q (.str x) σ):WE c A fr env m σ (.Constant (.str x) k pos) Q X:=fun s ok fm=>
 Constant_str ⟨.str x,σ,Post.tok ..,ok,by exact ⟨_,rfl⟩,h⟩
theorem WE.kBool {b:Bool}{k:Nat}{pos:Pos}(h:Q (.bool b) σ):WE c A fr env m σ (.Constant (.bool b) k pos) Q X:=fun s ok fm=>
 wpAny_pure ⟨.bool b,σ,Post.refl ..,ok,by rfl,h⟩
theorem WE.kNone {k:Nat}{pos:Pos}(h:Q .none σ):WE c A fr env m σ (.Constant .none k pos) Q X:=fun s ok fm=>
 wpAny_pure ⟨.none,σ,Post.refl ..,ok,by rfl,h⟩
theorem WE.mono {e:Expr}{Q':D->Sto->Prop}{X':Addr->Sto->Prop}(h:WE c A fr env m σ e Q X)(hQ:∀d σ,Q d σ->Q' d σ)(hX:∀C σ,X C σ->X' C σ):WE c A fr env m σ e Q' X':=
 fun s ok fm=>(h s ok fm).mono hQ hX
theorem WE.nLocal {x:Str}{pos:Pos}{d:D}(hv:m.lookup x=some d)(hk:env.kindOf x=some .local)(h:Q d σ)(hd:(x==("__debug__":Str))=false:=by decide):WE c A fr env m σ (.Name x pos) Q X:=fun s ok fm=>by
 obtain ⟨mv,hn,r⟩:=fm.ns
 obtain ⟨v,e,hV⟩:=r x d hv hk
 exact wpAny_Name (wpAny_loadName_local fm.kind hk hn e ⟨d,σ,Post.refl ..,ok,hV,h⟩) hd
theorem WE.nCell {x:Str}{pos:Pos}{d:D}(hv:m.lookup x=some d)(hk:env.kindOf x=some .cell)(h:Q d σ)(hd:(x==("__debug__":Str))=false:=by decide):WE c A fr env m σ (.Name x pos) Q X:=fun s ok fm=>by
 obtain ⟨cc,hc⟩:=fm.has x (.inl hk)
 obtain ⟨ov,hcell,r⟩:=fm.cell x cc hc
 obtain ⟨v,rfl,hV⟩:=r d hv (.inl hk)
 exact wpAny_Name (wpAny_loadName_cell fm.kind hk hc hcell ⟨d,σ,Post.refl ..,ok,hV,h⟩) hd
theorem WE.nFree {x:Str}{pos:Pos}{d:D}(hv:m.lookup x=some d)(hk:env.kindOf x=some .free)(h:Q d σ)(hd:(x==("__debug__":Str))=false:=by decide)(hn:(x==("__classdict__":Str))=false:=by decide):WE c A fr env m σ (.Name x pos) Q X:=fun s ok fm=>by
 obtain ⟨cc,hc⟩:=fm.has x (.inr hk)
 obtain ⟨ov,hcell,r⟩:=fm.cell x cc hc
 obtain ⟨v,rfl,hV⟩:=r d hv (.inr hk)
 exact wpAny_Name (wpAny_loadName_free fm.kind hk hc hcell ⟨d,σ,Post.refl ..,ok,hV,h⟩ hn) hd
noncomputable def WB (c:Cx)(A:Around)(fr:List Addr)(σ:Sto)(t:Value->Value->Sem Value)(d1 d2:D)(Q:D->Sto->Prop)(X:Addr->Sto->Prop):Prop:=
 ∀v1 v2 s,Ok c A fr σ s.heap->V (keys σ++fr) s.heap d1 v1->V (keys σ++fr) s.heap d2 v2->W c A none fr σ (t v1 v2) V Q X s
noncomputable def WU (c:Cx)(A:Around)(fr:List Addr)(σ:Sto)(t:Value->Sem Value)(d1:D)(Q:D->Sto->Prop)(X:Addr->Sto->Prop):Prop:=
 ∀v1 s,Ok c A fr σ s.heap->V (keys σ++fr) s.heap d1 v1->W c A none fr σ (t v1) V Q X s
theorem WE.binop {l r:Expr}{op:Operator}{pos:Pos}(h:WE c A fr env m σ l (fun d1 σ1=>WE c A fr env m σ1 r (fun d2 σ2=>WB c A fr σ2 (binaryOp op) d1 d2 Q X) X) X):WE c A fr env m σ (.BinOp l op r pos) Q X:=fun s ok fm=>by
 refine W.bind (W.mono (h s ok fm) (fun d1 σ1 q1 a s1 p1 ok1 x1=> ?_) fun _ _ y=>y)
 refine W.bind (W.holding (W.mono (q1 s1 ok1 (fm.move p1)) (fun d2 σ2 q2 b s2 p2 ok2 x2=> ?_) fun _ _ y=>y))
 exact W.standAt (W.operate (q2 a b s2 ok2 (p2.v x1) x2))
theorem WE.compare {l r:Expr}{op:CmpOp}{pos:Pos}(h:WE c A fr env m σ l (fun d1 σ1=>WE c A fr env m σ1 r (fun d2 σ2=>WB c A fr σ2 (compareOp op) d1 d2 Q X) X) X)(hb:behindInMarks op r=false:=by rfl):
  WE c A fr env m σ (.Compare l [op] [r] pos) Q X:=fun s ok fm=>by
 rw [eval_Compare1,markedBehindIn_of_false hb]
 refine W.bind (W.mono (h s ok fm) (fun d1 σ1 q1 a s1 p1 ok1 x1=> ?_) fun _ _ y=>y)
 refine W.bind (W.holding (W.mono (q1 s1 ok1 (fm.move p1)) (fun d2 σ2 q2 b s2 p2 ok2 x2=> ?_) fun _ _ y=>y))
 exact W.standAt (W.operate (q2 a b s2 ok2 (p2.v x1) x2))
theorem WE.unary {x:Expr}{op:UnaryOp}{pos:Pos}(h:WE c A fr env m σ x (fun d1 σ1=>WU c A fr σ1 (unaryOp op) d1 Q X) X):WE c A fr env m σ (.UnaryOp op x pos) Q X:=fun s ok fm=>by
 refine W.bind (W.mono (h s ok fm) (fun d1 σ1 q1 a s1 p1 ok1 x1=> ?_) fun _ _ y=>y)
 exact W.standAt (W.holding (q1 a s1 ok1 x1))
end
theorem FunFrames.turn {c:Cx}{h h':Heap}{l:List Env}{fr:List Addr}(hk:∀b o,b∈fr->h.get? b=some o->(∀vs,o.data≠.fields vs)->∃o',h'.get? b=some o'/\∀vs,o'.data≠.fields vs)(hl:h.FunFrames c.h0 l)(hin:∀b∈l.filterMap (·.frame),b∈fr):h'.FunFrames c.h0 l:=by
 induction l with
 | nil=>trivial
 | cons env rest ih=>
  obtain ⟨hk1,⟨L,o,hf,hn,ho,hd⟩,hr⟩:=hl
  obtain ⟨o',e,hd'⟩:=hk L o (hin L (by simp [hf])) ho hd
  exact ⟨hk1,⟨L,_,hf,hn,e,hd'⟩,ih hr fun b hb=>hin b (by simp only [List.filterMap_cons,hf];exact List.mem_cons_of_mem _ hb)⟩
theorem Ok.turn {c:Cx}{A:Around}{fr:List Addr}{σ:Sto}{h h':Heap}{a:Addr}{oa:Obj}(ok:Ok c A fr σ h)(ha:a∈fr)(sb:Heap.SameBut a h h')(e:h'.get? a=some oa)(hd:∀vs,oa.data≠.fields vs)(hdd:wt h a->wt h' a):Ok c A fr σ h' where
 base:=fun b o e=>(sb.2 b fun q=>by simp only [q,ok.new a (List.mem_append_right _ ha)] at e;contradiction).trans (ok.base b o e)
 sto:=fun p hp=>IsO.move (fun b o n e=>(sb.2 b fun q=>n (q▸List.mem_append_right _ ha)).trans e) (fun a m=>.inl m) (fun x e=>(sb.2 _ fun q=>by
  have:=ok.nd
  rw [List.nodup_append] at this
  exact this.2.2 _ (List.mem_map_of_mem hp) _ ha q).trans e) (ok.sto p hp)
 nd:=ok.nd
 new:=ok.new
 live:=fun b hb=>by
  by_cases q:b=a
  ·subst q;exact ⟨_,e⟩
  ·obtain ⟨o,x⟩:=ok.live b hb;exact ⟨o,(sb.2 b q).trans x⟩
 stack:=by
  obtain ⟨l,x,y,z,zd⟩:=ok.stack
  refine ⟨l,x,FunFrames.turn (fun b o _ g k=> ?_) y z,z,fun b hb=> ?_⟩
  ·by_cases q:b=a
   ·subst q;exact ⟨_,e,hd⟩
   ·exact ⟨o,(sb.2 b q).trans g,k⟩
  ·by_cases q:b=a
   ·subst q;exact hdd (zd _ hb)
   ·obtain ⟨o,es,n,g,r⟩:=zd b hb;exact ⟨o,es,n,(sb.2 b q).trans g,r⟩
theorem Post.turn {env:Env}{fr:List Addr}{σ:Sto}{s:Shared}{h':Heap}{tk:Nat}{a:Addr}{oa:Obj}(ha:a∈Fa env)(hi:∀b∈Fa env,b∈fr)(sb:Heap.SameBut a s.heap h')(e:h'.get? a=some oa):Post (Fa env) fr σ s {s with heap:=h',toks:=tk} σ:=
 ⟨⟨h',tk,rfl⟩,fun b o n g=>(sb.2 b fun q=>n (q▸List.mem_append_right _ (hi _ ha))).trans g,fun b o _ n g=>⟨o.slots,(sb.2 b fun q=>n (q▸ha)).trans g,fun _=>rfl⟩,
  fun b o g=>by
   by_cases q:b=a
   ·subst q;exact ⟨_,e⟩
   ·exact ⟨o,(sb.2 b q).trans g⟩,fun _ m=>.inl m⟩
theorem Fm.fa {env:Env}{m:Vars}{fr K:List Addr}{h:Heap}(f:Fm env m fr K h):∀b∈Fa env,b∈fr:=fun b hb=>by
 rcases List.mem_cons.mp hb with rfl| hb
 ·exact f.inn.1
 ·obtain ⟨p,hp,rfl⟩:=List.mem_map.mp hb;exact f.inn.2 p hp
theorem jb {x y:Str}{d:D}{m:Vars}:List.lookup y ((x,d)::m)=if y=x then some d else m.lookup y:=by
 dsimp only [List.lookup_cons]
 by_cases h:y=x
 ·subst h;simp
 ·have:(y==x)=false:=by simpa using h
  simp only [this,if_neg h]
theorem Fm.storeL {env:Env}{m:Vars}{fr K:List Addr}{h h':Heap}{x:Str}{d:D}{v:Value}{mv:Str->Option Value}(f:Fm env m fr K h)(hK:∀b∈fr,b∈K)(hmv:∀x d,m.lookup x=some d->env.kindOf x=some .local->∃v,mv x=some v/\V K h d v)
  (hn:h'.Ns env.locals (fun y=>if y=x then some v else mv y)) (sb:Heap.SameBut env.locals h h') (hV:V K h d v) (hk:env.kindOf x=some .local):Fm env ((x,d)::m) fr K h':=by
 have st:Stay K h h':=fun b o n e=>(sb.2 b fun q=>n (q▸hK _ f.inn.1)).trans e
 have ls:Less K K h:=fun a m=>.inl m
 exact {
  kind:=f.kind
  glob:=f.glob
  bui:=f.bui
  ns:=⟨_,hn,fun y d' e k=>by
   replace e:=(jb ..).symm.trans e
   by_cases q:y=x
   ·replace e:=(if_pos q ..).symm.trans e;obtain rfl:=Option.some.inj e;exact ⟨v,by simp [q],V.move st ls _ _ hV⟩
   ·rw [if_neg q] at e
    obtain ⟨u,a,b⟩:=hmv y d' e k
    exact ⟨u,by simp [q,a],V.move st ls _ _ b⟩⟩
  cell:=fun y cc e=>by
   obtain ⟨ov,hc,r⟩:=f.cell y cc e
   refine ⟨ov,hc.sameBut sb (f.apart.2 _ (mem_of_lookup e)),fun d' e' k=> ?_⟩
   rw [jb] at e'
   by_cases q:y=x
   ·subst q;rw [hk] at k;rcases k with k| k<;>contradiction
   ·rw [if_neg q] at e'
    obtain ⟨u,a,b⟩:=r d' e' k
    exact ⟨u,a,V.move st ls _ _ b⟩
  has:=f.has
  inn:=f.inn
  apart:=f.apart}
theorem Fm.storeC {env:Env}{m:Vars}{fr K:List Addr}{h h':Heap}{x:Str}{d:D}{v:Value}{cc:Addr}(f:Fm env m fr K h)(hK:∀b∈fr,b∈K)(hcc:env.cells.lookup x=some cc)
  (hn:h'.IsCell cc (some v)) (sb:Heap.SameBut cc h h') (hV:V K h d v) (hk:env.kindOf x=some .cell):Fm env ((x,d)::m) fr K h':=by
 have hin:=mem_of_lookup hcc
 have st:Stay K h h':=fun b o n e=>(sb.2 b fun q=>n (q▸hK _ (f.inn.2 _ hin))).trans e
 have ls:Less K K h:=fun a m=>.inl m
 exact {
  kind:=f.kind
  glob:=f.glob
  bui:=f.bui
  ns:=by
   obtain ⟨mv,hns,r⟩:=f.ns
   refine ⟨mv,hns.sameBut sb (Ne.symm (f.apart.2 _ hin)),fun y d' e k=> ?_⟩
   rw [jb] at e
   by_cases q:y=x
   ·subst q;replace k:=(hk ..).symm.trans k;contradiction
   ·rw [if_neg q] at e
    obtain ⟨u,a,b⟩:=r y d' e k
    exact ⟨u,a,V.move st ls _ _ b⟩
  cell:=fun y c' e=>by
   by_cases q:y=x
   ·subst q
    replace e:=(hcc ..).symm.trans e;obtain rfl:=Option.some.inj e
    refine ⟨some v,hn,fun d' e' k=> ?_⟩
    rw [jb,if_pos rfl] at e'
    obtain rfl:=Option.some.inj e'
    exact ⟨v,rfl,V.move st ls _ _ hV⟩
   ·obtain ⟨ov,hc,r⟩:=f.cell y c' e
    refine ⟨ov,hc.sameBut sb fun z=>q (name_of_addr f.apart.1 (mem_of_lookup e) (z▸hin)),fun d' e' k=> ?_⟩
    rw [jb,if_neg q] at e'
    obtain ⟨u,a,b⟩:=r d' e' k
    exact ⟨u,a,V.move st ls _ _ b⟩
  has:=f.has
  inn:=f.inn
  apart:=f.apart}
section
variable {c:Cx} {A:Around} {fr:List Addr} {σ:Sto} {X:Addr->Sto->Prop} {env:Env} {m:Vars}
theorem W.store {x:Str}{d:D}{v:Value}{s:Shared}(ok:Ok c A fr σ s.heap)(f:Fm env m fr (keys σ++fr) s.heap)(hV:V (keys σ++fr) s.heap d v)(hk:env.kindOf x=some .local\/env.kindOf x=some .cell):
  W c A (some env) fr σ (storeName env x v) (fun K h (_:Unit) _=>Fm env ((x,d)::m) fr K h) (fun _ σ'=>σ'=σ) X s:=by
 have hK:∀b∈fr,b∈keys σ++fr:=fun b hb=>List.mem_append_right _ hb
 rcases hk with hk| hk
 ·obtain ⟨mv,hn,r⟩:=f.ns
  refine wpAny_storeName_local hk hn (fun h' hn' sb=> ?_) (by rw [f.kind];rfl)
  obtain ⟨o,es,ep,e,hd,_⟩:=id hn'
  refine ⟨(),σ,Post.turn (List.mem_cons_self) f.fa sb e,ok.turn f.inn.1 sb e (fun vs=>by rw [hd];intro q;contradiction) (fun _=>⟨o,es,ep,e,hd⟩),?_,rfl⟩
  exact f.storeL hK r hn' sb hV hk
 ·obtain ⟨cc,hcc⟩:=f.has x (.inl hk)
  obtain ⟨ov,hc,_⟩:=f.cell x cc hcc
  refine wpAny_storeName_cell f.kind hk hcc hc fun h' hc' sb=> ?_
  obtain ⟨o,e,hd⟩:=id hc'
  have hin:=mem_of_lookup hcc
  refine ⟨(),σ,Post.turn (tk:=s.toks) (List.mem_cons_of_mem _ (List.mem_map_of_mem (f:=(·.2)) hin)) f.fa sb e,ok.turn (f.inn.2 _ hin) sb e (fun vs=>by rw [hd];intro q;contradiction) (fun z=>by
   obtain ⟨o1,es,n,g1,d1⟩:=z
   obtain ⟨o2,g2,d2⟩:=hc
   replace g2:=(g1 ..).symm.trans g2;obtain rfl:=Option.some.inj g2;replace d2:=(d1 ..).symm.trans d2;contradiction),?_,rfl⟩
  exact f.storeC hK hcc hc' sb hV hk
inductive Out where
 | next (m:Vars)
 | ret (d:D)
noncomputable def RO (env:Env)(fr:List Addr)(K:List Addr)(h:Heap):Out->Flow->Prop
 | .next m',fl=>fl=.next/\Fm env m' fr K h
 | .ret d,fl=>∃v,fl=.ret v/\V K h d v/\Fm env [] fr K h
noncomputable def QO (N:Vars->Sto->Prop)(R:D->Sto->Prop):Out->Sto->Prop
 | .next m',σ=>N m' σ
 | .ret d,σ=>R d σ
noncomputable def W1 (c:Cx)(A:Around)(fr:List Addr)(env:Env)(m:Vars)(σ:Sto)(st:Stmt)(N:Vars->Sto->Prop)(R:D->Sto->Prop)(X:Addr->Sto->Prop):Prop:=
 ∀s,Ok c A fr σ s.heap->Fm env m fr (keys σ++fr) s.heap->W c A (some env) fr σ (exec st env) (RO env fr) (QO N R) X s
noncomputable def WS (c:Cx)(A:Around)(fr:List Addr)(env:Env)(m:Vars)(σ:Sto)(ss:List Stmt)(N:Vars->Sto->Prop)(R:D->Sto->Prop)(X:Addr->Sto->Prop):Prop:=
 ∀s,Ok c A fr σ s.heap->Fm env m fr (keys σ++fr) s.heap->W c A (some env) fr σ (execs ss env) (RO env fr) (QO N R) X s
variable {N:Vars->Sto->Prop} {R:D->Sto->Prop}
theorem WS.nil (h:N m σ):WS c A fr env m σ [] N R X:=fun s ok fm=>wpAny_execs_nil ⟨.next m,σ,Post.refl ..,ok,⟨rfl,fm⟩,h⟩
theorem WS.cons {st:Stmt}{rest:List Stmt}(h:W1 c A fr env m σ st (fun m' σ'=>WS c A fr env m' σ' rest N R X) R X):WS c A fr env m σ (st::rest) N R X:=fun s ok fm=>by
 refine W.bind (W.mono (h s ok fm) (fun o σ1 q1 a s1 p1 ok1 x1=> ?_) fun _ _ y=>y)
 cases o with
 | next m1=>obtain ⟨rfl,fm1⟩:=x1;exact q1 s1 ok1 fm1
 | ret d=>obtain ⟨v,rfl,hv⟩:=x1;exact W.pure (b:=Out.ret d) ok1 ⟨v,rfl,hv⟩ q1
theorem Fm.forget {env:Env}{m:Vars}{fr K:List Addr}{h:Heap}(f:Fm env m fr K h):Fm env [] fr K h where
 kind:=f.kind
 glob:=f.glob
 bui:=f.bui
 ns:=by obtain ⟨mv,hn,_⟩:=f.ns;exact ⟨mv,hn,fun x d e=>by contradiction⟩
 cell:=fun x cc e=>by obtain ⟨ov,h,_⟩:=f.cell x cc e;exact ⟨ov,h,fun d e=>by contradiction⟩
 has:=f.has
 inn:=f.inn
 apart:=f.apart
theorem Ex.wide {v:Value}{s s':Shared}{t:Bool}(fm:Fm env m fr (keys σ++fr) s.heap)(x:Ex c A none fr σ s t X v s'):Ex c A (some env) fr σ s t X v s':=by
 obtain ⟨e,C,σ2,ex,rfl,q,ok,n,r,f,hx⟩:=x
 exact ⟨e,C,σ2,ex,rfl,q.wide (by exact List.nil_subset _),ok,n,r,(fm.move q).forget,hx⟩
theorem W.bindE {α β α' β':Type}{t:Sem α}{k:α->Sem α'}{R:List Addr->Heap->β->α->Prop}{R':List Addr->Heap->β'->α'->Prop}{Q:β'->Sto->Prop}{s:Shared}(fm:Fm env m fr (keys σ++fr) s.heap)
  (h:W c A none fr σ t R (fun b σ'=>∀a s',Fm env m fr (keys σ'++fr) s'.heap->Post [] fr σ s s' σ'->Ok c A fr σ' s'.heap->R (keys σ'++fr) s'.heap b a->W c A (some env) fr σ' (k a) R' Q X s') X s):W c A (some env) fr σ (t>>=k) R' Q X s:=by
 refine wpAny_bind (wpAny_mono h (fun a s' hz=> ?_) fun _ _ x=>x.wide fm)
 obtain ⟨b,σ',p,ok,r,q⟩:=hz
 refine wpAny_mono (q a s' (fm.move p) p ok r) (fun _ _ z=>z.back (p.wide (by simp))) fun _ _ x=>Ex.back (p.wide (by simp)) x fun _ _ y=>y
theorem W1.ret {e:Expr}{pos:Pos}(h:WE c A fr env m σ e R X):W1 c A fr env m σ (.Return (some e) pos) N R X:=fun s ok fm=>by
 refine W.standAt (W.bindE fm (W.mono (h s ok fm) (fun d σ1 q1 a s1 fm1 p1 ok1 x1=> ?_) fun _ _ y=>y))
 exact W.pure (b:=Out.ret d) ok1 ⟨a,rfl,x1,fm1.forget⟩ q1
theorem W1.assign {x:Str}{pos' pos:Pos}{value:Expr}(h:WE c A fr env m σ value (fun d σ'=>N ((x,d)::m) σ') X)(hk:env.kindOf x=some .local\/env.kindOf x=some .cell)
  (hs:swapsWith value (some (.Name x pos')) pos.line env=pure false):W1 c A fr env m σ (.Assign [.Name x pos'] value pos) N R X:=fun s ok fm=>by
 rw [exec_Assign_Name (hs:=hs)]
 refine W.standAt (W.bindE fm (W.mono (h s ok fm) (fun d σ1 q1 a s1 fm1 p1 ok1 x1=> ?_) fun _ _ y=>y))
 refine W.standAt (W.bind (R:=fun K h (_:Unit) _=>Fm env ((x,d)::m) fr K h) (wpAny_bindName (W.mono (W.store ok1 fm1 x1 hk) (fun _ σ2 q2 _ s2 p2 ok2 x2=> ?_) fun _ _ y=>y)))
 subst q2;exact W.pure (b:=Out.next _) ok2 ⟨rfl,x2⟩ q1
end
theorem Yx (f:Array Value->Array Value)(o:Obj):(o.mapFields f).dict=o.dict:=by
 obtain ⟨a,b,d,e⟩:=o
 cases d<;>rfl
theorem Ok.side {c:Cx}{A:Around}{fr:List Addr}{σ:Sto}{h h':Heap}(ok:Ok c A fr σ h)
  (k:∀b o,b∉fr->h.get? b=some o->h'.get? b=some o)
  (k2:∀b o,b∈fr->h.get? b=some o->∃o',h'.get? b=some o'/\((∃vs,o.data=.fields vs)\/o'.data=o.data)):Ok c A fr σ h' where
 base:=fun b o e=>k b o (fun q=>by replace e:=(ok.new b (List.mem_append_right _ q) ..).symm.trans e;contradiction) (ok.base b o e)
 sto:=fun p hp=>IsO.move (fun b o n e=>k b o (fun q=>n (List.mem_append_right _ q)) e) (fun a m=>.inl m) (fun x e=>k _ _ (fun q=>by
  have:=ok.nd
  rw [List.nodup_append] at this
  exact this.2.2 _ (List.mem_map_of_mem hp) _ q rfl) e) (ok.sto p hp)
 nd:=ok.nd
 new:=ok.new
 live:=fun b hb=>by obtain ⟨o,x⟩:=ok.live b hb;obtain ⟨o',y,_⟩:=k2 b o hb x;exact ⟨o',y⟩
 stack:=by
  obtain ⟨l,x,y,z,zd⟩:=ok.stack
  refine ⟨l,x,FunFrames.turn (fun b o hb g q=> ?_) y z,z,fun b hb=> ?_⟩
  ·obtain ⟨o',y,r⟩:=k2 b o hb g
   rcases r with ⟨vs,r⟩| r
   ·exact absurd r (q vs)
   ·exact ⟨o',y,fun vs=>r▸q vs⟩
  ·obtain ⟨o,es,n,g,d⟩:=zd b hb
   obtain ⟨o',y,r⟩:=k2 b o (z b hb) g
   rcases r with ⟨vs,r⟩| r
   ·replace r:=(d ..).symm.trans r;contradiction
   ·exact ⟨o',es,n,y,r.trans d⟩
theorem Fm.bare {env:Env}{fr K K':List Addr}{h h':Heap}(f:Fm env [] fr K h)(k:∀b o,b∈fr->h.get? b=some o->∃sl,h'.get? b=some {o with slots:=sl}):Fm env [] fr K' h' where
 kind:=f.kind
 glob:=f.glob
 bui:=f.bui
 ns:=by
  obtain ⟨mv,⟨o,es,ep,g,r⟩,_⟩:=f.ns
  obtain ⟨sl,g'⟩:=k _ _ f.inn.1 g
  exact ⟨mv,⟨_,es,ep,g',r⟩,fun x d e=>by contradiction⟩
 cell:=fun x cc e=>by
  obtain ⟨ov,⟨o,g,hd⟩,_⟩:=f.cell x cc e
  obtain ⟨sl,g'⟩:=k _ _ (f.inn.2 _ (mem_of_lookup e)) g
  exact ⟨ov,⟨_,g',hd⟩,fun d e=>by contradiction⟩
 has:=f.has
 inn:=f.inn
 apart:=f.apart
theorem Fx.bare {G:Option Env}{fr K K':List Addr}{h h':Heap}(f:Fx fr K h G)(k:∀b o,b∈fr->h.get? b=some o->∃sl,h'.get? b=some {o with slots:=sl}):Fx fr K' h' G:=by
 cases G with
 | none=>trivial
 | some env=>exact Fm.bare f k
structure Fly (ex fr:List Addr)(h h':Heap):Prop where
 kept:∀b o,b∉ex++fr->h.get? b=some o->h'.get? b=some o
 slots:∀b o,b∈fr->h.get? b=some o->∃sl,h'.get? b=some {o with slots:=sl}/\((∀es n,o.data≠.dict es n)->sl=o.slots)
 own:∀b o,b∈ex->h.get? b=some o->∃o' vs,h'.get? b=some o'/\o'.data=.fields vs/\∃vs,o.data=.fields vs
theorem Fly.ok {c:Cx}{A:Around}{ex fr:List Addr}{σ:Sto}{h h':Heap}(y:Fly ex fr h h')(ok:Ok c A (ex++fr) σ h):Ok c A (ex++fr) σ h':=by
 refine ok.side y.kept fun b o hb e=> ?_
 by_cases q:b∈ex
 ·obtain ⟨o',vs,g,_,z⟩:=y.own b o q e;exact ⟨o',g,.inl z⟩
 ·obtain ⟨sl,g,_⟩:=y.slots b o ((List.mem_append.mp hb).resolve_left q) e
  exact ⟨_,g,.inr rfl⟩
theorem Fly.post {F fr ex:List Addr}{σ σ':Sto}{s s':Shared}{h':Heap}(y:Fly ex fr s'.heap h')(p:Post F fr σ s s' σ')(n:∀a∈ex,s.heap.get? a=none)(nk:∀a∈ex,a∉keys σ'++fr)(ne:∀a∈keys σ',a∉ex++fr):Post F fr σ s {s' with heap:=h'} σ' where
 shape:=by obtain ⟨h,tk,rfl⟩:=p.shape;exact ⟨h',tk,rfl⟩
 kept:=fun b o hb e=>y.kept b o (fun q=>by
  rcases List.mem_append.mp q with q| q
  ·replace e:=(n b q ..).symm.trans e;contradiction
  ·exact hb (List.mem_append_right _ q)) (p.kept b o hb e)
 slots:=fun b o m nf e=>by
  obtain ⟨sl,e1,r1⟩:=p.slots b o m nf e
  obtain ⟨sl',e2,r2⟩:=y.slots b _ m e1
  exact ⟨sl',e2,fun z=>(r2 z).trans (r1 z)⟩
 alive:=fun b o e=>by
  obtain ⟨o1,e1⟩:=p.alive b o e
  by_cases q:b∈fr
  ·obtain ⟨sl',e2,_⟩:=y.slots b _ q e1;exact ⟨_,e2⟩
  ·exact ⟨o1,y.kept b o1 (fun z=>by
    rcases List.mem_append.mp z with z| z
    ·replace e:=(n b z ..).symm.trans e;contradiction
    ·exact q z) e1⟩
 grow:=p.grow
theorem Ok.apart {c:Cx}{A:Around}{ex fr:List Addr}{σ:Sto}{h:Heap}(ok:Ok c A (ex++fr) σ h):(∀a∈ex,a∉keys σ++fr)/\(∀a∈keys σ,a∉ex++fr)/\ex.Nodup:=by
 have:=ok.nd
 rw [List.nodup_append,List.nodup_append] at this
 obtain ⟨h1,⟨h2,h3,h4⟩,h5⟩:=this
 refine ⟨fun a ha hm=> ?_,fun a ha hm=>h5 a ha a hm rfl,h2⟩
 rcases List.mem_append.mp hm with q| q
 ·exact h5 a q a (List.mem_append_left _ ha) rfl
 ·exact h4 a ha a q rfl
theorem YB {ex fr:List Addr}{h:Heap}{a:Addr}{o:Obj}{vs:Array Value}{i:Nat}{x:Value}(ha:a∈ex)(nf:a∉fr)(e:h.get? a=some o)(hd:o.data=.fields vs)(hall:∀b o,b∈ex->h.get? b=some o->∃vs,o.data=.fields vs):
  Fly ex fr h (h.update a (Obj.mapFields (·.setIfInBounds i x))):=by
 have hd':=Obj.data_mapFields hd (·.setIfInBounds i x)
 refine ⟨fun b o hb g=> ?_,fun b o hb g=> ?_,fun b o hb g=> ?_⟩
 ·exact (Heap.get?_update_other (b:=b) _ _ (fun (q:a=b)=>hb (q▸List.mem_append_left _ ha)) ..).trans (g)
 ·exact ⟨o.slots,by exact (Heap.get?_update_other (b:=b) _ _ (fun (q:a=b)=>nf (q▸hb)) ..).trans (g),fun _=>rfl⟩
 ·by_cases q:b=a
  ·subst q;replace g:=(e ..).symm.trans g;obtain rfl:=Option.some.inj g;exact ⟨_,_,(Heap.get?_update_self (Obj.mapFields (·.setIfInBounds i x)) e (Obj.isFreed_of_fields hd')),hd',vs,hd⟩
  ·obtain ⟨us,hu⟩:=hall b o hb g
   exact ⟨o,us,by exact (Heap.get?_update_other _ _ (Ne.symm q) ..).trans (g),hu,us,hu⟩
section
variable {c:Cx} {A:Around} {G:Option Env} {fr:List Addr} {σ:Sto} {X:Addr->Sto->Prop} {env:Env} {s s':Shared} {v:Value} {E:Value->Shared->Prop}
theorem Ex.weak {t:Bool}(x:Ex c A G fr σ s t X v s'):Ex c A G fr σ s false X v s':=by
 obtain ⟨e,C,σ2,ex,rfl,q,ok,n,⟨oe,vs,g,gc,gd,gs,r⟩,f,hx⟩:=x
 refine ⟨e,C,σ2,ex,rfl,q,ok,n,⟨oe,vs,g,gc,gd,gs,?_⟩,f,hx⟩
 rcases r with ⟨_,r⟩| r
 ·exact .inl ⟨rfl,r⟩
 ·exact .inr r
theorem Ex.flight {f? :Option Addr}(x:Ex c A G fr σ s true X v s'):wpAny (model c.prog c.w) A (setFlight v f?) (fun _ s''=>Ex c A G fr σ s true X v s'') E s':=by
 obtain ⟨e,C,σ2,ex,rfl,q,ok,n,⟨oe,vs,g,gc,gd,gs,r⟩,f,hx⟩:=x
 rcases r with ⟨r,_⟩| ⟨T,oT,ts,rfl,hT,gT,dT,sT⟩
 ·contradiction
 obtain ⟨ap1,ap2,ap3⟩:=ok.apart
 refine wpAny_bind (wpAny_field g gd hT ?_)
 refine wpAny_setField gT dT (z613 sT) ?_
 have hne:T≠e:=fun z=>by subst z;simp at ap3
 have y:=YB (ex:=[e,T]) (fr:=fr) (i:=3) (x:=f?.elim Value.none fun f=>rawInt f) (by simp) (fun z=>ap1 T (by simp) (List.mem_append_right _ z)) gT dT (fun b o hb gb=>by
  rcases List.mem_cons.mp hb with rfl| hb
  ·replace gb:=(g ..).symm.trans gb;injection gb with gb;subst gb;exact ⟨_,gd⟩
  ·simp only [List.mem_singleton.mp hb,gT] at gb;injection gb with gb;subst gb;exact ⟨_,dT⟩)
 refine ⟨e,C,σ2,[e,T],rfl,y.post q n ap1 ap2,y.ok ok,n,⟨oe,vs,?_,gc,gd,gs,.inr ⟨T,_,_,rfl,hT,Heap.get?_update_self _ gT (Obj.isFreed_of_fields (Obj.data_mapFields dT _)),Obj.data_mapFields dT _,by simpa using sT⟩⟩,f.bare (fun b o hb e=>by obtain ⟨sl,z,_⟩:=y.slots b o hb e;exact ⟨sl,z⟩),hx⟩
 exact (Heap.get?_update_other _ _ hne ..).trans (g)
theorem Ex.noted {t:Bool}{l:List Env}{L:Addr}(x:Ex c A G fr σ s t X v s')(hA:A.frames=some (env::l))(hf:env.frame=some L):wpAny (model c.prog c.w) A (noteFrame v env) (fun _ s''=>Ex c A G fr σ s true X v s'') E s':=by
 obtain ⟨e,C,σ2,ex,rfl,q,ok,n,⟨oe,vs,g,gc,gd,gs,r⟩,f,hx⟩:=x
 obtain ⟨l',hl',hff,hin,hdict⟩:=ok.stack
 obtain rfl:env::l=l':=by rw [hA] at hl';exact Option.some.inj hl'
 obtain ⟨ap1,ap2,ap3⟩:=ok.apart
 have hall:∀b o,b∈ex->s'.heap.get? b=some o->∃vs,o.data=.fields vs:=fun b o hb gb=>by
  rcases r with ⟨_,rfl,_⟩| ⟨T,oT,ts,rfl,hT,gT,dT,sT⟩
  ·simp only [List.mem_singleton.mp hb,g] at gb;obtain rfl:=Option.some.inj gb;exact ⟨_,gd⟩
  ·rcases List.mem_cons.mp hb with rfl| hb
   ·replace gb:=(g ..).symm.trans gb;obtain rfl:=Option.some.inj gb;exact ⟨_,gd⟩
   ·rw [List.mem_singleton.mp hb,gT] at gb;obtain rfl:=Option.some.inj gb;exact ⟨_,dT⟩
 have hnex:∀b∈(env::l).filterMap (·.frame),b∈fr:=fun b hm=>by
  rcases List.mem_append.mp (hin b hm) with z| z
  ·obtain ⟨_,o,ho,hnf⟩:=hff.mem hm
   obtain ⟨us,hu⟩:=hall b o z ho
   exact absurd hu (hnf us)
  ·exact z
 have lay:∀(head:Value) (h1:Heap),Fly ex fr s'.heap h1->h1.get? e=some oe->e∈ex->(head=Value.none\/∃T,head=Value.ref T)->
   wpAny (model c.prog c.w) A (do setField (.ref e) 1 (<-EntryCells.newEntry head (<-frameOf env) .none (rawInt L) .none (<-entryPlaceOf L (head !=.none)))) (fun _ s''=>Ex c A G fr σ s true X (.ref e) s'') E {s' with heap:=h1}:=by
  intro head h1 y1 ge hex hhd
  have ok1:=y1.ok ok
  obtain ⟨l1,hl1,hff1,hin1,hdict1⟩:=ok1.stack
  obtain rfl:env::l=l1:=by rw [hA] at hl1;exact Option.some.inj hl1
  refine wpAny_bind (wpAny_frameOf_fun (s:={s' with heap:=h1}) hA hff1 hf fun h2 hs2=> ?_)
  refine wpAny_bind (wpAny_entryPlaceOf fun pl hpl=> ?_)
  refine wpAny_bind (wpAny_newObj_type ?_ (hpl.sizeOk5 _ _ _ _ _))
  have he2:=(hs2.2.1 e (fun hm=>by
   obtain ⟨_,o,ho,hnf⟩:=hff1.mem hm
   rw [ge] at ho;injection ho with ho;subst ho;exact hnf vs gd)).trans ge
  have he3:=Heap.get?_push_of_some (h:=h2) {cls:=.type "traceback",dict:=none,data:=.fields ([head,.ref L,.none,rawInt L,.none]++(if pl.isEmpty then List.replicate 6 Value.none else pl)).toArray} he2
  refine wpAny_setField he3 gd (z614 gs) ?_
  have hd3:=Obj.data_mapFields gd (·.setIfInBounds 1 (Value.ref h2.objs.size))
  have hTe:h2.objs.size≠e:=Nat.ne_of_gt (Heap.lt_size he2)
  generalize hH3:(h2.push {cls:=.type "traceback",dict:=none,data:=.fields ([head,.ref L,.none,rawInt L,.none]++(if pl.isEmpty then List.replicate 6 Value.none else pl)).toArray})=H3 at he3⊢
  have gT:(H3.update e (Obj.mapFields (·.setIfInBounds 1 (Value.ref h2.objs.size)))).get? h2.objs.size=some {cls:=.type "traceback",dict:=none,data:=.fields ([head,.ref L,.none,rawInt L,.none]++(if pl.isEmpty then List.replicate 6 Value.none else pl)).toArray}:=by
   rw [Heap.get?_update_other _ _ (Ne.symm hTe),<-hH3];exact Heap.get?_push_size _ rfl
  have h23:∀b o,b≠e->h2.get? b=some o->(H3.update e (Obj.mapFields (·.setIfInBounds 1 (Value.ref h2.objs.size)))).get? b=some o:=fun b o hb gb=>by
   rw [Heap.get?_update_other _ _ (Ne.symm hb),<-hH3];exact Heap.get?_push_of_some _ gb
  have gee:=Heap.get?_update_self (Obj.mapFields (·.setIfInBounds 1 (Value.ref h2.objs.size))) he3 (Obj.isFreed_of_fields hd3)
  have hefr:e∉fr:=fun z=>ap1 e hex (List.mem_append_right _ z)
  have k12:∀b o,b∉fr->h1.get? b=some o->h2.get? b=some o:=fun b o hb gb=>by
   by_cases z:b∈ex
   ·exact (hs2.2.1 b fun hm=>by
     obtain ⟨_,o2,ho2,hnf⟩:=hff1.mem hm
     rw [gb] at ho2;cases ho2
     by_cases zz:∃vs,o.data=.fields vs
     ·obtain ⟨vs,zz⟩:=zz;exact hnf vs zz
     ·cases hg0:s'.heap.get? b with
      | none=>
       obtain ⟨oo,hoo⟩:=ok.live b (List.mem_append_left _ z)
       rw [hg0] at hoo;cases hoo
      | some o0=>
       obtain ⟨o',us,q1,q2,_⟩:=y1.own b o0 z hg0
       rw [gb] at q1;cases q1;exact zz ⟨us,q2⟩).trans gb
   ·exact (hs2.2.1 b fun hm=>(List.mem_append.mp (hin1 b hm)).elim z hb).trans gb
  have k13:∀b o,b∉[e]++fr->h1.get? b=some o->(H3.update e (Obj.mapFields (·.setIfInBounds 1 (Value.ref h2.objs.size)))).get? b=some o:=fun b o hb gb=>
   h23 b o (fun z=>hb (z▸by simp)) (k12 b o (fun z=>hb (List.mem_append_right _ z)) gb)
  have s13:∀b o,b∈fr->h1.get? b=some o->∃sl,(H3.update e (Obj.mapFields (·.setIfInBounds 1 (Value.ref h2.objs.size)))).get? b=some {o with slots:=sl}/\((∀es n,o.data≠.dict es n)->sl=o.slots):=fun b o hb gb=>by
   by_cases hst:b∈(env::l).filterMap (·.frame)
   ·obtain ⟨sl,z⟩:=hs2.2.2 b o gb
    obtain ⟨o1,es,nn,g1,d1⟩:=hdict1 b hst
    rw [gb] at g1;cases g1
    exact ⟨sl,h23 b _ (fun z=>hefr (z▸hb)) z,fun q=>absurd d1 (q es nn)⟩
   ·exact ⟨o.slots,h23 b _ (fun z=>hefr (z▸hb)) ((hs2.2.1 b hst).trans gb),fun _=>rfl⟩
  have s03:∀b o,b∈fr->s'.heap.get? b=some o->∃sl,(H3.update e (Obj.mapFields (·.setIfInBounds 1 (Value.ref h2.objs.size)))).get? b=some {o with slots:=sl}/\((∀es n,o.data≠.dict es n)->sl=o.slots):=fun b o hb gb=>by
   obtain ⟨sl,z,r⟩:=y1.slots b o hb gb
   obtain ⟨sl',z',r'⟩:=s13 b _ hb z
   exact ⟨sl',z',fun q=>(r' q).trans (r q)⟩
  have live1:∀b o,s'.heap.get? b=some o->∃o',h1.get? b=some o':=fun b o gb=>by
   by_cases z1:b∈ex
   ·obtain ⟨o',_,z,_⟩:=y1.own b o z1 gb;exact ⟨_,z⟩
   ·by_cases z2:b∈fr
    ·obtain ⟨sl,z,_⟩:=y1.slots b o z2 gb;exact ⟨_,z⟩
    ·exact ⟨_,y1.kept b o (fun z=>(List.mem_append.mp z).elim z1 z2) gb⟩
  have nT1:h1.get? h2.objs.size=none:=by
   cases hg:h1.get? h2.objs.size with
   | none=>rfl
   | some o=>
    obtain ⟨sl,z⟩:=hs2.2.2 _ o hg
    exact absurd (Heap.lt_size z) (Nat.lt_irrefl _)
  have nT:s'.heap.get? h2.objs.size=none:=by
   cases hg:s'.heap.get? h2.objs.size with
   | none=>rfl
   | some o=>obtain ⟨o',z⟩:=live1 _ o hg;rw [nT1] at z;cases z
  have okE:Ok c A (ex++fr) σ2 (H3.update e (Obj.mapFields (·.setIfInBounds 1 (Value.ref h2.objs.size)))):=by
   refine ok1.side (fun b o hb gb=>k13 b o (fun z=>hb ?_) gb) fun b o hb gb=> ?_
   ·rcases List.mem_append.mp z with z| z
    ·rw [List.mem_singleton.mp z];exact List.mem_append_left _ hex
    ·exact List.mem_append_right _ z
   ·by_cases z:b=e
    ·subst z;rw [ge] at gb;cases gb;exact ⟨_,gee,.inl ⟨_,gd⟩⟩
    ·by_cases z2:b∈fr
     ·obtain ⟨sl,zz,_⟩:=s13 b o z2 gb
      exact ⟨_,zz,.inr rfl⟩
     ·exact ⟨o,h23 b o z (k12 b o z2 gb),.inr rfl⟩
  have okF:Ok c A ([e,h2.objs.size]++fr) σ2 (H3.update e (Obj.mapFields (·.setIfInBounds 1 (Value.ref h2.objs.size)))):=by
   have hsub:∀a∈keys σ2++([e,h2.objs.size]++fr),a∈keys σ2++(ex++fr)\/a=h2.objs.size:=fun a ha=>by
    rcases List.mem_append.mp ha with z| z
    ·exact .inl (List.mem_append_left _ z)
    ·rcases List.mem_append.mp z with z| z
     ·rcases List.mem_cons.mp z with rfl| z
      ·exact .inl (List.mem_append_right _ (List.mem_append_left _ hex))
      ·exact .inr (List.mem_singleton.mp z)
     ·exact .inl (List.mem_append_right _ (List.mem_append_right _ z))
   have hnin:h2.objs.size∉keys σ2++(ex++fr):=fun z=>by
    have:∃o,s'.heap.get? h2.objs.size=some o:=by
     rcases List.mem_append.mp z with z| z
     ·obtain ⟨p,hp,e⟩:=List.mem_map.mp z
      have:=ok.sto p hp
      rw [e] at this
      cases hpo:p.2 with
      | lst ds=>rw [hpo] at this;obtain ⟨vs,n,g,_⟩:=this;exact ⟨_,g⟩
      | rows rs=>rw [hpo] at this;obtain ⟨as,_,_,o,es,ep,g,_⟩:=this;exact ⟨_,g⟩
      | flds fs=>rw [hpo] at this;obtain ⟨mA,⟨o,es,ep,g,_⟩,_⟩:=this;exact ⟨_,g⟩
     ·exact ok.live _ z
    obtain ⟨o,z⟩:=this
    rw [nT] at z;cases z
   exact {
    base:=okE.base
    sto:=fun p hp=>IsO.move (K:=keys σ2++(ex++fr)) (fun b o nb e=>k13 b o (fun z=>nb (by
      rcases List.mem_append.mp z with z| z
      ·rw [List.mem_singleton.mp z];exact List.mem_append_right _ (List.mem_append_left _ hex)
      ·exact List.mem_append_right _ (List.mem_append_right _ z))) e)
     (fun a m=>(hsub a m).elim Or.inl fun (z:a=h2.objs.size)=>Or.inr (z▸nT1)) (fun x gx=>k13 _ _ (fun z=>ap2 p.1 (List.mem_map_of_mem hp) (by
      rcases List.mem_append.mp z with z| z
      ·rw [List.mem_singleton.mp z];exact List.mem_append_left _ hex
      ·exact List.mem_append_right _ z)) gx) (ok1.sto p hp)
    nd:=by
     have h0:=ok.nd
     rw [List.nodup_append,List.nodup_append] at h0
     rw [List.nodup_append,List.nodup_append]
     refine ⟨h0.1,⟨by simp [Ne.symm hTe],h0.2.1.2.1,fun a ha b hb=> ?_⟩,fun a ha b hb=> ?_⟩
     ·rcases List.mem_cons.mp ha with rfl| ha
      ·exact fun z=>hefr (z▸hb)
      ·rw [List.mem_singleton.mp ha];exact fun z=>hnin (z▸List.mem_append_right _ (List.mem_append_right _ hb))
     ·rcases List.mem_append.mp hb with hb| hb
      ·rcases List.mem_cons.mp hb with rfl| hb
       ·exact fun z=>ap2 a ha (z▸List.mem_append_left _ hex)
       ·rw [List.mem_singleton.mp hb];exact fun z=>hnin (z▸List.mem_append_left _ ha)
      ·exact fun z=>ap2 a ha (z▸List.mem_append_right _ hb)
    new:=fun a ha=>by
     rcases hsub a ha with z| rfl
     ·exact ok.new a z
     ·cases hg:c.h0.get? h2.objs.size with
      | none=>rfl
      | some o=>have:=ok1.base _ o hg;rw [nT1] at this;cases this
    live:=fun a ha=>by
     rcases List.mem_append.mp ha with z| z
     ·rcases List.mem_cons.mp z with rfl| z
      ·exact ⟨_,gee⟩
      ·rw [List.mem_singleton.mp z];exact ⟨_,gT⟩
     ·exact okE.live a (List.mem_append_right _ z)
    stack:=by
     obtain ⟨l3,hl3,hff3,_,hd3⟩:=okE.stack
     obtain rfl:env::l=l3:=by rw [hA] at hl3;exact Option.some.inj hl3
     exact ⟨_,hl3,hff3,fun b hb=>List.mem_append_right _ (hnex b hb),hd3⟩}
  refine ⟨e,C,σ2,[e,h2.objs.size],rfl,?_,okF,?_,⟨_,_,gee,⟨(Obj.cls_mapFields _ _).trans gc.1,(Yx _ _).trans gc.2⟩,hd3,by simpa using gs,.inr ⟨h2.objs.size,_,_,rfl,?_,gT,rfl,?_⟩⟩,f.bare (fun b o hb e=>by obtain ⟨sl,z,_⟩:=s03 b o hb e;exact ⟨sl,z⟩),hx⟩
  ·refine {shape:=by obtain ⟨h,tk,rfl⟩:=q.shape;exact ⟨_,_,rfl⟩,kept:=fun b o hb gb=> ?_,slots:=fun b o hb nf gb=> ?_,alive:=fun b o gb=> ?_,grow:=q.grow}
   ·have gb':=q.kept b o hb gb
    have hbx:b∉ex:=fun z=>by rw [n b z] at gb;cases gb
    have hbf:b∉fr:=fun z=>hb (List.mem_append_right _ z)
    exact k13 b o (fun z=>by
     rcases List.mem_append.mp z with z| z
     ·exact hbx (List.mem_singleton.mp z▸hex)
     ·exact hbf z) (y1.kept b o (fun z=>(List.mem_append.mp z).elim hbx hbf) gb')
   ·obtain ⟨sl,z,r⟩:=q.slots b o hb nf gb
    obtain ⟨sl',z',r'⟩:=s03 b _ hb z
    exact ⟨sl',z',fun y=>(r' y).trans (r y)⟩
   ·obtain ⟨o1,g1⟩:=q.alive b o gb
    have hbx:b∉ex:=fun z=>by rw [n b z] at gb;cases gb
    by_cases z2:b∈fr
    ·obtain ⟨sl',z',_⟩:=s03 b _ z2 g1;exact ⟨_,z'⟩
    ·exact ⟨o1,k13 b o1 (fun z=>by
      rcases List.mem_append.mp z with z| z
      ·exact hbx (List.mem_singleton.mp z▸hex)
      ·exact z2 z) (y1.kept b o1 (fun z=>(List.mem_append.mp z).elim hbx z2) g1)⟩
  ·intro a ha
   rcases List.mem_cons.mp ha with rfl| ha
   ·exact n _ hex
   ·rw [List.mem_singleton.mp ha];exact jF q nT
  ·exact Array.getElem?_setIfInBounds_self_of_lt (z614 gs)
  ·simp only [List.size_toArray,List.length_append,List.length_cons,List.length_nil];exact z615
 unfold noteFrame
 simp only [hf]
 rcases r with ⟨_,rfl,h1⟩| ⟨T,oT,ts,rfl,hT,gT,dT,sT⟩
 ·refine wpAny_bind (wpAny_field g gd h1 ?_)
  rw [if_neg (by decide)]
  exact lay .none s'.heap ⟨fun _ _ _ e=>e,fun b o _ e=>⟨o.slots,e,fun _=>rfl⟩,fun b o hb e=>by obtain ⟨us,hu⟩:=hall b o hb e;exact ⟨o,us,e,hu,us,hu⟩⟩ g (by simp) (.inl rfl)
 ·refine wpAny_bind (wpAny_field g gd hT ?_)
  rw [if_pos (show (Value.ref T !=Value.none)=true from by simp)]
  refine wpAny_bind (wpAny_field gT dT (x:=ts[3]) (by simp) ?_)
  by_cases hb:(ts[3]==rawInt L)=true
  ·rw [if_pos hb]
   exact wpAny_pure ⟨e,C,σ2,[e,T],rfl,q,ok,n,⟨oe,vs,g,gc,gd,gs,.inr ⟨T,oT,ts,rfl,hT,gT,dT,sT⟩⟩,f,hx⟩
  ·rw [if_neg hb]
   refine wpAny_bind (wpAny_setField gT dT (z613 sT) ?_)
   have hne:T≠e:=fun z=>by subst z;simp at ap3
   have y:=YB (ex:=[e,T]) (fr:=fr) (i:=3) (x:=Value.none) (by simp) (fun z=>ap1 T (by simp) (List.mem_append_right _ z)) gT dT hall
   exact lay (.ref T) _ y (by rw [Heap.get?_update_other _ _ hne];exact g) (by simp) (.inr ⟨T,rfl⟩)
end
noncomputable def Room' (n:Nat)(A:Around):Prop:=A.depth+n<990/\A.units+10*n<9800
noncomputable def Room (n:Nat)(A:Around):Prop:=Room' n A/\A.handled=none
theorem Room'.deeper {n:Nat}{A:Around}{env:Env}(r:Room' (n+1) A):Room' n (A.deeper env):=by
 exact z616 r.1 r.2
theorem Room.deeper {n:Nat}{A:Around}{env:Env}(r:Room (n+1) A):Room n (A.deeper env):=⟨r.1.deeper,r.2⟩
theorem Room.less {n k:Nat}{A:Around}(r:Room (n+k) A):Room n A:=⟨by have:=r.1;exact z617 this.1 this.2,r.2⟩
structure Fn (c:Cx)(f:Addr)(ps:List Str)(body:List Stmt)(scope:Scope):Prop where
 at_:∃o fd,c.h0.get? f=some o/\o.data=.func fd/\fd.body=.stmts body/\fd.scope=scope/\fd.closure=[]/\fd.globals=mainGlobals/\fd.builtins=builtinsNs/\c.h0.CodeRec fd.code fd.qualname/\
  ∀vals:List Value,vals.length=ps.length->bindArgs fd ⟨vals,[]⟩=pure (ps.zip vals)
 nolimit:c.h0.NoLimit
 nd:ps.Nodup
 kinds:∀x∈ps,scope.names.lookup x=some .local\/scope.names.lookup x=some .cell
 cells:((cellsFrom 0 scope.names []).map (·.1)).Nodup
 nofree:∀x,scope.names.lookup x≠some .free
 kind:scope.kind=.function
 co:scope.isCoroutine=false
 gen:scope.isGenerator=false
noncomputable def WC (c:Cx)(P:Around->Prop)(f:Value)(ds:List D)(σ:Sto)(Q:D->Sto->Prop)(X:Addr->Sto->Prop):Prop:=
 ∀A fr s vals,P A->Ok c A fr σ s.heap->Vs (keys σ++fr) s.heap ds vals->W c A none fr σ (call f vals) V Q X s
theorem uA {k:Str->Option NameKind}{x:Str}:∀{b:List (Str × Value)} {m:Str->Option Value},x∉b.map (·.1)->bindL k b m x=m x
 | [],m,_=>rfl
 | (n,v)::r,m,h=>by
  rw [List.map_cons,List.mem_cons,not_or] at h
  unfold bindL
  rw [uA h.2]
  split
  ·exact if_neg h.1
  ·rfl
theorem uB {k:Str->Option NameKind}{x:Str}:∀{b:List (Str × Value)} {m:Str->Option Value},x∉b.map (·.1)->bindC k b m x=m x
 | [],m,_=>rfl
 | (n,v)::r,m,h=>by
  rw [List.map_cons,List.mem_cons,not_or] at h
  unfold bindC
  rw [uB h.2]
  split
  ·rfl
  ·exact if_neg h.1
theorem wu {ps:List Str}{vs:List Value}(h:vs.length=ps.length):(ps.zip vs).map (·.1)=ps:=by
 exact (List.map_fst_zip (z29 h) ..)
theorem bound {K:List Addr}{h:Heap}{k:Str->Option NameKind}{x:Str}{d:D}:∀{ps:List Str} {ds:List D} {vs:List Value} {m cm:Str->Option Value},ps.Nodup->ds.length=ps.length->Vs K h ds vs->(ps.zip ds).lookup x=some d->
  (k x=some .local->∃v,bindL k (ps.zip vs) m x=some v/\V K h d v)/\(k x≠some .local->∃v,bindC k (ps.zip vs) cm x=some v/\V K h d v)
 | [],_,_,_,_,_,_,_,e=>by contradiction
 | p::ps,[],_,_,_,_,e,_,_=>by contradiction
 | p::ps,d'::ds,vs,m,cm,nd,hl,hv,e=>by
  obtain ⟨v,r,rfl,p1,p2⟩:=hv
  simp only [List.zip_cons_cons] at e⊢
  replace e:=(jb ..).symm.trans e
  unfold bindL bindC
  by_cases q:x=p
  ·replace e:=(if_pos q ..).symm.trans e;obtain rfl:=Option.some.inj e
   subst q
   have hn:x∉(ps.zip r).map (·.1):=by rw [wu (by rw [p2.length];simpa using hl)];exact (List.nodup_cons.mp nd).1
   rw [uA hn,uB hn]
   exact ⟨fun z=>⟨v,by rw [if_pos z];simp,p1⟩,fun z=>⟨v,by rw [if_neg z];simp,p1⟩⟩
  ·rw [if_neg q] at e
   exact bound (List.nodup_cons.mp nd).2 (by simpa using hl) p2 e
theorem J2:∀(names:List (Str × NameKind)) (n n':Nat) (acc acc':List (Str × Addr)),acc.map (·.1)=acc'.map (·.1)->(cellsFrom n names acc).map (·.1)=(cellsFrom n' names acc').map (·.1)
 | [],_,_,_,_,h=>h
 | (x,k)::r,n,n',acc,acc',h=>by
  unfold cellsFrom
  split
  ·exact J2 r _ _ _ _ (by simp [h])
  ·exact J2 r _ _ _ _ h
theorem jt {x:Str}:∀(names:List (Str × NameKind)) (n:Nat) (acc:List (Str × Addr)),names.lookup x=some .cell\/(acc.lookup x).isSome=true->((cellsFrom n names acc).lookup x).isSome=true
 | [],_,_,h=>h.elim (fun e=>by contradiction) id
 | (y,k)::r,n,acc,h=>by
  unfold cellsFrom
  by_cases hk:(k==.cell)=true
  ·rw [if_pos hk]
   refine jt r (n+1) ((y,n)::acc) ?_
   by_cases hy:(x==y)=true
   ·exact .inr (by simp only [List.lookup_cons,hy];rfl)
   ·refine h.imp (fun e=> ?_) fun e=> ?_
    ·rw [List.lookup_cons] at e;simpa only [hy] using e
    ·dsimp only [List.lookup_cons];simpa only [hy] using e
  ·rw [if_neg hk]
   refine jt r n acc ?_
   by_cases hy:(x==y)=true
   ·refine .inr (h.elim (fun e=> ?_) id)
    rw [List.lookup_cons,hy] at e
    exact absurd (by rw [Option.some.inj e];rfl) hk
   ·refine h.imp (fun e=> ?_) id
    rw [List.lookup_cons] at e;simpa only [hy] using e
theorem J3 {x:Str}{a:Addr}:∀{l:List (Str × Addr)},(l.map (·.1)).Nodup->(x,a)∈l->l.lookup x=some a
 | [],_,h=>nomatch h
 | (y,b)::r,nd,h=>by
  simp only [List.map_cons,List.nodup_cons] at nd
  dsimp only [List.lookup_cons]
  rcases List.mem_cons.mp h with e| hm
  ·cases e;simp
  ·have:(x==y)=false:=by
    rw [beq_eq_false_iff_ne]
    rintro rfl
    exact nd.1 (List.mem_map.mpr ⟨(x,a),hm,rfl⟩)
   exact this▸J3 nd.2 hm
theorem IsO.there {prog:Program}{w:World}{K:List Addr}{h:Heap}{a:Addr}{o:O}(x:IsO prog w K h a o):∃ob,h.get? a=some ob:=by
 cases o with
 | lst ds=>obtain ⟨vs,n,g,_⟩:=x;exact ⟨_,g⟩
 | rows rs=>obtain ⟨as,_,_,o,es,ep,g,_⟩:=x;exact ⟨_,g⟩
 | flds fs=>obtain ⟨mA,⟨o,es,ep,g,_⟩,_⟩:=x;exact ⟨_,g⟩
theorem Ok.there {c:Cx}{A:Around}{fr:List Addr}{σ:Sto}{h:Heap}(ok:Ok c A fr σ h){a:Addr}(m:a∈keys σ++fr):∃o,h.get? a=some o:=by
 rcases List.mem_append.mp m with z| z
 ·obtain ⟨p,hp,rfl⟩:=List.mem_map.mp z;exact (ok.sto p hp).there
 ·exact ok.live _ z
theorem Ok.lt {c:Cx}{A:Around}{fr:List Addr}{σ:Sto}{h:Heap}(ok:Ok c A fr σ h){a:Addr}(m:a∈keys σ++fr):a<h.objs.size:=by
 refine Exists.elim (ok.there m) fun o e=> ?_;exact Heap.lt_size e
theorem jg {h:Heap}{a:Addr}(x:h.objs.size<=a):h.get? a=none:=by
 cases e:h.get? a with
 | none=>rfl
 | some o=>exact absurd (Heap.lt_size e) (Nat.not_lt.mpr x)
theorem Ok.pop {c:Cx}{A:Around}{env:Env}{fr ex:List Addr}{σ:Sto}{h:Heap}{l:List Env}(hA:A.frames=some l)(hf:env.frame=some env.locals)(hin:∀b∈l.filterMap (·.frame),b∈fr)(ok:Ok c (A.deeper env) (ex++(Fa env++fr)) σ h):Ok c A (ex++fr) σ h where
 base:=ok.base
 sto:=fun p hp=>IsO.move (K:=keys σ++(ex++(Fa env++fr))) (fun b o _ e=>e) (fun a m=>.inl (by
  rcases List.mem_append.mp m with z| z
  ·exact List.mem_append_left _ z
  ·rcases List.mem_append.mp z with z| z
   ·exact List.mem_append_right _ (List.mem_append_left _ z)
   ·exact List.mem_append_right _ (List.mem_append_right _ (List.mem_append_right _ z)))) (fun x e=>e) (ok.sto p hp)
 nd:=by
  refine List.Sublist.nodup ?_ ok.nd
  refine List.Sublist.append (List.Sublist.refl _) (List.Sublist.append (List.Sublist.refl _) (List.sublist_append_right _ _))
 new:=fun a m=>ok.new a (by
  rcases List.mem_append.mp m with z| z
  ·exact List.mem_append_left _ z
  ·rcases List.mem_append.mp z with z| z
   ·exact List.mem_append_right _ (List.mem_append_left _ z)
   ·exact List.mem_append_right _ (List.mem_append_right _ (List.mem_append_right _ z)))
 live:=fun a m=>ok.live a (by
  rcases List.mem_append.mp m with z| z
  ·exact List.mem_append_left _ z
  ·exact List.mem_append_right _ (List.mem_append_right _ z))
 stack:=by
  obtain ⟨l',h1,h2,h3,h4⟩:=ok.stack
  have:A.frames.map (env::·)=some l':=h1
  rw [hA] at this
  obtain rfl:env::l=l':=Option.some.inj this
  exact ⟨l,hA,h2.2.2,fun b hb=>List.mem_append_right _ (hin b hb),fun b hb=>h4 b (by simp only [List.filterMap_cons,hf];exact List.mem_cons_of_mem _ hb)⟩
structure Fe (A:Around)(env:Env)(scope:Scope):Prop where
 scope:env.scope=scope
 frame:env.frame=some env.locals
 stack:∃l,A.frames=some (env::l)
noncomputable def WD (c:Cx)(P:Around->Prop)(f:Value)(ds:List D)(σ:Sto)(Q:D->Sto->Prop)(X:Addr->Sto->Prop):Prop:=
 ∀A fr s vals,P A->Ok c A fr σ s.heap->Vs (keys σ++fr) s.heap ds vals->codeAny (model c.prog c.w) A (.call f ⟨vals,[]⟩) (fun r s'=>match r with
  | .ok (.ret a)=>Po c A none fr σ s V Q a s'
  | .ok _=>False
  | .error e=>Ex c A none fr σ s false X e s') s
theorem WD.wc {c:Cx}{P:Around->Prop}{f:Value}{ds:List D}{σ:Sto}{Q:D->Sto->Prop}{X:Addr->Sto->Prop}(h:WD c P f ds σ Q X):WC c P f ds σ Q X:=fun A fr s vals hA ok hv=>wpAny_call (h A fr s vals hA ok hv)
theorem WD.of {c:Cx}{P P':Around->Prop}{f:Addr}{ps:List Str}{body:List Stmt}{scope:Scope}{ds:List D}{σ:Sto}{Q:D->Sto->Prop}{X:Addr->Sto->Prop}(fn:Fn c f ps body scope)(hP:∀A env,P A->A.depth<recursionLimit/\P' (A.deeper env))(hl:ds.length=ps.length)
  (h:∀A fr env,P' A->Fe A env scope->WS c A (Fa env++fr) env (ps.zip ds) σ body (fun _ σ'=>Q .none σ') Q X):WD c P (.ref f) ds σ Q X:=by
 intro A fr s vals hA ok hV
 obtain ⟨o,fd,ho,hdata,hbody,hsc,hclo,hglob,hbui,hcd,hbind⟩:=fn.at_
 have hlen:=hV.length.trans hl
 obtain ⟨l,hAl,hff,hin,hdict⟩:=ok.stack
 refine codeAny_call_cells (hP A (callEnvC fd s.heap.objs.size f) hA).1 (ok.base _ _ ho) hdata (fn.nolimit.keeps ok.base) (hcd.keeps ok.base) hbody (hbind vals hlen) hclo (fun x hx=> ?_) (fun s₁ ic=> ?_) (hsc▸fn.co) (hsc▸fn.gen) (hsc▸fn.kind)
 ·exact hsc▸(fn.kinds x.1 ((wu hlen)▸List.mem_map_of_mem hx)).imp id fun z=>⟨z,jt _ _ _ (.inl z)⟩
 generalize hE:callEnvC fd s.heap.objs.size f=env at ic⊢
 have e1:env.scope=scope:=by exact hE▸hsc
 have e2:env.frame=some env.locals:=by rw [<-hE];rfl
 have e3:env.locals=s.heap.objs.size:=by rw [<-hE];rfl
 have e4:env.cells=cellsFrom (s.heap.objs.size+1) scope.names []:=by rw [<-hE,<-hsc];rfl
 obtain ⟨⟨hsame,hns,hkeep,hfresh⟩,hcell,hap,habove⟩:=ic
 have hge:∀a∈Fa env,s.heap.objs.size<=a:=fun a ha=>by
  rcases List.mem_cons.mp ha with rfl| ha
  ·exact Nat.le_of_eq e3.symm
  ·obtain ⟨p,hp,rfl⟩:=List.mem_map.mp ha
   exact Nat.le_of_lt (e3▸habove p.1 p.2 hp)
 have hlive:∀a∈Fa env,∃o,s₁.heap.get? a=some o/\∀vs,o.data≠.fields vs:=fun a ha=>by
  rcases List.mem_cons.mp ha with rfl| ha
  ·obtain ⟨o,es,ep,g,hd,_⟩:=hns;exact ⟨o,g,fun vs q=>by replace q:=(hd ..).symm.trans q;contradiction⟩
  ·obtain ⟨p,hp,rfl⟩:=List.mem_map.mp ha
   obtain ⟨o,g,hd⟩:=hcell p.1 p.2 ((fun p hp=>J3 (by rw [e4,J2 _ _ 0 _ [] rfl];exact fn.cells) hp) p hp);exact ⟨o,g,fun vs q=>by replace q:=(hd ..).symm.trans q;contradiction⟩
 have hnew:=fun a ha=>jg (hge a ha)
 have less1:Less (keys σ++fr) (keys σ++(Fa env++fr)) s.heap:=fun a m=>by
  rcases List.mem_append.mp m with z| z
  ·exact .inl (List.mem_append_left _ z)
  ·rcases List.mem_append.mp z with z| z
   ·exact .inr (hnew a z)
   ·exact .inl (List.mem_append_right _ z)
 have stay1:Stay (keys σ++fr) s.heap s₁.heap:=fun b o _ e=>hkeep b o e
 have p01:∀{σ'} {s':Shared},Post (Fa env) (Fa env++fr) σ s₁ s' σ'->Post [] fr σ s s' σ':=fun p=>{
  shape:=by obtain ⟨h,tk,rfl⟩:=hsame;obtain ⟨h',tk',rfl⟩:=p.shape;exact ⟨h',tk',rfl⟩
  kept:=fun b o nb e=>p.kept b o (less1.nin nb e) (hkeep b o e)
  slots:=fun b o m _ e=>p.slots b o (List.mem_append_right _ m) (fun z=>by replace e:=(hnew b z ..).symm.trans e;contradiction) (hkeep b o e)
  alive:=fun b o e=>p.alive b o (hkeep b o e)
  grow:=fun a m=>(p.grow a m).imp id fun z=>by
   cases hg:s.heap.get? a with
   | none=>rfl
   | some o=>have:=hkeep a o hg;rw [z] at this;contradiction}
 have less2:∀σ' (h:Heap),Less (keys σ'++(Fa env++fr)) (keys σ'++fr) h:=fun σ' h a m=>by
  rcases List.mem_append.mp m with z| z
  ·exact .inl (List.mem_append_left _ z)
  ·exact .inl (List.mem_append_right _ (List.mem_append_right _ z))
 have fe:Fe (A.deeper env) env scope:=⟨e1,e2,l,by show A.frames.map (env::·)=_;rw [hAl];rfl⟩
 refine wpAny_mono (h (A.deeper env) fr env (hP A env hA).2 fe s₁ ({
  base:=fun b o e=>hkeep b o (ok.base b o e)
  sto:=fun p hp=>IsO.move stay1 less1 (fun x e=>hkeep _ x e) (ok.sto p hp)
  nd:=by
   have h0:=ok.nd
   rw [List.nodup_append] at h0
   rw [List.nodup_append,List.nodup_append]
   refine ⟨h0.1,⟨?_,h0.2.1,fun a ha b hb=>fun z=> ?_⟩,fun a ha b hb=> ?_⟩
   ·simp only [List.nodup_cons]
    refine ⟨fun z=> ?_,?_⟩
    ·obtain ⟨p,hp,e⟩:=List.mem_map.mp z
     exact Nat.ne_of_gt (habove p.1 p.2 hp) e
    ·exact List.pairwise_map.mpr hap
   ·exact Nat.lt_irrefl _ (Nat.lt_of_lt_of_le (ok.lt (List.mem_append_right _ hb)) (z▸hge a ha))
   ·rcases List.mem_append.mp hb with hb| hb
    ·exact fun z=>Nat.lt_irrefl _ (Nat.lt_of_lt_of_le (ok.lt (List.mem_append_left _ ha)) (z▸hge b hb))
    ·exact h0.2.2 a ha b hb
  new:=fun a m=>by
   rcases List.mem_append.mp m with z| z
   ·exact ok.new a (List.mem_append_left _ z)
   ·rcases List.mem_append.mp z with z| z
    ·cases hg:c.h0.get? a with
     | none=>rfl
     | some o=>have:=ok.base _ o hg;rw [hnew a z] at this;contradiction
    ·exact ok.new a (List.mem_append_right _ z)
  live:=fun a m=>by
   rcases List.mem_append.mp m with z| z
   ·obtain ⟨o,g,_⟩:=hlive a z;exact ⟨o,g⟩
   ·obtain ⟨o,g⟩:=ok.live a z;exact ⟨o,hkeep _ _ g⟩
  stack:=by
   refine ⟨env::l,by show A.frames.map (env::·)=_;rw [hAl];rfl,⟨?_,⟨env.locals,?_⟩,?_⟩,fun b hb=> ?_,fun b hb=> ?_⟩
   ·rw [e1,fn.kind];decide
   ·obtain ⟨o,g,hd⟩:=hlive env.locals List.mem_cons_self
    refine ⟨o,e2,?_,g,hd⟩
    cases hg:c.h0.get? env.locals with
    | none=>rfl
    | some o=>have:=ok.base _ o hg;replace this:=(hnew _ List.mem_cons_self ..).symm.trans this;contradiction
   ·exact FunFrames.stays (fun b o _ e=>⟨o.slots,hkeep b o e⟩) hff hin
   ·simp only [List.filterMap_cons,e2] at hb
    rcases List.mem_cons.mp hb with rfl| hb
    ·exact List.mem_append_left _ List.mem_cons_self
    ·exact List.mem_append_right _ (hin b hb)
   ·simp only [List.filterMap_cons,e2] at hb
    rcases List.mem_cons.mp hb with rfl| hb
    ·obtain ⟨o,es,ep,g,hd,_⟩:=hns;exact ⟨o,es,ep,g,hd⟩
    ·obtain ⟨o,es,n,g,r⟩:=hdict b hb;exact ⟨o,es,n,hkeep _ _ g,r⟩}) ({
  kind:=by exact e1▸fn.kind
  glob:=(by exact hE▸hglob)
  bui:=(by exact hE▸hbui)
  ns:=⟨_,hns,fun x d e k=>by
   obtain ⟨v,z,zz⟩:=(bound (k:=env.kindOf) (m:=fun _=>none) (cm:=fun _=>none) fn.nd hl hV e).1 k
   exact ⟨v,z,V.move stay1 less1 _ _ zz⟩⟩
  cell:=fun x cc e=>by
   refine ⟨_,hcell x cc e,fun d e' k=> ?_⟩
   obtain ⟨v,z,zz⟩:=(bound (k:=env.kindOf) (m:=fun _=>none) (cm:=fun _=>none) fn.nd hl hV e').2 (by rcases k with k| k<;>rw [k]<;>decide)
   exact ⟨v,z,V.move stay1 less1 _ _ zz⟩
  has:=fun x k=>by
   rcases k with k| k
   ·have:((cellsFrom (s.heap.objs.size+1) scope.names []).lookup x).isSome=true:=jt _ _ _ (.inl (by rw [<-e1];exact k))
    rw [<-e4] at this
    exact Option.isSome_iff_exists.mp this
   ·exact absurd k (by
     intro k
     exact fn.nofree x (by rw [<-e1];exact k))
  inn:=⟨List.mem_append_left _ List.mem_cons_self,fun p hp=>List.mem_append_left _ (List.mem_cons_of_mem _ (List.mem_map_of_mem (f:=(·.2)) hp))⟩
  apart:=⟨hap,fun p hp=>Nat.ne_of_gt (habove p.1 p.2 hp)⟩})) (fun fl s' hx=> ?_) fun v s' hx=> ?_
 ·obtain ⟨out,σ',p,ok2,r,q⟩:=hx
  have ok3:Ok c A fr σ' s'.heap:=Ok.pop (ex:=[]) hAl e2 hin ok2
  cases out with
  | next m'=>obtain ⟨rfl,_⟩:=r;exact ⟨.none,σ',p01 p,ok3,by unfold V;rfl,q⟩
  | ret d=>obtain ⟨v,rfl,hv,_⟩:=r;exact ⟨d,σ',p01 p,ok3,V.move (fun b o _ e=>e) (less2 σ' _) _ _ hv,q⟩
 ·unfold leaving
  refine wpAny_bind (wpAny_mono (Ex.noted hx fe.stack.choose_spec e2) (fun _ s'' hx2=> ?_) fun _ _ f=>f)
  refine wpAny_mono (Ex.flight hx2) (fun _ s3 hx3=> ?_) fun _ _ f=>f
  obtain ⟨e,C,σ',ex,rfl,p,ok2,hn,he,_,hX⟩:=hx3
  refine Ex.weak ⟨e,C,σ',ex,rfl,p01 p,Ok.pop hAl e2 hin ok2,fun a ha=> ?_,he,trivial,hX⟩
  cases hg:s.heap.get? a with
  | none=>rfl
  | some o=>have:=hkeep a o hg;rw [hn a ha] at this;cases this
theorem WC.of {c:Cx}{P P':Around->Prop}{f:Addr}{ps:List Str}{body:List Stmt}{scope:Scope}{ds:List D}{σ:Sto}{Q:D->Sto->Prop}{X:Addr->Sto->Prop}(fn:Fn c f ps body scope)(hP:∀A env,P A->A.depth<recursionLimit/\P' (A.deeper env))(hl:ds.length=ps.length)
  (h:∀A fr env,P' A->Fe A env scope->WS c A (Fa env++fr) env (ps.zip ds) σ body (fun _ σ'=>Q .none σ') Q X):WC c P (.ref f) ds σ Q X:=(WD.of fn hP hl h).wc
structure Cx.Good (c:Cx):Prop where
 g:c.h0.Ns mainGlobals c.mg
 b:c.h0.Ns builtinsNs c.mb
noncomputable def jc:List Expr->Bool
 | []=>true
 | .Starred _ _::_=>false
 | _::r=>jc r
theorem Jm {env:Env}{e:Expr}{r:List Expr}(h:jc (e::r)=true):starEach (e::r) env=(false,eval e env)::starEach r env/\jc r=true:=by
 cases e<;>first| exact ⟨rfl,h⟩| exact absurd (show false=true from h) (by decide)
theorem jd {env:Env}{pos:Pos}:∀{es:List Expr},jc es=true->∀x∈backTo pos (starEach es env),x.1=false
 | [],_,x,hx=>(List.not_mem_nil (show x∈[] from hx)).elim
 | e::r,h,x,hx=>by
  have step:=Jm (env:=env) h
  rw [step.1] at hx
  rcases List.mem_cons.mp hx with rfl| hx
  ·rfl
  ·exact jd step.2 x hx
theorem jq {M:Model}{A:Around}{E:Value->Shared->Prop}{s:Shared}{f:Value}{args:List (Bool × Sem Value)}{Q:Args->Shared->Prop}(hns:∀x∈args,x.1=false)
  (h:wpAny M A (spliced args) (fun vs s'=>Q ⟨vs,[]⟩ s') E s):wpAny M A (evalArgs f true args []) Q E s:=by
 cases args with
 | nil=>
  refine wpAny_bind (wpAny_mono h (fun vs s' h'=> ?_) fun _ _ x=>x)
  refine wpAny_holding ?_
  exact wpAny_bind (wpAny_pure (wpAny_bind (wpAny_pure (wpAny_pure h'))))
 | cons x r=>
  obtain ⟨b,t⟩:=x
  obtain rfl:b=false:=hns _ List.mem_cons_self
  exact evalArgs_plain h
section
variable {c:Cx} {A:Around} {G:Option Env} {fr:List Addr} {σ:Sto} {X:Addr->Sto->Prop} {env:Env} {m:Vars}
noncomputable def WA (c:Cx)(A:Around)(fr:List Addr)(env:Env)(m:Vars)(σ:Sto)(es:List Expr)(Q:List D->Sto->Prop)(X:Addr->Sto->Prop):Prop:=
 ∀pos s,Ok c A fr σ s.heap->Fm env m fr (keys σ++fr) s.heap->W c A none fr σ (spliced (backTo pos (starEach es env))) Vs Q X s
theorem WA.nil {Q:List D->Sto->Prop}(h:Q [] σ):WA c A fr env m σ [] Q X:=fun pos s ok fm=>spliced_nil ⟨[],σ,Post.refl ..,ok,Vs.nil,h⟩
theorem WA.cons {e:Expr}{r:List Expr}{Q:List D->Sto->Prop}(h:WE c A fr env m σ e (fun d σ1=>WA c A fr env m σ1 r (fun ds σ2=>Q (d::ds) σ2) X) X)(hp:jc (e::r)=true:=by rfl):WA c A fr env m σ (e::r) Q X:=fun pos s ok fm=>by
 rw [(Jm hp).1]
 show wpAny _ _ (spliced ((false,eval e env)::backTo pos (starEach r env))) _ _ _
 refine spliced_cons (wpAny_mono (h s ok fm) (fun v s1 hz=> ?_) fun _ _ x=>x)
 obtain ⟨d,σ1,p1,ok1,x1,q1⟩:=hz
 refine wpAny_mono (q1 pos s1 ok1 (fm.move p1)) (fun vs s2 ⟨ds,σ2,p2,ok2,x2,q2⟩=>⟨d::ds,σ2,p1.trans p2,ok2,Vs.cons (p2.v x1) x2,q2⟩) fun _ _ x=>Ex.back p1 x fun _ _ y=>y
variable {Q:D->Sto->Prop}
theorem WE.callF (g:c.Good){f:Str}{fp pos:Pos}{args:List Expr}{a:Addr}{o:Obj}{fd:FuncData}{P:Around->Prop}(hP:P A)(hk:env.kindOf f=some .globalImplicit)(hg:c.mg f=some (.ref a))(ho:c.h0.get? a=some o)(hd:o.data=.func fd)
  (h:WA c A fr env m σ args (fun ds σ1=>WC c P (.ref a) ds σ1 Q X) X) (hp:jc args=true:=by rfl) (hdb:(f==("__debug__":Str))=false:=by decide):WE c A fr env m σ (.Call (.Name f fp) args [] pos) Q X:=fun s ok fm=>by
 refine wpAny_bind (Name_function_global fm.kind hk (loadGlobal_global (by exact fm.glob▸g.g.keeps ok.base) hg ?_) hdb)
 refine callWith_function (o:=o) (fd:=fd) (jq (jd hp) (wpAny_mono (h pos s ok fm) (fun vs s1 ⟨ds,σ1,p1,ok1,x1,q1⟩=>⟨⟨ok1.base _ _ ho,hd⟩,?_⟩) fun _ _ x=>x))
 refine wpAny_mono (q1 A fr s1 vs hP ok1 x1) (fun _ _ z=>z.back p1) fun _ _ x=>Ex.back p1 x fun _ _ y=>y
theorem WE.callB (g:c.Good){f:Str}{fp pos:Pos}{args:List Expr}{id:String}(hk:env.kindOf f=some .globalImplicit)(hg:c.mg f=none)(hb:c.mb f=some (.builtin id))
  (h:WA c A fr env m σ args (fun ds σ1=>∀s vals,Ok c A fr σ1 s.heap->Vs (keys σ1++fr) s.heap ds vals->W c A none fr σ1 (call (.builtin id) vals) V Q X s) X) (hp:jc args=true:=by rfl) (hdb:(f==("__debug__":Str))=false:=by decide):WE c A fr env m σ (.Call (.Name f fp) args [] pos) Q X:=fun s ok fm=>by
 refine wpAny_bind (Name_function_global fm.kind hk (loadGlobal_builtin (by rw [fm.glob];exact g.g.keeps ok.base) hg (by rw [fm.bui];exact g.b.keeps ok.base) hb ?_) hdb)
 refine callWith_builtin (by
  rw [List.any_eq_false];intro x hx;simp [(jd (env:=env) (pos:=pos) hp) x hx]) (jq (jd hp) (wpAny_mono (h pos s ok fm) (fun vs s1 ⟨ds,σ1,p1,ok1,x1,q1⟩=> ?_) fun _ _ x=>x))
 refine wpAny_mono (q1 s1 vs ok1 x1) (fun _ _ z=>z.back p1) fun _ _ x=>Ex.back p1 x fun _ _ y=>y
end
section
variable {c:Cx} {A:Around} {G:Option Env} {fr:List Addr} {σ:Sto} {X:Addr->Sto->Prop} {env:Env} {m:Vars}
noncomputable abbrev RB (_:List Addr)(_:Heap)(b a:Bool):Prop:=a=b
noncomputable def WTr (c:Cx)(A:Around)(fr:List Addr)(σ:Sto)(d:D)(Q:Bool->Sto->Prop)(X:Addr->Sto->Prop):Prop:=
 ∀v s,Ok c A fr σ s.heap->V (keys σ++fr) s.heap d v->W c A none fr σ (truthy v) RB Q X s
noncomputable def WT (c:Cx)(A:Around)(fr:List Addr)(env:Env)(m:Vars)(σ:Sto)(e:Expr)(Q:Bool->Sto->Prop)(X:Addr->Sto->Prop):Prop:=
 ∀s,Ok c A fr σ s.heap->Fm env m fr (keys σ++fr) s.heap->W c A none fr σ (isTrue e env (eval e env)) RB Q X s
theorem WTr.bool {b:Bool}{Q:Bool->Sto->Prop}(h:Q b σ):WTr c A fr σ (.bool b) Q X:=fun v s ok x=>by
 subst x
 exact wpAny_truthy_bool ⟨b,σ,Post.refl ..,ok,rfl,h⟩
theorem WT.plain {e:Expr}{Q:Bool->Sto->Prop}(h:WE c A fr env m σ e (fun d σ1=>WTr c A fr σ1 d Q X) X)(he:∀whole,isTrue e env whole=(do let v<-whole;standAt e.pos;holding [v] (truthy v)):=by intro _;rfl):WT c A fr env m σ e Q X:=fun s ok fm=>by
 rw [he]
 refine W.bind (W.mono (h s ok fm) (fun d1 σ1 q1 a s1 p1 ok1 x1=> ?_) fun _ _ y=>y)
 exact W.standAt (W.holding (q1 a s1 ok1 x1))
theorem WT.not {e:Expr}{pos:Pos}{Q:Bool->Sto->Prop}(h:WT c A fr env m σ e (fun b σ1=>Q (!b) σ1) X):WT c A fr env m σ (.UnaryOp .Not e pos) Q X:=fun s ok fm=>by
 refine W.bind (W.mono (h s ok fm) (fun d1 σ1 q1 a s1 p1 ok1 x1=> ?_) fun _ _ y=>y)
 obtain rfl:a=d1:=x1
 exact W.pure ok1 rfl q1
noncomputable def WTs (c:Cx)(A:Around)(fr:List Addr)(env:Env)(m:Vars)(σ:Sto)(op:BoolOp)(es:List Expr)(Q:Bool->Sto->Prop)(X:Addr->Sto->Prop):Prop:=
 ∀s,Ok c A fr σ s.heap->Fm env m fr (keys σ++fr) s.heap->W c A none fr σ (allTrue op es env) RB Q X s
theorem WTs.nilAnd {Q:Bool->Sto->Prop}(h:Q true σ):WTs c A fr env m σ .And [] Q X:=fun s ok fm=>by
 exact wpAny_pure ⟨true,σ,Post.refl ..,ok,rfl,h⟩
theorem WTs.nilOr {Q:Bool->Sto->Prop}(h:Q false σ):WTs c A fr env m σ .Or [] Q X:=fun s ok fm=>by
 exact wpAny_pure ⟨false,σ,Post.refl ..,ok,rfl,h⟩
theorem WTs.and {e:Expr}{es:List Expr}{Q:Bool->Sto->Prop}(h:WT c A fr env m σ e (fun b σ1=>if b=true then WTs c A fr env m σ1 .And es Q X else Q false σ1) X):WTs c A fr env m σ .And (e::es) Q X:=fun s ok fm=>by
 refine W.bind (W.mono (h s ok fm) (fun d1 σ1 q1 a s1 p1 ok1 x1=> ?_) fun _ _ y=>y)
 obtain rfl:a=d1:=x1
 cases a with
 | true=>exact q1 s1 ok1 (fm.move p1)
 | false=>exact W.pure ok1 rfl q1
theorem WTs.or {e:Expr}{es:List Expr}{Q:Bool->Sto->Prop}(h:WT c A fr env m σ e (fun b σ1=>if b=true then Q true σ1 else WTs c A fr env m σ1 .Or es Q X) X):WTs c A fr env m σ .Or (e::es) Q X:=fun s ok fm=>by
 refine W.bind (W.mono (h s ok fm) (fun d1 σ1 q1 a s1 p1 ok1 x1=> ?_) fun _ _ y=>y)
 obtain rfl:a=d1:=x1
 cases a with
 | false=>exact q1 s1 ok1 (fm.move p1)
 | true=>exact W.pure ok1 rfl q1
theorem WT.boolop {op:BoolOp}{es:List Expr}{pos:Pos}{Q:Bool->Sto->Prop}(h:WTs c A fr env m σ op es Q X):WT c A fr env m σ (.BoolOp op es pos) Q X:=fun s ok fm=>by
 exact h s ok fm
theorem WT.compare {l r:Expr}{op:CmpOp}{pos:Pos}{Q:Bool->Sto->Prop}(h:WE c A fr env m σ l (fun d1 σ1=>WE c A fr env m σ1 r (fun d2 σ2=>WB c A fr σ2 (compareOp op) d1 d2 (fun d3 σ3=>WTr c A fr σ3 d3 Q X) X) X) X)(hb:behindInMarks op r=false:=by rfl):
  WT c A fr env m σ (.Compare l [op] [r] pos) Q X:=fun s ok fm=>by
 refine W.bind (W.mono (h s ok fm) (fun d1 σ1 q1 a s1 p1 ok1 x1=> ?_) fun _ _ y=>y)
 show W c A none fr σ1 (testChain pos a [op] [markedBehindIn op r (eval r env)]) RB Q X s1
 rw [markedBehindIn_of_false hb]
 refine W.bind (W.holding (W.mono (q1 s1 ok1 (fm.move p1)) (fun d2 σ2 q2 b s2 p2 ok2 x2=> ?_) fun _ _ y=>y))
 refine W.standAt (W.bind (W.operate (W.mono (q2 a b s2 ok2 (p2.v x1) x2) (fun d3 σ3 q3 e s3 p3 ok3 x3=> ?_) fun _ _ y=>y)))
 exact W.holding (q3 e s3 ok3 x3)
theorem WT.compare2 {l r r2:Expr}{op op2:CmpOp}{pos:Pos}{Q:Bool->Sto->Prop}(h:WE c A fr env m σ l (fun d1 σ1=>WE c A fr env m σ1 r (fun d2 σ2=>WB c A fr σ2 (compareOp op) d1 d2 (fun d3 σ3=>WTr c A fr σ3 d3 (fun b σ4=>if b=true then WE c A fr env m σ4 r2 (fun d4 σ5=>WB c A fr σ5 (compareOp op2) d2 d4 (fun d5 σ6=>WTr c A fr σ6 d5 Q X) X) X else Q false σ4) X) X) X) X)(hb2:behindInMarks op2 r2=false:=by rfl):
  WT c A fr env m σ (.Compare l [op,op2] [r,r2] pos) Q X:=fun s ok fm=>by
 refine W.bind (W.mono (h s ok fm) (fun d1 σ1 q1 a s1 p1 ok1 x1=> ?_) fun _ _ y=>y)
 show W c A none fr σ1 (testChain pos a [op,op2] [eval r env,markedBehindIn op2 r2 (eval r2 env)]) RB Q X s1
 rw [markedBehindIn_of_false hb2]
 have fm1:=fm.move p1
 refine W.bind (W.holding (W.mono (q1 s1 ok1 fm1) (fun d2 σ2 q2 b s2 p2 ok2 x2=> ?_) fun _ _ y=>y))
 refine W.standAt (W.bind (W.holding (W.mono (q2 a b s2 ok2 (p2.v x1) x2) (fun d3 σ3 q3 e s3 p3 ok3 x3=> ?_) fun _ _ y=>y)))
 refine wpAny_bind (Jl ?_)
 refine W.bind (W.holding (W.mono (q3 e s3 ok3 x3) (fun b1 σ4 q4 t s4 p4 ok4 x4=> ?_) fun _ _ y=>y))
 obtain rfl:t=b1:=x4
 cases t with
 | false=>exact W.pure ok4 rfl q4
 | true=>
  refine W.bind (W.holding (W.mono (q4 s4 ok4 (((fm1.move p2).move p3).move p4)) (fun d4 σ5 q5 f s5 p5 ok5 x5=> ?_) fun _ _ y=>y))
  refine W.standAt (W.bind (W.operate (W.mono (q5 b f s5 ok5 (p5.v (p4.v (p3.v x2))) x5) (fun d5 σ6 q6 g s6 p6 ok6 x6=> ?_) fun _ _ y=>y)))
  exact W.holding (q6 g s6 ok6 x6)
noncomputable def WBs (c:Cx)(A:Around)(fr:List Addr)(env:Env)(m:Vars)(σ:Sto)(op:BoolOp)(es:List Expr)(Q:D->Sto->Prop)(X:Addr->Sto->Prop):Prop:=
 ∀pos s,Ok c A fr σ s.heap->Fm env m fr (keys σ++fr) s.heap->W c A none fr σ (boolOp pos op (evalEach es env)) V Q X s
theorem WBs.one {op:BoolOp}{e:Expr}{Q:D->Sto->Prop}(h:WE c A fr env m σ e Q X):WBs c A fr env m σ op [e] Q X:=fun pos s ok fm=>h s ok fm
theorem WBs.and {e e2:Expr}{es:List Expr}{Q:D->Sto->Prop}(h:WE c A fr env m σ e (fun d σ1=>WTr c A fr σ1 d (fun b σ2=>if b=true then WBs c A fr env m σ2 .And (e2::es) Q X else Q d σ2) X) X):WBs c A fr env m σ .And (e::e2::es) Q X:=fun pos s ok fm=>by
 refine W.bind (W.mono (h s ok fm) (fun d1 σ1 q1 a s1 p1 ok1 x1=> ?_) fun _ _ y=>y)
 refine W.standAt (W.bind (W.holding (W.mono (q1 a s1 ok1 x1) (fun b σ2 q2 t s2 p2 ok2 x2=> ?_) fun _ _ y=>y)))
 obtain rfl:t=b:=x2
 cases t with
 | true=>exact q2 pos s2 ok2 ((fm.move p1).move p2)
 | false=>exact W.pure ok2 (p2.v x1) q2
theorem WBs.or {e e2:Expr}{es:List Expr}{Q:D->Sto->Prop}(h:WE c A fr env m σ e (fun d σ1=>WTr c A fr σ1 d (fun b σ2=>if b=true then Q d σ2 else WBs c A fr env m σ2 .Or (e2::es) Q X) X) X):WBs c A fr env m σ .Or (e::e2::es) Q X:=fun pos s ok fm=>by
 refine W.bind (W.mono (h s ok fm) (fun d1 σ1 q1 a s1 p1 ok1 x1=> ?_) fun _ _ y=>y)
 refine W.standAt (W.bind (W.holding (W.mono (q1 a s1 ok1 x1) (fun b σ2 q2 t s2 p2 ok2 x2=> ?_) fun _ _ y=>y)))
 obtain rfl:t=b:=x2
 cases t with
 | false=>exact q2 pos s2 ok2 ((fm.move p1).move p2)
 | true=>exact W.pure ok2 (p2.v x1) q2
theorem WE.boolop {op:BoolOp}{es:List Expr}{pos:Pos}{Q:D->Sto->Prop}(h:WBs c A fr env m σ op es Q X):WE c A fr env m σ (.BoolOp op es pos) Q X:=fun s ok fm=>h pos s ok fm
theorem WE.compare2 {l r r2:Expr}{op op2:CmpOp}{pos:Pos}{Q:D->Sto->Prop}(h:WE c A fr env m σ l (fun d1 σ1=>WE c A fr env m σ1 r (fun d2 σ2=>WB c A fr σ2 (compareOp op) d1 d2 (fun d3 σ3=>WTr c A fr σ3 d3 (fun b σ4=>if b=true then WE c A fr env m σ4 r2 (fun d4 σ5=>WB c A fr σ5 (compareOp op2) d2 d4 Q X) X else Q d3 σ4) X) X) X) X)(hb2:behindInMarks op2 r2=false:=by rfl):
  WE c A fr env m σ (.Compare l [op,op2] [r,r2] pos) Q X:=fun s ok fm=>by
 refine W.bind (W.mono (h s ok fm) (fun d1 σ1 q1 a s1 p1 ok1 x1=> ?_) fun _ _ y=>y)
 show W c A none fr σ1 (compareChain pos a [op,op2] [eval r env,markedBehindIn op2 r2 (eval r2 env)]) V Q X s1
 rw [markedBehindIn_of_false hb2]
 have fm1:=fm.move p1
 refine W.bind (W.holding (W.mono (q1 s1 ok1 fm1) (fun d2 σ2 q2 b s2 p2 ok2 x2=> ?_) fun _ _ y=>y))
 refine W.standAt (W.bind (W.holding (W.mono (q2 a b s2 ok2 (p2.v x1) x2) (fun d3 σ3 q3 e s3 p3 ok3 x3=> ?_) fun _ _ y=>y)))
 refine wpAny_bind (Jl ?_)
 refine W.bind (W.holding (W.mono (q3 e s3 ok3 x3) (fun b1 σ4 q4 t s4 p4 ok4 x4=> ?_) fun _ _ y=>y))
 obtain rfl:t=b1:=x4
 cases t with
 | false=>exact W.pure ok4 (p4.v x3) q4
 | true=>
  refine W.bind (W.holding (W.mono (q4 s4 ok4 (((fm1.move p2).move p3).move p4)) (fun d4 σ5 q5 f s5 p5 ok5 x5=> ?_) fun _ _ y=>y))
  exact W.standAt (W.operate (q5 b f s5 ok5 (p5.v (p4.v (p3.v x2))) x5))
variable {N:Vars->Sto->Prop} {R:D->Sto->Prop}
theorem W1.ite {test:Expr}{body orelse:List Stmt}{pos:Pos}(h:WT c A fr env m σ test (fun b σ1=>if b=true then WS c A fr env m σ1 body N R X else WS c A fr env m σ1 orelse N R X) X):W1 c A fr env m σ (.If test body orelse pos) N R X:=fun s ok fm=>by
 refine W.standAt (W.bindE fm (W.mono (h s ok fm) (fun d σ1 q1 a s1 fm1 p1 ok1 x1=> ?_) fun _ _ y=>y))
 obtain rfl:a=d:=x1
 cases a with
 | true=>exact q1 s1 ok1 fm1
 | false=>exact q1 s1 ok1 fm1
end
theorem yH {prog:Program}{w:World}{A:Around}{s:Shared}{R:Result->Shared->Prop}{target it body orelse env}(I:Nat->Shared->Prop)
  (turn:∀n s,I n s->wpAny (model prog w) A (pyNext it) (fun r s₁=>match r with
   | none=>wpAny (model prog w) A (execs orelse env) (fun f s₃=>R (.ok f) s₃) (notedBy (model prog w) A env fun e s'=>R (.error e) s') s₁
   | some v=>wpAny (model prog w) A (letOwnedTupleGo target it v) (fun _ s₁'=>wpAny (model prog w) A (assign target env v) (fun _ s₂=>wpAny (model prog w) A (execs body env) (fun f s₃=>match f with
     | .next| .cont=>∃m,m<n/\I m s₃
     | .brk=>R (.ok .next) s₃
     | .ret v=>R (.ok (.ret v)) s₃) (notedBy (model prog w) A env fun e s'=>R (.error e) s') s₂) (notedBy (model prog w) A env fun e s'=>R (.error e) s') s₁') (notedBy (model prog w) A env fun e s'=>R (.error e) s') s₁) (notedBy (model prog w) A env fun e s'=>R (.error e) s') s)
  (n:Nat) (h:I n s):codeAny (model prog w) A (.forLoop target it body orelse env) R s:=by
 refine codeAny_loop' rfl I (fun n s hI=> ?_) n h
 refine wpAny_noted ?_
 refine wpAny_bind (wpAny_standAt (wpAny_bind (wpAny_onRaise (wpAny_mono (turn n s hI) (fun r s₁ h₁=> ?_) fun _ _ h'=>wpAny_standAt h'))))
 cases r with
 | none=>exact wpAny_pure (.inr ⟨rfl,codeAny_block h₁⟩)
 | some v=>
  refine wpAny_bind (wpAny_mono h₁ (fun _ s₁' h₁'=> ?_) fun _ _ h'=>h')
  refine wpAny_bind (wpAny_mono h₁' (fun _ s₂ h₂=>wpAny_bind (wpAny_mono h₂ (fun f s₃ h₃=> ?_) fun _ _ h'=>h')) fun _ _ h'=>h')
  cases f with
  | next=>exact wpAny_pure (.inl ⟨rfl,h₃⟩)
  | cont=>exact wpAny_pure (.inl ⟨rfl,h₃⟩)
  | brk=>exact wpAny_pure h₃
  | ret v=>exact wpAny_pure h₃
theorem yp {prog:Program}{w:World}{A:Around}{s:Shared}{R:Result->Shared->Prop}{elt target iter:Expr}{ifs:List Expr}{scope:Scope}{pos:Pos}{it acc:Value}{env:Env}(I:Nat->Shared->Prop)
  (turn:∀n s,I n s->wpAny (model prog w) A (pyNext it) (fun r s₁=>match r with
   | none=>R (.ok .next) s₁
   | some v=>wpAny (model prog w) A (letOwnedTupleGo target it v) (fun _ s₁'=>wpAny (model prog w) A (assign target env v) (fun _ s₂=>
     wpAny (model prog w) A (forIn ifs true fun c r=>if r=true then do let ok<-isTrue c env (eval c env);pure (ForInStep.yield ok) else pure (ForInStep.yield r)) (fun ok s₃=>
      if ok=true then wpAny (model prog w) A (eval elt env) (fun x s₄=>
       wpAny (model prog w) A (call (.builtin "list.append") [acc,x]) (fun _ s₅=>∃m,m<n/\I m s₅) (fun _ _=>False) s₄) (fun _ _=>False) s₃
      else ∃m,m<n/\I m s₃) (fun _ _=>False) s₂) (fun _ _=>False) s₁') (fun _ _=>False) s₁) (fun _ _=>False) s)
  (n:Nat) (h:I n s):codeAny (model prog w) A (.compLoop (.ListComp elt [⟨target,iter,ifs,0⟩] scope pos) 0 it acc env) R s:=by
 refine codeAny_loop rfl I (fun n s hI=> ?_) n h
 show wpAny _ A ((compTurn (.ListComp elt [⟨target,iter,ifs,0⟩] scope pos) 0 it acc env).onRaise (fun x=>do noteFrame x env;theTreesLotGoes x)) _ _ s
 refine wpAny_noted ?_
 rw [compTurn_list]
 refine wpAny_bind (wpAny_standAt (wpAny_bind (wpAny_mono (turn n s hI) (fun r s₁ h₁=> ?_) fun _ _ h'=>h'.elim)))
 cases r with
 | none=>exact wpAny_pure h₁
 | some v=>
  refine wpAny_bind (wpAny_mono h₁ (fun _ s₁' h₁'=> ?_) fun _ _ h'=>h'.elim)
  refine wpAny_bind (wpAny_mono h₁' (fun _ s₂ h₂=>wpAny_bind (wpAny_mono h₂ (fun ok s₃ h₃=> ?_) fun _ _ h'=>h'.elim)) fun _ _ h'=>h'.elim)
  cases ok with
  | false=>exact wpAny_pure ⟨rfl,h₃⟩
  | true=>
   exact wpAny_bind (wpAny_bind (wpAny_mono h₃ (fun x s₄ h₄=>wpAny_bind (wpAny_mono h₄ (fun _ s₅ h₅=>wpAny_pure (wpAny_pure ⟨rfl,h₅⟩)) fun _ _ h'=>h'.elim)) fun _ _ h'=>h'.elim))
theorem Ok.more {c:Cx}{A:Around}{fr wr:List Addr}{σ:Sto}{h h':Heap}(ok:Ok c A fr σ h)(k:∀b o,h.get? b=some o->h'.get? b=some o)(hn:∀a∈wr,h.get? a=none)(hl:∀a∈wr,∃o,h'.get? a=some o)(nd:wr.Nodup):Ok c A (wr++fr) σ h' where
 base:=fun b o e=>k b o (ok.base b o e)
 sto:=fun p hp=>IsO.move (K:=keys σ++fr) (fun b o _ e=>k b o e) (fun a m=>by
  rcases List.mem_append.mp m with z| z
  ·exact .inl (List.mem_append_left _ z)
  ·rcases List.mem_append.mp z with z| z
   ·exact .inr (hn a z)
   ·exact .inl (List.mem_append_right _ z)) (fun x e=>k _ x e) (ok.sto p hp)
 nd:=by
  have h0:=ok.nd
  have ap:∀a∈wr,a∉keys σ++fr:=fun a ha m=>by obtain ⟨o,e⟩:=ok.there m;replace e:=(hn a ha ..).symm.trans e;contradiction
  rw [List.nodup_append] at h0
  rw [List.nodup_append,List.nodup_append]
  refine ⟨h0.1,⟨nd,h0.2.1,fun a ha b hb z=>ap a ha (z▸List.mem_append_right _ hb)⟩,fun a ha b hb=> ?_⟩
  rcases List.mem_append.mp hb with hb| hb
  ·exact fun z=>ap b hb (z▸List.mem_append_left _ ha)
  ·exact h0.2.2 a ha b hb
 new:=fun a m=>by
  rcases List.mem_append.mp m with z| z
  ·exact ok.new a (List.mem_append_left _ z)
  ·rcases List.mem_append.mp z with z| z
   ·cases hg:c.h0.get? a with
    | none=>rfl
    | some o=>have:=ok.base _ o hg;replace this:=(hn a z ..).symm.trans this;contradiction
   ·exact ok.new a (List.mem_append_right _ z)
 live:=fun a m=>by
  rcases List.mem_append.mp m with z| z
  ·exact hl a z
  ·obtain ⟨o,g⟩:=ok.live a z;exact ⟨o,k _ _ g⟩
 stack:=by
  obtain ⟨l,a,b,d,f⟩:=(ok.keeps k).stack
  exact ⟨l,a,b,fun x hx=>List.mem_append_right _ (d x hx),f⟩
theorem Ok.less {c:Cx}{A:Around}{fr wr ex:List Addr}{σ:Sto}{h:Heap}(ok:Ok c A (ex++(wr++fr)) σ h)(hin:∀l,A.frames=some l->∀b∈l.filterMap (·.frame),b∈fr):Ok c A (ex++fr) σ h where
 base:=ok.base
 sto:=fun p hp=>IsO.move (K:=keys σ++(ex++(wr++fr))) (fun b o _ e=>e) (fun a m=>.inl (by
  rcases List.mem_append.mp m with z| z
  ·exact List.mem_append_left _ z
  ·rcases List.mem_append.mp z with z| z
   ·exact List.mem_append_right _ (List.mem_append_left _ z)
   ·exact List.mem_append_right _ (List.mem_append_right _ (List.mem_append_right _ z)))) (fun x e=>e) (ok.sto p hp)
 nd:=by
  refine List.Sublist.nodup ?_ ok.nd
  exact List.Sublist.append (List.Sublist.refl _) (List.Sublist.append (List.Sublist.refl _) (List.sublist_append_right _ _))
 new:=fun a m=>ok.new a (by
  rcases List.mem_append.mp m with z| z
  ·exact List.mem_append_left _ z
  ·rcases List.mem_append.mp z with z| z
   ·exact List.mem_append_right _ (List.mem_append_left _ z)
   ·exact List.mem_append_right _ (List.mem_append_right _ (List.mem_append_right _ z)))
 live:=fun a m=>ok.live a (by
  rcases List.mem_append.mp m with z| z
  ·exact List.mem_append_left _ z
  ·exact List.mem_append_right _ (List.mem_append_right _ z))
 stack:=by
  obtain ⟨l,h1,h2,h3,h4⟩:=ok.stack
  exact ⟨l,h1,h2,fun b hb=>List.mem_append_right _ (hin l h1 b hb),h4⟩
theorem jB {fr wr:List Addr}(σ:Sto)(h:Heap):Less (keys σ++(wr++fr)) (keys σ++fr) h:=fun a m=>by
 rcases List.mem_append.mp m with z| z
 ·exact .inl (List.mem_append_left _ z)
 ·exact .inl (List.mem_append_right _ (List.mem_append_right _ z))
theorem jC {fr wr:List Addr}{σ:Sto}{h:Heap}(hn:∀a∈wr,h.get? a=none):Less (keys σ++fr) (keys σ++(wr++fr)) h:=fun a m=>by
 rcases List.mem_append.mp m with z| z
 ·exact .inl (List.mem_append_left _ z)
 ·rcases List.mem_append.mp z with z| z
  ·exact .inr (hn a z)
  ·exact .inl (List.mem_append_right _ z)
theorem Fm.shift {env:Env}{m:Vars}{fr fr' K K':List Addr}{h:Heap}(f:Fm env m fr K h)(hi:env.locals∈fr'/\∀p∈env.cells,p.2∈fr')(hl:Less K K' h):Fm env m fr' K' h where
 kind:=f.kind
 glob:=f.glob
 bui:=f.bui
 ns:=by obtain ⟨mv,hn,r⟩:=f.ns;exact ⟨mv,hn,fun x d e k=>by obtain ⟨v,a,b⟩:=r x d e k;exact ⟨v,a,V.move (fun _ _ _ e=>e) hl _ _ b⟩⟩
 cell:=fun x cc e=>by obtain ⟨ov,hc,r⟩:=f.cell x cc e;exact ⟨ov,hc,fun d e k=>by obtain ⟨v,a,b⟩:=r d e k;exact ⟨v,a,V.move (fun _ _ _ e=>e) hl _ _ b⟩⟩
 has:=f.has
 inn:=hi
 apart:=f.apart
theorem Post.drop {F fr wr:List Addr}{σ σ1 σ2:Sto}{s s1 s2:Shared}(p:Post [] fr σ s s1 σ1)(hn:∀a∈wr,s.heap.get? a=none)(q:Post (wr++F) (wr++fr) σ1 s1 s2 σ2):Post F fr σ s s2 σ2 where
 shape:=by obtain ⟨h,tk,rfl⟩:=p.shape;obtain ⟨h',tk',rfl⟩:=q.shape;exact ⟨h',tk',rfl⟩
 kept:=fun b o nb e=>q.kept b o (fun m=>by
  rcases List.mem_append.mp m with z| z
  ·exact p.less.nin nb e (List.mem_append_left _ z)
  ·rcases List.mem_append.mp z with z| z
   ·replace e:=(hn b z ..).symm.trans e;contradiction
   ·exact nb (List.mem_append_right _ z)) (p.kept b o nb e)
 slots:=fun b o m nf e=>by
  obtain ⟨sl,e1,r1⟩:=p.slots b o m (by simp) e
  obtain ⟨sl',e2,r2⟩:=q.slots b _ (List.mem_append_right _ m) (fun z=>by
   rcases List.mem_append.mp z with z| z
   ·replace e:=(hn b z ..).symm.trans e;contradiction
   ·exact nf z) e1
  exact ⟨sl',e2,fun z=>(r2 z).trans (r1 z)⟩
 alive:=fun b o e=>by obtain ⟨o1,e1⟩:=p.alive b o e;exact q.alive b o1 e1
 grow:=fun a m=>by
  rcases q.grow a m with z| z
  ·exact p.grow a z
  ·exact .inr (jF p z)
theorem Ex.drop {c:Cx}{A:Around}{env:Env}{fr wr:List Addr}{σ σ1:Sto}{s s1 s2:Shared}{t:Bool}{X:Addr->Sto->Prop}{v:Value}(hin:∀l,A.frames=some l->∀b∈l.filterMap (·.frame),b∈fr)(p:Post [] fr σ s s1 σ1)(hn:∀a∈wr,s.heap.get? a=none)(hi:env.locals∈fr/\∀p∈env.cells,p.2∈fr)
  (x:∃e C σ' ex,v=.ref e/\Post (wr++Fa env) (wr++fr) σ1 s1 s2 σ'/\Ok c A (ex++(wr++fr)) σ' s2.heap/\(∀a∈ex,s1.heap.get? a=none)/\ExcOk s2.heap ex e C t/\Fm env [] (wr++fr) (keys σ'++(wr++fr)) s2.heap/\X C σ'):Ex c A (some env) fr σ s t X v s2:=by
 obtain ⟨e,C,σ',ex,rfl,q,ok,n,r,f,hx⟩:=x
 exact ⟨e,C,σ',ex,rfl,Post.drop p hn q,ok.less hin,fun a ha=>jF p (n a ha),r,f.shift hi (jB _ _),hx⟩
structure Ow (wr:List Addr)(h h':Heap):Prop where
 kept:∀b o,b∉wr->h.get? b=some o->h'.get? b=some o
 live:∀b∈wr,∃o,h'.get? b=some o
theorem Ok.ow {c:Cx}{A:Around}{fr wr:List Addr}{σ:Sto}{h h':Heap}(ok:Ok c A (wr++fr) σ h)(hnd:∀b∈wr,∀o,h.get? b=some o->∀es n,o.data≠.dict es n)(y:Ow wr h h'):Ok c A (wr++fr) σ h' where
 base:=fun b o e=>y.kept b o (fun m=>by replace e:=(ok.new b (List.mem_append_right _ (List.mem_append_left _ m)) ..).symm.trans e;contradiction) (ok.base b o e)
 sto:=fun p hp=>IsO.move (fun b o n e=>y.kept b o (fun m=>n (List.mem_append_right _ (List.mem_append_left _ m))) e) (fun a m=>.inl m) (fun x e=>y.kept _ _ (fun m=>by
  have:=ok.nd
  rw [List.nodup_append] at this
  exact this.2.2 _ (List.mem_map_of_mem hp) _ (List.mem_append_left _ m) rfl) e) (ok.sto p hp)
 nd:=ok.nd
 new:=ok.new
 live:=fun a m=>by
  by_cases z:a∈wr
  ·exact y.live a z
  ·obtain ⟨o,e⟩:=ok.live a m;exact ⟨o,y.kept _ _ z e⟩
 stack:=by
  obtain ⟨l,a,b,d,f⟩:=ok.stack
  have nw:∀x∈l.filterMap (·.frame),x∉wr:=fun x hx hw=>by
   obtain ⟨o,es,n,g,r⟩:=f x hx
   exact hnd x hw o g es n r
  refine ⟨l,a,?_,d,fun x hx=> ?_⟩
  ·have:∀x∈l.filterMap (·.frame),x∈l.filterMap (·.frame):=fun x hx=>hx
   refine FunFrames.turn (fr:=l.filterMap (·.frame)) (fun x o hx g k=>⟨o,y.kept _ _ (nw x hx) g,k⟩) b this
  ·obtain ⟨o,es,n,g,r⟩:=f x hx;exact ⟨o,es,n,y.kept _ _ (nw x hx) g,r⟩
theorem Post.ow {F fr wr:List Addr}{σ:Sto}{s:Shared}{h':Heap}{tk:Nat}(y:Ow wr s.heap h'):Post (wr++F) (wr++fr) σ s {s with heap:=h',toks:=tk} σ where
 shape:=⟨h',tk,rfl⟩
 kept:=fun b o n e=>y.kept b o (fun m=>n (List.mem_append_right _ (List.mem_append_left _ m))) e
 slots:=fun b o m n e=>⟨o.slots,y.kept b o (fun z=>n (List.mem_append_left _ z)) e,fun _=>rfl⟩
 alive:=fun b o e=>by
  by_cases z:b∈wr
  ·exact y.live b z
  ·exact ⟨o,y.kept _ _ z e⟩
 grow:=fun _ m=>.inl m
theorem Fm.ow {env:Env}{m:Vars}{fr wr K:List Addr}{h h':Heap}(f:Fm env m (wr++fr) K h)(hK:∀b∈wr,b∈K)(hn:env.locals∉wr/\∀p∈env.cells,p.2∉wr)(y:Ow wr h h'):Fm env m (wr++fr) K h':=by
 have st:Stay K h h':=fun b o n e=>y.kept b o (fun m=>n (hK _ m)) e
 have ls:Less K K h:=fun a m=>.inl m
 exact {
  kind:=f.kind
  glob:=f.glob
  bui:=f.bui
  ns:=by
   obtain ⟨mv,⟨o,es,ep,g,r⟩,q⟩:=f.ns
   exact ⟨mv,⟨o,es,ep,y.kept _ _ hn.1 g,r⟩,fun x d e k=>by obtain ⟨v,a,b⟩:=q x d e k;exact ⟨v,a,V.move st ls _ _ b⟩⟩
  cell:=fun x cc e=>by
   obtain ⟨ov,⟨o,g,r⟩,q⟩:=f.cell x cc e
   exact ⟨ov,⟨o,y.kept _ _ (hn.2 _ (mem_of_lookup e)) g,r⟩,fun d e k=>by obtain ⟨v,a,b⟩:=q d e k;exact ⟨v,a,V.move st ls _ _ b⟩⟩
  has:=f.has
  inn:=f.inn
  apart:=f.apart}
structure Src (c:Cx)(A:Around)(tg:Expr)(I:Addr)(wr:List Addr)(vals:List Vars)(Inv:Sto->Prop)(St:Nat->List Addr->Heap->Prop)(Mid:Nat->List Addr->Heap->Value->Prop):Prop where
 nodict:∀i K h,St i K h->∀b∈wr,∀o,h.get? b=some o->∀es n,o.data≠.dict es n
 move:∀i K K' h h',St i K h->Stay K h h'->(∀b∈wr,∀o,h.get? b=some o->h'.get? b=some o)->Less K K' h->St i K' h'
 next:∀i σ fr (s:Shared) (Q:Option Value->Shared->Prop) (E:Value->Shared->Prop),i<vals.length->Ok c A (wr++fr) σ s.heap->St i (keys σ++(wr++fr)) s.heap->Inv σ->
  (∀v h' tk,Mid i (keys σ++(wr++fr)) h' v->Ow wr s.heap h'->Q (some v) {s with heap:=h',toks:=tk})->wpAny (model c.prog c.w) A (pyNext (.ref I)) Q E s
 put:∀i σ fr (F:List Addr) (env:Env) (m:Vars) v (s:Shared) (Q:Unit->Shared->Prop) (E:Value->Shared->Prop) x,vals[i]? =some x->Mid i (keys σ++(wr++fr)) s.heap v->Ok c A (wr++fr) σ s.heap->Fm env m (wr++fr) (keys σ++(wr++fr)) s.heap->(env.locals∈fr/\∀p∈env.cells,p.2∈fr)->
  (∀y∈x,env.kindOf y.1=some .local\/env.kindOf y.1=some .cell)->(env.locals∈F/\∀y∈x,env.kindOf y.1=some .cell->∀cc,env.cells.lookup y.1=some cc->cc∈F)->(∀b∈wr,∀o,s.heap.get? b=some o->∀es n,o.data≠.dict es n)->
  (∀h' tk,St (i+1) (keys σ++(wr++fr)) h'->Fm env (x++m) (wr++fr) (keys σ++(wr++fr)) h'->Ok c A (wr++fr) σ h'->Post (wr++F) (wr++fr) σ s {s with heap:=h',toks:=tk} σ->Q () {s with heap:=h',toks:=tk})->
  wpAny (model c.prog c.w) A (letOwnedTupleGo tg (.ref I) v) (fun _ s'=>wpAny (model c.prog c.w) A (assign tg env v) Q E s') E s
 midnd:∀i K h v,Mid i K h v->∀b∈wr,∀o,h.get? b=some o->∀es n,o.data≠.dict es n
 done:∀σ fr (s:Shared) (Q:Option Value->Shared->Prop) (E:Value->Shared->Prop),Ok c A (wr++fr) σ s.heap->St vals.length (keys σ++(wr++fr)) s.heap->Inv σ->
  (∀h' tk,(∀b o,b∉wr->s.heap.get? b=some o->h'.get? b=some o)->Q none {s with heap:=h',toks:=tk})->wpAny (model c.prog c.w) A (pyNext (.ref I)) Q E s
 self:∀i K (s:Shared) (Q:Value->Shared->Prop) (E:Value->Shared->Prop),St i K s.heap->Q (.ref I) s->wpAny (model c.prog c.w) A (pyIter (.ref I)) Q E s
inductive ItP (c:Cx)(A:Around)(fr:List Addr)(env:Env)(m:Vars)(σ:Sto)(tg:Expr)(Q:List Vars->(Sto->Prop)->Sto->Prop)(s:Shared)(it:Value)(s2:Shared):Prop
 | mk (I:Addr) (wr:List Addr) (vals:List Vars) (Inv:Sto->Prop) (St:Nat->List Addr->Heap->Prop) (Mid:Nat->List Addr->Heap->Value->Prop) (σ':Sto) (e:it=.ref I) (p:Post [] fr σ s s2 σ') (ok:Ok c A fr σ' s2.heap) (okw:Ok c A (wr++fr) σ' s2.heap) (hn:∀a∈wr,s.heap.get? a=none)
   (fmw:Fm env m (wr++fr) (keys σ'++(wr++fr)) s2.heap) (src:Src c A tg I wr vals Inv St Mid) (st:St 0 (keys σ'++(wr++fr)) s2.heap) (inv:Inv σ') (q:Q vals Inv σ'):ItP c A fr env m σ tg Q s it s2
noncomputable def WIt (c:Cx)(A:Around)(fr:List Addr)(env:Env)(m:Vars)(σ:Sto)(iter tg:Expr)(Q:List Vars->(Sto->Prop)->Sto->Prop)(X:Addr->Sto->Prop):Prop:=
 ∀s,Ok c A fr σ s.heap->Fm env m fr (keys σ++fr) s.heap->
  wpAny (model c.prog c.w) A (eval iter env) (fun x s1=>wpAny (model c.prog c.w) A (pyIter x) (ItP c A fr env m σ tg Q s) (Ex c A none fr σ s false X) s1) (Ex c A none fr σ s false X) s
theorem Post.fin {F fr wr:List Addr}{σ σ':Sto}{s s':Shared}{h':Heap}{tk:Nat}(p:Post F fr σ s s' σ')(hn:∀a∈wr,s.heap.get? a=none)(hw:∀a∈fr,a∉wr)(k:∀b o,b∉wr->s'.heap.get? b=some o->h'.get? b=some o):Post F fr σ s {s' with heap:=h',toks:=tk} σ' where
 shape:=by obtain ⟨h,t,rfl⟩:=p.shape;exact ⟨h',tk,rfl⟩
 kept:=fun b o n e=>k b o (fun z=>by replace e:=(hn b z ..).symm.trans e;contradiction) (p.kept b o n e)
 slots:=fun b o m n e=>by obtain ⟨sl,e1,r⟩:=p.slots b o m n e;exact ⟨sl,k _ _ (hw b m) e1,r⟩
 alive:=fun b o e=>by obtain ⟨o1,e1⟩:=p.alive b o e;exact ⟨o1,k _ _ (fun z=>by replace e:=(hn b z ..).symm.trans e;contradiction) e1⟩
 grow:=p.grow
theorem Ok.fin {c:Cx}{A:Around}{fr wr:List Addr}{σ:Sto}{h h':Heap}(ok:Ok c A (wr++fr) σ h)(hin:∀l,A.frames=some l->∀b∈l.filterMap (·.frame),b∈fr)(k:∀b o,b∉wr->h.get? b=some o->h'.get? b=some o):Ok c A fr σ h':=by
 have ok1:Ok c A fr σ h:=Ok.less (ex:=[]) ok hin
 have nd:=ok.nd
 rw [List.nodup_append,List.nodup_append] at nd
 have nf:=fun a ha hw=>nd.2.1.2.2 a hw a ha rfl
 have nk:=fun a ha hw=>nd.2.2 a ha a (List.mem_append_left _ hw) rfl
 exact {
  base:=fun b o e=>k b o (fun m=>by replace e:=(ok.new b (List.mem_append_right _ (List.mem_append_left _ m)) ..).symm.trans e;contradiction) (ok.base b o e)
  sto:=fun p hp=>IsO.move (K:=keys σ++(wr++fr)) (fun b o n e=>k b o (fun m=>n (List.mem_append_right _ (List.mem_append_left _ m))) e) (jB _ _) (fun x e=>k _ _ (nk _ (List.mem_map_of_mem hp)) e) (ok.sto p hp)
  nd:=ok1.nd
  new:=ok1.new
  live:=fun a m=>by obtain ⟨o,e⟩:=ok1.live a m;exact ⟨o,k _ _ (nf a m) e⟩
  stack:=by
   obtain ⟨l,a,b,d,f⟩:=ok1.stack
   refine ⟨l,a,FunFrames.turn (fr:=fr) (fun x o hx g q=>⟨o,k _ _ (nf x hx) g,q⟩) b d,d,fun x hx=> ?_⟩
   obtain ⟨o,es,n,g,r⟩:=f x hx;exact ⟨o,es,n,k _ _ (nf x (d x hx)) g,r⟩}
theorem Ok.frames_in {c:Cx}{A:Around}{fr:List Addr}{σ:Sto}{h:Heap}(ok:Ok c A fr σ h):∀l,A.frames=some l->∀b∈l.filterMap (·.frame),b∈fr:=fun l hl b hb=>by
 obtain ⟨l',h1,_,h3,_⟩:=ok.stack
 replace h1:=(hl ..).symm.trans h1;obtain rfl:=Option.some.inj h1;exact h3 b hb
section
variable {c:Cx} {A:Around} {fr:List Addr} {σ:Sto} {X:Addr->Sto->Prop} {env:Env} {m:Vars} {N:Vars->Sto->Prop} {R:D->Sto->Prop}
theorem Ex.loop {wr:List Addr}{σ1 σ2:Sto}{s s1 s2 s3:Shared}{v:Value}(hst:∃l,A.frames=some (env::l))(hf:env.frame=some env.locals)(hin:∀l,A.frames=some l->∀b∈l.filterMap (·.frame),b∈fr)(hi:env.locals∈fr/\∀p∈env.cells,p.2∈fr)
  (p:Post [] fr σ s s1 σ1) (hn:∀a∈wr,s.heap.get? a=none) (q:Post (wr++Fa env) (wr++fr) σ1 s1 s2 σ2) (x:Ex c A (some env) (wr++fr) σ2 s2 false X v s3):
  notedBy (model c.prog c.w) A env (fun e s'=>cameBackBy (model c.prog c.w) A env (Ex c A (some env) fr σ s false X) e s') v s3:=by
 refine Exists.elim (hst) fun l hl=> ?_
 refine wpAny_mono (Ex.noted (E:=fun _ _=>False) x hl hf) (fun _ s4 x4=> ?_) fun _ _ f=>f.elim
 obtain ⟨e,C,σ',ex,rfl,q',ok,n,⟨oe,vs,g,gc,gd,gs,r⟩,f,hx⟩:=id x4
 rcases r with ⟨r,_⟩| ⟨T,oT,ts,rfl,hT,gT,dT,sT⟩
 ·contradiction
 refine wpAny_bind (wpAny_field g gd hT ?_)
 refine wpAny_mono (Ex.flight (E:=fun _ _=>False) x4) (fun _ s5 x5=> ?_) fun _ _ f=>f.elim
 obtain ⟨e',C',σ5,ex5,ev,q5,ok5,n5,r5,f5,hx5⟩:=x5
 refine Ex.weak (Ex.drop hin p hn hi ⟨e',C',σ5,ex5,ev,q.trans (q5.wide ?_),ok5,fun a ha=>jF q (n5 a ha),r5,f5,hx5⟩)
 intro a ha;exact List.mem_append_right _ ha
inductive Loop (c:Cx)(A:Around)(env:Env)(m:Vars)(body:List Stmt)(N:Vars->Sto->Prop)(R:D->Sto->Prop)(X:Addr->Sto->Prop)(vals:List Vars)(Inv:Sto->Prop)(σ1:Sto):Prop
 | mk (hk:∀x∈vals,∀y∈x,env.kindOf y.1=some .local\/env.kindOf y.1=some .cell) (L:Nat->Vars->Sto->Prop) (h0:L 0 m σ1) (hinv:∀k m' σ',L k m' σ'->Inv σ')
   (step:∀k x m' σ',vals[k]? =some x->L k m' σ'->∀fr',WS c A fr' env (x++m') σ' body (fun m'' σ''=>L (k+1) m'' σ'') R X) (fin:∀m' σ',L vals.length m' σ'->N m' σ'):Loop c A env m body N R X vals Inv σ1
inductive ForI (c:Cx)(A:Around)(env:Env)(frw F:List Addr)(σ1:Sto)(s2:Shared)(n:Nat)(L:Nat->Vars->Sto->Prop)(St:Nat->List Addr->Heap->Prop)(k:Nat)(s':Shared):Prop
 | mk (i:Nat) (m':Vars) (σ':Sto) (e:k=n+1-i) (hi:i<=n) (hL:L i m' σ') (pp:Post F frw σ1 s2 s' σ') (ok:Ok c A frw σ' s'.heap) (fm:Fm env m' frw (keys σ'++frw) s'.heap) (st:St i (keys σ'++frw) s'.heap):ForI c A env frw F σ1 s2 n L St k s'
theorem W1.for_ {tg iter:Expr}{body:List Stmt}{pos:Pos}(hst:∃l,A.frames=some (env::l))(hf:env.frame=some env.locals)
  (h:WIt c A fr env m σ iter tg (Loop c A env m body N R X) X) (hs:∀x,foldedSetIterable iter env x=pure x:=by intro _;rfl):W1 c A fr env m σ (.For tg iter body [] pos) N R X:=fun s ok fm=>by
 have hin:=ok.frames_in
 refine wpAny_For (wpAny_mono (h s ok fm) (fun x s1 h1=>wpAny_mono h1 (fun it s2 h2=> ?_) fun _ _ x=>x.wide fm) fun _ _ x=>x.wide fm) hs
 obtain ⟨I,wr,vals,Inv,St,Mid,σ1,rfl,p,ok1,okw,hn,fmw,src,st0,inv0,hkinds,L,L0,LI,Lturn,Lend⟩:=h2
 have ndw:=okw.nd
 rw [List.nodup_append,List.nodup_append] at ndw
 have nf:=fun a ha hw=>ndw.2.1.2.2 a hw a ha rfl
 have hloc:env.locals∉wr/\∀q∈env.cells,q.2∉wr:=⟨nf _ fm.inn.1,fun q hq=>nf _ (fm.inn.2 q hq)⟩
 refine yH (ForI c A env (wr++fr) (wr++Fa env) σ1 s2 vals.length L St)
  ?_ (vals.length+1) ⟨0,m,σ1,rfl,Nat.zero_le _,L0,Post.refl ..,okw,fmw,st0⟩
 rintro k s' ⟨i,m',σ',rfl,hi,hL,pp,okk,fmk,stk⟩
 by_cases hlt:i<vals.length
 ·obtain ⟨x,hx⟩:∃x,vals[i]? =some x:=⟨vals[i],by simp⟩
  refine src.next i σ' fr s' _ _ hlt okk stk (LI _ _ _ hL) fun v h' tk hmid how=> ?_
  have fm':=fmk.ow (fun b hb=>List.mem_append_right _ (List.mem_append_left _ hb)) hloc how
  refine src.put i σ' fr (Fa env) env m' v _ _ _ x hx hmid (okk.ow (src.nodict _ _ _ stk) how) fm' fm.inn (hkinds x (List.mem_of_getElem? hx)) ⟨List.mem_cons_self,fun y _ _ cc hcc=>List.mem_cons_of_mem _ (List.mem_map_of_mem (f:=(·.2)) (mem_of_lookup hcc))⟩ (src.midnd _ _ _ _ hmid) fun h2 tk2 st2 fm2 ok2 p2=> ?_
  have pp2:=(pp.trans (Post.ow (F:=Fa env) (fr:=fr) (σ:=σ') (tk:=tk) how)).trans p2
  refine wpAny_mono (Lturn i x m' σ' hx hL (wr++fr) _ ok2 fm2) (fun fl s3 hx3=> ?_) fun v s3 hx3=> ?_
  ·obtain ⟨out,σ3,p3,ok3,r3,q3⟩:=hx3
   have pp3:=pp2.trans (p3.wide (F':=wr++Fa env) fun a ha=>List.mem_append_right _ ha)
   cases out with
   | next m3=>
    obtain ⟨rfl,fm3⟩:=r3
    refine ⟨vals.length+1-(i+1),z598 hi,i+1,m3,σ3,rfl,hlt,q3,pp3,ok3,fm3,?_⟩
    refine src.move _ _ _ _ _ st2 p3.stay (fun b hb o e=> ?_) p3.less
    obtain ⟨sl,e1,r1⟩:=p3.slots b o (List.mem_append_left _ hb) (fun z=>by
     rcases List.mem_cons.mp z with rfl| z
     ·exact hloc.1 hb
     ·obtain ⟨q,hq,rfl⟩:=List.mem_map.mp z;exact hloc.2 q hq hb) e
    have:=r1 (src.nodict _ _ _ st2 b hb o e)
    subst this;exact e1
   | ret d=>
    obtain ⟨v,rfl,hv,fv⟩:=r3
    exact ⟨.ret d,σ3,Post.drop p hn pp3,Ok.less (ex:=[]) ok3 hin,⟨v,rfl,V.move (fun _ _ _ e=>e) (jB _ _) _ _ hv,fv.shift fm.inn (jB _ _)⟩,q3⟩
  ·exact Ex.loop hst hf hin fm.inn p hn pp2 hx3
 ·obtain rfl:i=vals.length:=z599 hi hlt
  refine src.done σ' fr s' _ _ okk stk (LI _ _ _ hL) fun h' tk hk=> ?_
  refine wpAny_execs_nil ?_
  refine ⟨.next m',σ',Post.fin (Post.drop p hn pp) hn nf hk,(okk.fin hin hk),⟨rfl,?_⟩,Lend _ _ hL⟩
  have f1:=fmk.shift (fr':=fr) (K':=keys σ'++fr) fm.inn (jB _ _)
  have st:Stay (keys σ'++(wr++fr)) s'.heap h':=fun b o n e=>hk b o (fun z=>n (List.mem_append_right _ (List.mem_append_left _ z))) e
  exact {
   kind:=f1.kind
   glob:=f1.glob
   bui:=f1.bui
   ns:=by
    obtain ⟨mv,⟨o,es,ep,g,r⟩,q⟩:=fmk.ns
    exact ⟨mv,⟨o,es,ep,hk _ _ hloc.1 g,r⟩,fun x d e k=>by obtain ⟨v,a,b⟩:=q x d e k;exact ⟨v,a,V.move st (jB _ _) _ _ b⟩⟩
   cell:=fun x cc e=>by
    obtain ⟨ov,⟨o,g,r⟩,q⟩:=fmk.cell x cc e
    exact ⟨ov,⟨o,hk _ _ (hloc.2 _ (mem_of_lookup e)) g,r⟩,fun d e k=>by obtain ⟨v,a,b⟩:=q d e k;exact ⟨v,a,V.move st (jB _ _) _ _ b⟩⟩
   has:=f1.has
   inn:=f1.inn
   apart:=f1.apart}
end
noncomputable def UP (scope sc:Scope):Scope:=
 {scope with names:=scope.names.map fun (n,k)=>if (k==.free&&sc.kind==.function&&sc.names.lookup n==some .cell) then (n,.cell) else (n,k)}
noncomputable def capt (scope:Scope)(m:Vars):Vars:=m.filter fun p=>scope.names.lookup p.1==some .free
noncomputable def J4 (env:Env):List (Str × NameKind)->List (Str × Addr)->List (Str × Addr)
 | [],acc=>acc
 | (n,k)::r,acc=>J4 env r (if k==.free then (match env.cells.lookup n with| some a=>(n,a)::acc| none=>acc) else acc)
theorem YR {scope:Scope}{env:Env}(h:∀x∈scope.names,x.2=.free->∃a,env.cells.lookup x.1=some a):closureFor scope env=pure (J4 env scope.names []):=by
 have:∀(names:List (Str × NameKind)) (acc:List (Str × Addr)),(∀x∈names,x.2=.free->∃a,env.cells.lookup x.1=some a)->
   (forIn names acc fun x (r:List (Str × Addr))=>(if (x.2==NameKind.free)=true then do let a<-cellOf env x.1;pure (ForInStep.yield ((x.1,a)::r)) else pure (ForInStep.yield r):Sem (ForInStep (List (Str × Addr)))))=pure (J4 env names acc):=by
  intro names
  induction names with
  | nil=>intro acc _;rfl
  | cons x r ih=>
   intro acc hx
   rw [List.forIn_cons]
   obtain ⟨n,k⟩:=x
   unfold J4
   by_cases hk:(k==NameKind.free)=true
   ·refine Exists.elim (hx (n,k) List.mem_cons_self (by simpa using hk)) fun a ha=> ?_
    have hc:cellOf env n=pure a:=by unfold cellOf;rw [ha]
    simp only [hk,hc,ha]
    exact ih _ fun y hy=>hx y (List.mem_cons_of_mem _ hy)
   ·simp only [hk,if_false]
    exact ih _ fun y hy=>hx y (List.mem_cons_of_mem _ hy)
 exact congrArg (fun t=>t>>=fun cs=>pure cs) (this scope.names [] h)
theorem JZ {env:Env}{x:Str}:∀(names:List (Str × NameKind)) (acc:List (Str × Addr)) {a:Addr},(J4 env names acc).lookup x=some a->acc.lookup x=some a\/env.cells.lookup x=some a
 | [],acc,a,h=>.inl h
 | (n,k)::r,acc,a,h=>by
  rcases JZ r _ h with h| h
  ·split at h
   ·split at h
    ·rename_i b hb
     dsimp only [List.lookup_cons] at h
     by_cases q:(x==n)=true
     ·simp only [q] at h;obtain rfl:=Option.some.inj h;exact (beq_iff_eq.mp q)▸.inr hb
     ·simp only [q] at h;exact .inl h
    ·exact .inl h
   ·exact .inl h
  ·exact .inr h
theorem YC {env:Env}{x:Str}(hx:∃a,env.cells.lookup x=some a):∀(names:List (Str × NameKind)) (acc:List (Str × Addr)),((x,NameKind.free)∈names\/∃a,acc.lookup x=some a)->∃a,(J4 env names acc).lookup x=some a
 | [],acc,h=>h.elim (fun h=>nomatch h) id
 | (n,k)::r,acc,h=>by
  refine YC hx r _ ?_
  rcases h with h| ⟨a,h⟩
  ·rcases List.mem_cons.mp h with e| h
   ·cases e
    obtain ⟨a,ha⟩:=hx
    refine .inr ⟨a,?_⟩
    simp [ha]
   ·exact .inl h
  ·refine .inr ?_
   split
   ·split
    ·dsimp only [List.lookup_cons]
     by_cases q:(x==n)=true
     ·exact ⟨_,by rw [q]⟩
     ·exact ⟨a,by simp only [q];exact h⟩
    ·exact ⟨a,h⟩
   ·exact ⟨a,h⟩
theorem yq {env:Env}:∀(names:List (Str × NameKind)) (acc:List (Str × Addr)) {p:Str × Addr},p∈J4 env names acc->p∈acc\/env.cells.lookup p.1=some p.2
 | [],acc,p,h=>.inl h
 | (n,k)::r,acc,p,h=>by
  rcases yq r _ h with h| h
  ·split at h
   ·split at h
    ·rename_i b hb
     rcases List.mem_cons.mp h with rfl| h
     ·exact .inr hb
     ·exact .inl h
    ·exact .inl h
   ·exact .inl h
  ·exact .inr h
theorem Jo {env:Env}(hap:env.cells.Pairwise fun x y=>x.2≠y.2):∀(names:List (Str × NameKind)) (acc:List (Str × Addr)),(names.map (·.1)).Nodup->(∀p∈acc,p.1∉names.map (·.1))->(∀p∈acc,env.cells.lookup p.1=some p.2)->
  (acc.Pairwise fun x y=>x.2≠y.2)->(J4 env names acc).Pairwise fun x y=>x.2≠y.2
 | [],acc,_,_,_,h=>h
 | (n,k)::r,acc,nd,hd,hl,h=>by
  rw [List.map_cons,List.nodup_cons] at nd
  unfold J4
  have hd':=fun p hp z=>hd p hp (List.mem_cons_of_mem _ z)
  split
  ·split
   ·rename_i b hb
    refine Jo hap r _ nd.2 (fun p hp=> ?_) (fun p hp=> ?_) (List.pairwise_cons.mpr ⟨fun y hy z=> ?_,h⟩)
    ·rcases List.mem_cons.mp hp with rfl| hp
     ·exact nd.1
     ·exact hd' p hp
    ·rcases List.mem_cons.mp hp with rfl| hp
     ·exact hb
     ·exact hl p hp
    ·exact hd y hy (by exact (name_of_addr hap (mem_of_lookup hb) (z▸mem_of_lookup (hl y hy)))▸List.mem_cons_self)
   ·exact Jo hap r _ nd.2 hd' hl h
  ·exact Jo hap r _ nd.2 hd' hl h
noncomputable def jw (n:Nat):List (Str × NameKind)->List Addr
 | []=>[]
 | (_,k)::r=>if k==.cell then n::jw (n+1) r else jw n r
theorem Jp {a:Addr}:∀{names:List (Str × NameKind)} {n:Nat},a∈jw n names->n<=a
 | (_,k)::r,n,h=>by
  unfold jw at h
  split at h
  ·rcases List.mem_cons.mp h with rfl| h
   ·exact Nat.le_refl _
   ·exact Nat.le_of_succ_le (Jp h)
  ·exact Jp h
theorem Jg:∀(names:List (Str × NameKind)) (n:Nat),(jw n names).Nodup
 | [],n=>List.nodup_nil
 | (_,k)::r,n=>by
  unfold jw
  split
  ·exact List.nodup_cons.mpr ⟨fun z=>Nat.lt_irrefl _ (Jp z),Jg r _⟩
  ·exact Jg r _
theorem YS {a:Addr}{names:List (Str × NameKind)}:∀{h:Heap},a∈jw h.objs.size names->(pushCells h names).IsCell a none:=by
 induction names with
 | nil=>intro h e;contradiction
 | cons x r ih=>
  intro h e
  obtain ⟨n,k⟩:=x
  unfold jw at e
  unfold pushCells
  by_cases hk:(k==NameKind.cell)=true
  ·rw [if_pos hk] at e⊢
   rcases List.mem_cons.mp e with rfl| e
   ·exact ⟨{cls:=.type "cell",data:=.cell none},pushCells_keeps _ _ _ _ (Heap.get?_push_size _ rfl),rfl⟩
   ·exact ih (by rw [Heap.size_push];exact e)
  ·rw [if_neg hk] at e⊢
   exact ih e
theorem jI {p:Str × Addr}:∀{names:List (Str × NameKind)} {n:Nat} {acc:List (Str × Addr)},p∈cellsFrom n names acc->(p.2∈jw n names/\(p.1,NameKind.cell)∈names)\/p∈acc
 | [],n,acc,h=>.inr h
 | (x,k)::r,n,acc,h=>by
  unfold cellsFrom at h
  unfold jw
  split at h
  ·rename_i hk
   rw [if_pos hk]
   rcases jI h with ⟨h1,h2⟩| h
   ·exact .inl ⟨List.mem_cons_of_mem _ h1,List.mem_cons_of_mem _ h2⟩
   ·rcases List.mem_cons.mp h with rfl| h
    ·exact .inl ⟨List.mem_cons_self,by exact (beq_iff_eq.mp hk)▸List.mem_cons_self⟩
    ·exact .inr h
  ·rename_i hk
   rw [if_neg hk]
   exact (jI h).imp (fun z=>⟨z.1,List.mem_cons_of_mem _ z.2⟩) id
theorem jY {x:Str}:∀{names:List (Str × NameKind)} {n:Nat} {acc:List (Str × Addr)},((x,NameKind.cell)∈names\/∃a,acc.lookup x=some a)->∃a,(cellsFrom n names acc).lookup x=some a
 | [],n,acc,h=>h.elim (fun h=>nomatch h) id
 | (y,k)::r,n,acc,h=>by
  unfold cellsFrom
  split
  ·rename_i hk
   refine jY ?_
   rcases h with h| ⟨a,h⟩
   ·rcases List.mem_cons.mp h with e| h
    ·injection e with e;subst e
     exact .inr ⟨n,by simp⟩
    ·exact .inl h
   ·exact .inr ((fun {a}=>by
   dsimp only [List.lookup_cons]
   by_cases q:(x==y)=true
   ·exact .inl ⟨by simp only [q],beq_iff_eq.mp q⟩
   ·exact .inr (by simp only [q]):∀{a},(List.lookup x ((y,a)::acc)=some a/\x=y)\/List.lookup x ((y,a)::acc)=acc.lookup x).elim (fun z=>⟨_,z.1⟩) fun z=>⟨a,z.trans h⟩)
  ·rename_i hk
   refine jY (h.imp (fun h=> ?_) id)
   rcases List.mem_cons.mp h with e| h
   ·cases e;exact absurd rfl hk
   ·exact h
theorem jQ {x:Str}:∀{names:List (Str × NameKind)} {n:Nat} {acc:List (Str × Addr)} {a:Addr},(cellsFrom n names acc).lookup x=some a->(a∈jw n names/\(x,NameKind.cell)∈names)\/((x,NameKind.cell)∉names/\acc.lookup x=some a)
 | [],n,acc,a,h=>.inr ⟨fun z=>(nomatch z),h⟩
 | (y,k)::r,n,acc,a,h=>by
  unfold cellsFrom at h
  unfold jw
  split at h
  ·rename_i hk
   rw [if_pos hk]
   rcases jQ h with ⟨h1,h2⟩| ⟨h1,h⟩
   ·exact .inl ⟨List.mem_cons_of_mem _ h1,List.mem_cons_of_mem _ h2⟩
   ·dsimp only [List.lookup_cons] at h
    by_cases q:(x==y)=true
    ·simp only [q] at h;obtain rfl:=Option.some.inj h
     exact .inl ⟨List.mem_cons_self,by rw [beq_iff_eq.mp hk,beq_iff_eq.mp q];exact List.mem_cons_self⟩
    ·simp only [q] at h
     refine .inr ⟨fun z=> ?_,h⟩
     rcases List.mem_cons.mp z with e| z
     ·injection e with e;subst e;exact q (beq_self_eq_true _)
     ·exact h1 z
  ·rename_i hk
   rw [if_neg hk]
   rcases jQ h with ⟨h1,h2⟩| ⟨h1,h⟩
   ·exact .inl ⟨h1,List.mem_cons_of_mem _ h2⟩
   ·refine .inr ⟨fun z=> ?_,h⟩
    rcases List.mem_cons.mp z with e| z
    ·cases e;exact absurd rfl hk
    ·exact h1 z
theorem Jh:∀{names:List (Str × NameKind)} {n:Nat} {acc:List (Str × Addr)},(acc.Pairwise fun x y=>x.2≠y.2)->(∀p∈acc,p.2<n)->(cellsFrom n names acc).Pairwise fun x y=>x.2≠y.2
 | [],n,acc,h,_=>h
 | (y,k)::r,n,acc,h,hl=>by
  unfold cellsFrom
  split
  ·refine Jh (List.pairwise_cons.mpr ⟨fun p hp z=>Nat.ne_of_lt (hl p hp) z.symm,h⟩) fun p hp=> ?_
   rcases List.mem_cons.mp hp with rfl| hp
   ·exact Nat.lt_succ_self _
   ·exact Nat.lt_succ_of_lt (hl p hp)
  ·exact Jh h hl
theorem yc {x:Str}{k:NameKind}:∀{l:List (Str × NameKind)},l.lookup x=some k->(x,k)∈l
 | (y,q)::r,h=>by
  dsimp only [List.lookup_cons] at h
  by_cases q:(x==y)=true
  ·simp only [q] at h;obtain rfl:=Option.some.inj h;exact (beq_iff_eq.mp q)▸List.mem_cons_self
  ·simp only [q] at h;exact List.mem_cons_of_mem _ (yc h)
theorem yr:∀{l:List (Str × NameKind)},(l.map (·.1)).Nodup->∀x∈l,l.lookup x.1=some x.2
 | y::r,nd,x,hx=>by
  rw [List.map_cons,List.nodup_cons] at nd
  rcases List.mem_cons.mp hx with rfl| hx2
  ·obtain ⟨a,b⟩:=x;simp
  ·obtain ⟨ya,yb⟩:=y
   dsimp only [List.lookup_cons]
   have:(x.1==ya)=false:=by
    rw [beq_eq_false_iff_ne]
    intro z;exact nd.1 (List.mem_map.mpr ⟨x,hx2,z⟩)
   exact this▸yr nd.2 x hx2
theorem J5 {env:Env}:∀{names:List (Str × NameKind)} {x:Str},names.lookup x=some .cell->
  (names.map fun (n,k)=>if (k==NameKind.free&&env.scope.kind==.function&&env.kindOf n==some .cell) then (n,NameKind.cell) else (n,k)).lookup x=some .cell
 | (n,k)::r,x,h=>by
  have ih:= @J5 env r x
  show List.lookup x ((if (k==NameKind.free&&env.scope.kind==.function&&env.kindOf n==some .cell)=true then (n,NameKind.cell) else (n,k))::_)=_
  cases hx:x==n with
  | true=>
   simp only [List.lookup_cons,hx] at h
   obtain rfl:=Option.some.inj h
   simp [List.lookup_cons,hx]
  | false=>
   simp only [List.lookup_cons,hx] at h
   by_cases hc:(k==NameKind.free&&env.scope.kind==.function&&env.kindOf n==some .cell)=true
   ·rw [if_pos hc];simp only [List.lookup_cons,hx];exact ih h
   ·rw [if_neg hc];simp only [List.lookup_cons,hx];exact ih h
theorem Fm.comp {env:Env}{m:Vars}{fr K:List Addr}{h:Heap}{scope:Scope}{C n:Addr}(f:Fm env m fr K h)(hk:scope.kind=.function)(hC:C∈fr)(hns:h.Ns C fun _=>none)(hnd:(scope.names.map (·.1)).Nodup)(hcin:∀a∈jw n scope.names,a∈fr/\a≠C/\h.IsCell a none)(hlt:∀p∈env.cells,p.2<n)
  (hfree:∀y∈scope.names,y.2=.free->∃a,env.cells.lookup y.1=some a) (hCc:∀p∈env.cells,p.2≠C) (hkind:∀x,scope.names.lookup x=some .free->env.kindOf x=some .cell\/env.kindOf x=some .free):Fm (compEnvC scope (cellsFrom n scope.names (J4 env scope.names [])) C env) (capt scope m) fr K h:=by
 have look:∀x k,(relabel scope env).names.lookup x=some k->scope.names.lookup x=some k\/(k=.cell/\scope.names.lookup x=some .free):=by
  intro x k
  unfold relabel
  generalize scope.names=names
  induction names with
  | nil=>intro h;contradiction
  | cons y r ih=>
   obtain ⟨n,kk⟩:=y
   intro h
   simp only [List.map_cons] at h
   by_cases hc:(kk==NameKind.free&&env.scope.kind==.function&&env.kindOf n==some .cell)=true
   ·rw [if_pos hc] at h
    dsimp only [List.lookup_cons] at h
    by_cases q:(x==n)=true
    ·simp only [q] at h;obtain rfl:=Option.some.inj h
     refine .inr ⟨rfl,?_⟩
     simp only [List.lookup_cons,q]
     simp only [Bool.and_eq_true,beq_iff_eq] at hc
     exact congrArg _ (hc.1.1 ..)
    ·simp only [q] at h
     rcases ih h with z| z
     ·exact .inl (by dsimp only [List.lookup_cons];simp only [q];exact z)
     ·exact .inr ⟨z.1,by dsimp only [List.lookup_cons];simp only [q];exact z.2⟩
   ·rw [if_neg hc] at h
    replace h:=(List.lookup_cons ..).symm.trans h
    by_cases q:(x==n)=true
    ·simp only [q] at h;obtain rfl:=Option.some.inj h;exact .inl (by simp only [List.lookup_cons,q])
    ·simp only [q] at h
     rcases ih h with z| z
     ·exact .inl (by dsimp only [List.lookup_cons];simp only [q];exact z)
     ·exact .inr ⟨z.1,by dsimp only [List.lookup_cons];simp only [q];exact z.2⟩
 have capt_look:∀(l:Vars) x d,(capt scope l).lookup x=some d->l.lookup x=some d/\scope.names.lookup x=some .free:=by
  intro l
  induction l with
  | nil=>intro x d h;contradiction
  | cons p r ih=>
   intro x d h
   obtain ⟨y,dy⟩:=p
   unfold capt at h
   rw [List.filter_cons] at h
   by_cases hf:(scope.names.lookup y==some NameKind.free)=true
   ·rw [if_pos hf,jb] at h
    by_cases q:x=y
    ·subst q;replace h:=(if_pos rfl ..).symm.trans h;obtain rfl:=Option.some.inj h
     exact ⟨by exact (jb ..).trans (if_pos rfl ..),by simpa using hf⟩
    ·rw [if_neg q] at h
     have:=ih x d h
     exact ⟨by rw [jb,if_neg q];exact this.1,this.2⟩
   ·rw [if_neg hf] at h
    have:=ih x d h
    have q:x≠y:=fun z=>hf (by rw [<-z,this.2];rfl)
    exact ⟨by rw [jb,if_neg q];exact this.1,this.2⟩
 have clmem:∀p∈J4 env scope.names [],env.cells.lookup p.1=some p.2:=fun p hp=>(yq _ _ hp).resolve_left (by simp)
 exact {
  kind:=hk
  glob:=f.glob
  bui:=f.bui
  ns:=⟨_,hns,fun x d e k=>by
   have h1:=(capt_look m x d e).2
   rcases look x .local k with z| z
   ·replace z:=(h1 ..).symm.trans z;cases z
   ·cases z.1⟩
  cell:=fun x cc e=>by
   rcases jQ e with ⟨hn,hx⟩| ⟨_,e⟩
   ·refine ⟨none,(hcin _ hn).2.2,fun d ed k=> ?_⟩
    have:=(capt_look m x d ed).2.symm.trans (yr hnd _ hx);cases this
   have e':env.cells.lookup x=some cc:=(JZ _ _ e).resolve_left (by simp)
   obtain ⟨ov,hc,r⟩:=f.cell x cc e'
   refine ⟨ov,hc,fun d ed k=> ?_⟩
   obtain ⟨h1,h2⟩:=capt_look m x d ed
   exact r d h1 (hkind x h2)
  has:=fun x k=>by
   have hf:scope.names.lookup x=some .free->∃c,(cellsFrom n scope.names (J4 env scope.names [])).lookup x=some c:=fun h2=>
    have hm:=yc h2
    jY (.inr (YC (hfree _ hm rfl) _ _ (.inl hm)))
   rcases k with k| k
   ·rcases look x .cell k with z| z
    ·exact jY (.inl (yc z))
    ·exact hf z.2
   ·rcases look x .free k with z| z
    ·exact hf z
    ·exact hf z.2
  inn:=⟨hC,fun p hp=>by
   rcases jI hp with z| hp
   ·exact (hcin _ z.1).1
   ·exact f.inn.2 p (mem_of_lookup (clmem p hp))⟩
  apart:=⟨Jh (Jo f.apart.1 _ _ hnd (by simp) (by simp) List.Pairwise.nil) fun p hp=>hlt p (mem_of_lookup (clmem p hp)),fun p hp=>by
   rcases jI hp with z| hp
   ·exact (hcin _ z.1).2.1
   ·exact hCc p (mem_of_lookup (clmem p hp))⟩}
noncomputable abbrev NoX:Addr->Sto->Prop:=fun _ _=>False
theorem Ex.no {c:Cx}{A:Around}{G:Option Env}{fr:List Addr}{σ:Sto}{s s':Shared}{t:Bool}{v:Value}(x:Ex c A G fr σ s t NoX v s'):False:=by
 obtain ⟨e,C,σ2,ex,_,_,_,_,_,_,hx⟩:=x;exact hx
section
variable {c:Cx} {A:Around} {fr:List Addr} {σ:Sto} {X:Addr->Sto->Prop} {env:Env} {m:Vars}
noncomputable def WIfs (c:Cx)(A:Around)(fr:List Addr)(env:Env)(m:Vars)(σ:Sto)(ifs:List Expr)(Q:Bool->Sto->Prop)(X:Addr->Sto->Prop):Prop:=
 ∀s,Ok c A fr σ s.heap->Fm env m fr (keys σ++fr) s.heap->W c A none fr σ (forIn ifs true fun c r=>if r=true then do let ok<-isTrue c env (eval c env);pure (ForInStep.yield ok) else pure (ForInStep.yield r)) RB Q X s
theorem WIfs.nil {Q:Bool->Sto->Prop}(h:Q true σ):WIfs c A fr env m σ [] Q X:=fun s ok fm=>wpAny_tests_nil ⟨true,σ,Post.refl ..,ok,rfl,h⟩
theorem WIfs.one {e:Expr}{Q:Bool->Sto->Prop}(h:WT c A fr env m σ e Q X):WIfs c A fr env m σ [e] Q X:=fun s ok fm=>wpAny_tests_one (h s ok fm)
theorem Fm.sub {env:Env}{m m':Vars}{fr K:List Addr}{h:Heap}(f:Fm env m fr K h)(hs:∀x d,m'.lookup x=some d->m.lookup x=some d):Fm env m' fr K h where
 kind:=f.kind
 glob:=f.glob
 bui:=f.bui
 ns:=by obtain ⟨mv,hn,r⟩:=f.ns;exact ⟨mv,hn,fun x d e k=>r x d (hs x d e) k⟩
 cell:=fun x cc e=>by obtain ⟨ov,hc,r⟩:=f.cell x cc e;exact ⟨ov,hc,fun d e k=>r d (hs x d e) k⟩
 has:=f.has
 inn:=f.inn
 apart:=f.apart
theorem Ja {x:Str}:∀{a b:Vars},(∀p∈a,p.1≠x)->(a++b).lookup x=b.lookup x
 | [],_,_=>rfl
 | (y,d)::r,b,h=>by
  rw [List.cons_append,jb,if_neg (fun z=>h _ List.mem_cons_self z.symm)]
  exact Ja fun p hp=>h p (List.mem_cons_of_mem _ hp)
theorem yZ {scope:Scope}{x:Str}{d:D}:∀{m:Vars},(capt scope m).lookup x=some d->scope.names.lookup x=some .free
 | [],h=>by contradiction
 | (y,dy)::r,h=>by
  unfold capt at h
  rw [List.filter_cons] at h
  by_cases hf:(scope.names.lookup y==some NameKind.free)=true
  ·rw [if_pos hf,jb] at h
   by_cases q:x=y
   ·subst q;simpa using hf
   ·rw [if_neg q] at h;exact yZ (m:=r) h
  ·rw [if_neg hf] at h;exact yZ (m:=r) h
structure FinC (c:Cx)(A:Around)(fr:List Addr)(σ:Sto)(s s':Shared)(σ':Sto)(ds:List D)(a C:Addr):Prop where
 post:Post [] fr σ s s' σ'
 ok:Ok c A ([C,a]++fr) σ' s'.heap
 list:∃vs n,s'.heap.get? a=some (jk vs n)/\Vs (keys σ'++([C,a]++fr)) s'.heap ds vs
 newa:s.heap.get? a=none
 newC:s.heap.get? C=none
 ns:∃m',s'.heap.Ns C m'
 frames:∀l,A.frames=some l->∀b∈l.filterMap (·.frame),b∈fr
noncomputable def lk:Option NameKind->Bool
 | some .local=>true
 | some .cell=>true
 | _=>false
theorem lk_or {o:Option NameKind}(h:lk o=true):o=some .local\/o=some .cell:=by
 cases o with
 | none=>contradiction
 | some k=>cases k<;>first| exact .inl rfl| exact .inr rfl| contradiction
theorem Wy {M:Model}{E:Value->Shared->Prop}{s:Shared}{scope:Scope}{globals:Addr}{cl:List (Str × Addr)}{qual:Str}{Q:Env->Shared->Prop}
  (h:Q (newEnv scope s.heap.objs.size globals (cellsFrom (s.heap.objs.size+1) scope.names cl) qual none .none (some env) builtinsNs) {s with heap:=pushCells (s.heap.push {cls:=.type "dict",data:=.dict #[]}) scope.names}):
  wpAny M A (newFunctionEnv scope globals cl [] qual none .none (some env)) Q E s:=by
 simp only [newFunctionEnv,Option.isSome_some,if_true]
 refine wpAny_bind (wpAny_alloc (wpAny_bind (wpAny_layCells _ (fun name kind cells=>by cases hkc:kind==NameKind.cell<;>rfl) _ _ _ _ ?_)))
 refine wpAny_bind ?_
 refine wpAny_pure (wpAny_pure ?_)
 rw [show ({s with heap:=s.heap.push {cls:=.type "dict",data:=.dict #[]}}:Shared).heap.objs.size=s.heap.objs.size+1 from Heap.size_push ..]
 exact h
theorem Ok.swap {xs ys:List Addr}{h:Heap}(o:Ok c A (xs++(ys++fr)) σ h):Ok c A (ys++(xs++fr)) σ h:=by
 have hf:∀a,a∈xs++(ys++fr)↔a∈ys++(xs++fr):=fun a=>by simp only [List.mem_append];exact or_left_comm
 have hm:∀a,a∈keys σ++(xs++(ys++fr))↔a∈keys σ++(ys++(xs++fr)):=fun a=>List.mem_append.trans ((or_congr_right (hf a)).trans List.mem_append.symm)
 exact {
  base:=o.base
  sto:=fun p hp=>IsO.move (K:=keys σ++(xs++(ys++fr))) (fun _ _ _ e=>e) (fun a ha=>.inl ((hm a).mpr ha)) (fun _ e=>e) (o.sto p hp)
  nd:=by
   refine (List.Perm.nodup_iff ?_).mp o.nd
   refine List.Perm.append_left _ ?_
   rw [<-List.append_assoc,<-List.append_assoc]
   exact List.Perm.append_right _ List.perm_append_comm
  new:=fun a ha=>o.new a ((hm a).mpr ha)
  live:=fun a ha=>o.live a ((hf a).mpr ha)
  stack:=by
   obtain ⟨l,a1,a2,a3,a4⟩:=o.stack
   exact ⟨l,a1,a2,fun b hb=>(hf b).mp (a3 b hb),a4⟩}
theorem Fm.carry {K K':List Addr}{h h':Heap}(f:Fm env m fr K h)(keep:∀b∈Fa env,∀o,h.get? b=some o->h'.get? b=some o)(st:Stay K h h')(le:Less K K' h):Fm env m fr K' h' where
 kind:=f.kind
 glob:=f.glob
 bui:=f.bui
 ns:=by
  obtain ⟨mv,⟨o,es,ep,g,r⟩,q⟩:=f.ns
  exact ⟨mv,⟨o,es,ep,keep _ List.mem_cons_self _ g,r⟩,fun x d e k=>by obtain ⟨v,a,b⟩:=q x d e k;exact ⟨v,a,V.move st le _ _ b⟩⟩
 cell:=fun x cc e=>by
  obtain ⟨ov,⟨o,g,r⟩,q⟩:=f.cell x cc e
  exact ⟨ov,⟨o,keep _ (List.mem_cons_of_mem _ (List.mem_map_of_mem (f:=(·.2)) (mem_of_lookup e))) _ g,r⟩,fun d e k=>by obtain ⟨v,a,b⟩:=q d e k;exact ⟨v,a,V.move st le _ _ b⟩⟩
 has:=f.has
 inn:=f.inn
 apart:=f.apart
theorem Post.same {F:List Addr}{s s':Shared}{σ':Sto}(p:Post F fr σ s s' σ'){b:Addr}{o:Obj}(hb:b∈fr)(hF:b∉F)(hn:∀es n,o.data≠.dict es n)(g:s.heap.get? b=some o):s'.heap.get? b=some o:=by
 obtain ⟨sl,e1,r1⟩:=p.slots b _ hb hF g
 have:=r1 hn
 subst this;exact e1
set_option maxHeartbeats 1000000 in
inductive Turns (c:Cx)(A:Around)(env:Env)(m:Vars)(scope:Scope)(ifs:List Expr)(elt:Expr)(Z:List D->Sto->Prop)(vals:List Vars)(Inv:Sto->Prop)(σ1:Sto):Prop
 | mk (hk:∀x∈vals,∀y∈x,lk (scope.names.lookup y.1)=true) (L:Nat->List D->Sto->Prop) (h0:L 0 [] σ1) (hinv:∀k ds σ',L k ds σ'->Inv σ'/\ds.length<=sizeLine)
   (step:∀k x ds σ',vals[k]? =some x->L k ds σ'->∀fr' cenv,cenv.scope=UP scope env.scope->WIfs c A fr' cenv (x++capt scope m) σ' ifs (fun b σ2=>if b=true then WE c A fr' cenv (x++capt scope m) σ2 elt (fun d σ3=>L (k+1) (ds++[d]) σ3) NoX else L (k+1) ds σ2) NoX)
   (fin:∀ds σ',L vals.length ds σ'->Z ds σ'):Turns c A env m scope ifs elt Z vals Inv σ1
inductive CompI (c:Cx)(A:Around)(frw F:List Addr)(σ1:Sto)(s3:Shared)(cenv:Env)(m0:Vars)(n:Nat)(L:Nat->List D->Sto->Prop)(St:Nat->List Addr->Heap->Prop)(a:Addr)(k:Nat)(s':Shared):Prop
 | mk (i:Nat) (ds:List D) (σ':Sto) (vs:List Value) (j:Nat) (e:k=n+1-i) (hi:i<=n) (hL:L i ds σ') (pp:Post F frw σ1 s3 s' σ') (ok:Ok c A frw σ' s'.heap) (fm:Fm cenv m0 frw (keys σ'++frw) s'.heap) (st:St i (keys σ'++frw) s'.heap) (g:s'.heap.get? a=some (jk vs j)) (v:Vs (keys σ'++frw) s'.heap ds vs):CompI c A frw F σ1 s3 cenv m0 n L St a k s'
theorem uC {tg iter elt:Expr}{ifs:List Expr}{scope:Scope}{pos p:Pos}{use:Option (Value->Sem Unit)}{Q:Value->Shared->Prop}{E:Value->Shared->Prop}{s:Shared}(ok:Ok c A fr σ s.heap)(fm:Fm env m fr (keys σ++fr) s.heap)
  (hkS:scope.kind=.function) (hnd:(scope.names.map (·.1)).Nodup) (hfree:∀y∈scope.names,y.2=.free->env.kindOf y.1=some .cell\/env.kindOf y.1=some .free)
  (hE:∀v s',Ex c A none fr σ s false X v s'->E v s')
  {Z:List D->Sto->Prop}
  (h:WIt c A fr env m σ iter tg (Turns c A env m scope ifs elt Z) X)
  (hend:∀s' σ' ds a C,FinC c A fr σ s s' σ' ds a C->Z ds σ'->compPost (model c.prog c.w) A E use Q (.ref a) C (.ok .next) s')
  (hs:∀x,foldedSetIterable iter env x=pure x:=by intro _;rfl):
  wpAny (model c.prog c.w) A (comprehension (.ListComp elt [⟨tg,iter,ifs,0⟩] scope pos) scope env p (newList []) false (eval iter env) use) Q E s:=by
 have hin:=ok.frames_in
 have hfree':=fun y hy hf=>fm.has y.1 (hfree y hy hf)
 refine wpAny_comprehension_free (use:=use) rfl hs (YR hfree') hkS (fun x hx hl=>hl▸yr hnd x hx) (wpAny_mono (h s ok fm) (fun xv s1 h1=>wpAny_mono h1 (fun it s2 h2=> ?_) fun _ _ x=>hE _ _ x) fun _ _ x=>hE _ _ x)
 obtain ⟨I,wr,vals,Inv,St,Mid,σ1,rfl,p1,ok1,okw,hn,fmw,src,st0,inv0,hkinds,L,L0,LI,Lturn,Lend⟩:=h2
 refine wpAny_newObj_type (Wy ?_)
 generalize hD:s2.heap.objs.size=D
 generalize hH2:s2.heap.push {cls:=.type "list",dict:=none,data:=.seq ([]:List Value).toArray}=H2
 have hCs:H2.objs.size=D+1:=by rw [<-hH2,Heap.size_push,hD]
 have hns3:(pushCells (H2.push {cls:=.type "dict",data:=.dict #[]}) scope.names).Ns H2.objs.size fun _=>none:=(Heap.Ns.new H2 (.type "dict")).keeps (pushCells_keeps _ _)
 have cellN:∀a∈jw (H2.objs.size+1) scope.names,(pushCells (H2.push {cls:=.type "dict",data:=.dict #[]}) scope.names).IsCell a none:=fun a ha=>YS (by rw [Heap.size_push];exact ha)
 have keep23:∀b o,s2.heap.get? b=some o->(pushCells (H2.push {cls:=.type "dict",data:=.dict #[]}) scope.names).get? b=some o:=fun b o e=>pushCells_keeps _ _ _ _ (Heap.get?_push_of_some _ (hH2▸Heap.get?_push_of_some _ e))
 have accD:(pushCells (H2.push {cls:=.type "dict",data:=.dict #[]}) scope.names).get? D=some (jk [] 0):=pushCells_keeps _ _ _ _ (Heap.get?_push_of_some _ (by rw [<-hH2,<-hD];exact Heap.get?_push_size _ rfl))
 generalize pushCells (H2.push {cls:=.type "dict",data:=.dict #[]}) scope.names=h3 at hns3 cellN keep23 accD⊢
 generalize hC:H2.objs.size=C at hns3 hCs cellN⊢
 have hCD:C≠D:=by rw [hCs];exact Nat.succ_ne_self D
 have geN:∀a∈jw (C+1) scope.names,C<a:=fun a ha=>Jp ha
 have ndN:=Jg scope.names (C+1)
 generalize hCN:jw (C+1) scope.names=CN at cellN geN ndN
 have hDC:D<C:=hCs▸Nat.lt_succ_self D
 obtain ⟨W,hW⟩:∃W,W=C::D::CN:=⟨_,rfl⟩
 have WC:C∈W:=hW▸List.mem_cons_self
 have WD:D∈W:=hW▸List.mem_cons_of_mem _ List.mem_cons_self
 have WN:∀a∈CN,a∈W:=fun a ha=>hW▸List.mem_cons_of_mem _ (List.mem_cons_of_mem _ ha)
 have noneW:∀a∈W,s2.heap.get? a=none:=fun a ha=>jg (by
  rw [hD]
  rw [hW] at ha
  rcases List.mem_cons.mp ha with rfl| ha
  ·exact Nat.le_of_lt hDC
  ·rcases List.mem_cons.mp ha with rfl| ha
   ·exact Nat.le_refl _
   ·exact Nat.le_of_lt (Nat.lt_trans hDC (geN a ha)))
 have liveW:∀a∈W,∃o,h3.get? a=some o:=fun a ha=>by
  rw [hW] at ha
  rcases List.mem_cons.mp ha with rfl| ha
  ·obtain ⟨o,es,ep,g,_⟩:=id hns3;exact ⟨o,g⟩
  ·rcases List.mem_cons.mp ha with rfl| ha
   ·exact ⟨_,accD⟩
   ·obtain ⟨o,g,_⟩:=cellN a ha;exact ⟨o,g⟩
 have ndW:W.Nodup:=by
  rw [hW]
  refine List.nodup_cons.mpr ⟨fun z=> ?_,List.nodup_cons.mpr ⟨fun z=>Nat.lt_irrefl _ (Nat.lt_trans hDC (geN D z)),ndN⟩⟩
  rcases List.mem_cons.mp z with z| z
  ·exact hCD z
  ·exact Nat.lt_irrefl _ (geN C z)
 have okL:=(okw.more keep23 noneW liveW ndW).swap
 have lessCD:Less (keys σ1++(wr++fr)) (keys σ1++(wr++(W++fr))) s2.heap:=fun a ha=>by
  rcases List.mem_append.mp ha with z| z
  ·exact .inl (List.mem_append_left _ z)
  ·rcases List.mem_append.mp z with z| z
   ·exact .inl (List.mem_append_right _ (List.mem_append_left _ z))
   ·rcases List.mem_append.mp z with z| z
    ·exact .inr (noneW a z)
    ·exact .inl (List.mem_append_right _ (List.mem_append_right _ z))
 have stay23:Stay (keys σ1++(wr++fr)) s2.heap h3:=fun b o _ e=>keep23 b o e
 have fm3:Fm env m (wr++(W++fr)) (keys σ1++(wr++(W++fr))) h3:=by
  have fb:=fmw.carry (fun b _ o e=>keep23 b o e) stay23 lessCD
  exact fb.shift ⟨List.mem_append_right _ (List.mem_append_right _ fm.inn.1),fun q hq=>List.mem_append_right _ (List.mem_append_right _ (fm.inn.2 q hq))⟩ (fun a ha=>.inl ha)
 have oldlt:∀q∈env.cells,q.2<D:=fun q hq=>by
  obtain ⟨o,e⟩:=ok1.live q.2 (fm.inn.2 q hq)
  exact hD▸Heap.lt_size e
 have fmC:=fm3.comp (C:=C) (n:=C+1) hkS (List.mem_append_right _ (List.mem_append_left _ WC)) hns3 hnd (fun a ha=>by
  rw [hCN] at ha
  exact ⟨List.mem_append_right _ (List.mem_append_left _ (WN a ha)),Nat.ne_of_gt (geN a ha),cellN a ha⟩) (fun p hp=>Nat.lt_succ_of_lt (Nat.lt_trans (oldlt p hp) hDC)) hfree' (fun q hq=>Nat.ne_of_lt (Nat.lt_trans (oldlt q hq) hDC)) (fun x hx=>by
  exact hfree _ (yc hx) rfl)
 have st3:St 0 (keys σ1++(wr++(W++fr))) h3:=src.move _ _ _ _ _ st0 stay23 (fun b _ o e=>keep23 b o e) lessCD
 have hnS:∀a∈wr++W,s.heap.get? a=none:=fun a ha=>by
  rcases List.mem_append.mp ha with z| z
  ·exact hn a z
  ·exact jF p1 (noneW a z)
 generalize hce:compEnvC scope (cellsFrom (C+1) scope.names (J4 env scope.names [])) C env=cenv at fmC
 have ce1:cenv.scope=UP scope env.scope:=by rw [<-hce];rfl
 have ce2:cenv.locals=C:=by rw [<-hce];rfl
 have ceq:({newEnv scope C env.globals (cellsFrom (C+1) scope.names (J4 env scope.names [])) env.qual none Value.none (some env) builtinsNs with scope:=relabel scope env}:Env)=cenv:=by rw [<-hce];rfl
 have kindL:∀x,lk (scope.names.lookup x)=true->cenv.kindOf x=some .local\/cenv.kindOf x=some .cell:=fun x hx=>by
  rw [<-hce]
  exact (lk_or hx).imp lookup_relabel_local J5
 have cellL:∀q∈cenv.cells,q.2∈CN\/env.cells.lookup q.1=some q.2:=fun q hq=>by
  rw [<-hce] at hq
  rcases jI hq with z| z
  ·exact .inl (hCN▸z.1)
  ·exact .inr ((yq _ _ z).resolve_left (by simp))
 have putL:∀x,lk (scope.names.lookup x)=true->cenv.kindOf x=some .cell->∀cc,cenv.cells.lookup x=some cc->cc∈CN:=fun x hx hc cc e=>by
  rw [<-hce] at hc e
  rcases lk_or hx with z| z
  ·have:=(lookup_relabel_local (env:=env) z).symm.trans hc;cases this
  ·rcases jQ e with z'| z'
   ·exact hCN▸z'.1
   ·exact absurd (yc z) z'.1
 have loop:∀s3:Shared,s3={s2 with heap:=h3,toks:=s2.toks}->
   codeAny (model c.prog c.w) A (.compLoop (.ListComp elt [⟨tg,iter,ifs,0⟩] scope pos) 0 (.ref I) (.ref D) cenv) (compPost (model c.prog c.w) A E use Q (.ref D) C) s3:=by
  rintro s3 rfl
  generalize hs3:({s2 with heap:=h3,toks:=s2.toks}:Shared)=s3
  have h3e:s3.heap=h3:=by rw [<-hs3]
  have p13:Post [] fr σ s s3 σ1:=p1.trans (by rw [<-hs3];exact Post.keeps keep23)
  have ndw:=okL.nd
  rw [List.nodup_append,List.nodup_append] at ndw
  have nfw:∀a∈W++fr,a∉wr:=fun a ha hw=>ndw.2.1.2.2 a hw a ha rfl
  have cin:cenv.locals∈W++fr/\∀q∈cenv.cells,q.2∈W++fr:=by
   refine ⟨by rw [ce2];exact List.mem_append_left _ WC,fun q hq=> ?_⟩
   rcases cellL q hq with z| z
   ·exact List.mem_append_left _ (WN _ z)
   ·exact List.mem_append_right _ (fm.inn.2 q (mem_of_lookup z))
  have cloc:cenv.locals∉wr/\∀q∈cenv.cells,q.2∉wr:=⟨nfw _ cin.1,fun q hq=>nfw _ (cin.2 q hq)⟩
  have hDfa:D∉Fa cenv:=fun z=>by
   rcases List.mem_cons.mp z with z| z
   ·exact hCD (z▸ce2).symm
   ·obtain ⟨q,hq,e⟩:=List.mem_map.mp z
    rcases cellL q hq with z| z
    ·exact Nat.lt_irrefl _ (Nat.lt_trans hDC (e▸geN _ z))
    ·exact Nat.ne_of_lt (oldlt _ (mem_of_lookup z)) e
  have hDwr:D∉wr:=nfw D (List.mem_append_left _ WD)
  have hcapt:∀(x:Vars),(∀y∈x,lk (scope.names.lookup y.1)=true)->∀z d,(capt scope m).lookup z=some d->(x++capt scope m).lookup z=some d:=fun x hx z d e=>by
   have hf:=yZ e
   rw [Ja (fun p hp q=>by have:=hx p hp;rw [q,hf] at this;cases this)];exact e
  refine yp (CompI c A (wr++(W++fr)) (wr++W) σ1 s3 cenv (capt scope m) vals.length L St D)
   ?_ (vals.length+1) ⟨0,[],σ1,[],0,rfl,Nat.zero_le _,L0,Post.refl ..,h3e▸okL,h3e▸fmC,h3e▸st3,h3e▸accD,Vs.nil⟩
  rintro k s' ⟨i,ds,σ',vs,n,rfl,hi,hL,pp,okk,fmk,stk,gD,vD⟩
  by_cases hlt:i<vals.length
  ·obtain ⟨x,hx⟩:∃x,vals[i]? =some x:=⟨vals[i],by simp [hlt]⟩
   have hxl:=hkinds x (List.mem_of_getElem? hx)
   refine src.next i σ' (W++fr) s' _ _ hlt okk stk (LI _ _ _ hL).1 fun v h' tk hmid how=> ?_
   have ok':Ok c A (wr++(W++fr)) σ' h':=okk.ow (src.nodict _ _ _ stk) how
   have fm':Fm cenv (capt scope m) (wr++(W++fr)) (keys σ'++(wr++(W++fr))) h':=fmk.ow (fun b hb=>List.mem_append_right _ (List.mem_append_left _ hb)) cloc how
   have wide:∀a∈wr++(C::CN),a∈wr++W:=fun a ha=>by
    rcases List.mem_append.mp ha with z| z
    ·exact List.mem_append_left _ z
    ·refine List.mem_append_right _ ?_
     rcases List.mem_cons.mp z with rfl| z
     ·exact WC
     ·exact WN a z
   have pp':=pp.trans ((Post.ow (F:=C::CN) (fr:=W++fr) (σ:=σ') (tk:=tk) how).wide wide)
   have gD':h'.get? D=some (jk vs n):=how.kept _ _ hDwr gD
   have stK:Stay (keys σ'++(wr++(W++fr))) s'.heap h':=fun b o nb e=>how.kept b o (fun z=>nb (List.mem_append_right _ (List.mem_append_left _ z))) e
   have vD':Vs (keys σ'++(wr++(W++fr))) h' ds vs:=Vs.move stK (fun a ha=>.inl ha) _ _ vD
   refine src.put i σ' (W++fr) (C::CN) cenv (capt scope m) v {s' with heap:=h',toks:=tk} _ _ x hx hmid ok' fm' cin (fun y hy=>kindL _ (hxl y hy)) ⟨by rw [ce2];simp,fun y hy k cc e=>List.mem_cons_of_mem _ (putL _ (hxl y hy) k cc e)⟩ (src.midnd _ _ _ _ hmid) fun h4 tk4 st4 fm4 ok4 p4=> ?_
   have pp4:=pp'.trans (p4.wide wide)
   have gD4:h4.get? D=some (jk vs n):=p4.same (List.mem_append_right _ (List.mem_append_left _ WD)) (fun z=>(List.mem_append.mp z).elim hDwr fun z=>(List.mem_cons.mp z).elim (fun z=>hCD z.symm) fun z=>Nat.lt_irrefl _ (Nat.lt_trans hDC (geN _ z))) (fun es nn q=>by cases q) gD'
   have vD4:=p4.vs vD'
   have fm4':=fm4.sub (m':=x++capt scope m) fun z d e=>e
   refine wpAny_mono (Lturn i x ds σ' hx hL _ cenv ce1 _ ok4 fm4') (fun b s5 hx5=> ?_) fun _ _ y=>y.no
   obtain ⟨b',σ5,p5,ok5,rfl,q5⟩:=hx5
   have fm5:Fm cenv (x++capt scope m) (wr++(W++fr)) (keys σ5++(wr++(W++fr))) s5.heap:=Fm.move (s:={s' with heap:=h4,toks:=tk4}) fm4' p5
   have pp5:=pp4.trans (p5.wide (F':=wr++W) (by simp))
   have hDin:D∈wr++(W++fr):=List.mem_append_right _ (List.mem_append_left _ WD)
   have gD5:s5.heap.get? D=some (jk vs n):=p5.same hDin (List.not_mem_nil) (fun es nn q=>by cases q) gD4
   have vD5:=p5.vs vD4
   have st5:St (i+1) (keys σ5++(wr++(W++fr))) s5.heap:=src.move _ _ _ _ _ st4 p5.stay (fun b hb o g=>p5.same (List.mem_append_left _ hb) List.not_mem_nil (src.nodict _ _ _ st4 b hb o g) g) p5.less
   cases b with
   | false=>
    simp only [Bool.false_eq_true,if_false] at q5⊢
    exact ⟨vals.length+1-(i+1),z598 hi,i+1,ds,σ5,vs,n,rfl,hlt,q5,pp5,ok5,fm5.sub (hcapt x hxl),st5,gD5,vD5⟩
   | true=>
    simp only [if_true] at q5⊢
    refine wpAny_mono (q5 s5 ok5 fm5) (fun y s6 hx6=> ?_) fun _ _ y=>y.no
    obtain ⟨d,σ6,p6,ok6,v6,q6⟩:=hx6
    have fm6:=fm5.move p6
    have pp6:=pp5.trans (p6.wide (F':=wr++W) (by simp))
    have gD6:s6.heap.get? D=some (jk vs n):=p6.same hDin List.not_mem_nil (fun es nn q=>by cases q) gD5
    have vD6:=p6.vs vD5
    have st6:St (i+1) (keys σ6++(wr++(W++fr))) s6.heap:=src.move _ _ _ _ _ st5 p6.stay (fun b hb o g=>p6.same (List.mem_append_left _ hb) List.not_mem_nil (src.nodict _ _ _ st5 b hb o g) g) p6.less
    have hlen:vs.length<=sizeLine:=by rw [vD.length];exact (LI _ _ _ hL).2
    refine wpAny_list_append_plain (hsz:=by simpa using hlen) ⟨n,gD6⟩ fun h7 pl7 sb7=> ?_
    obtain ⟨n7,g7⟩:=pl7
    have g7':h7.get? D=some (jk (vs++[y]) n7):=by simpa [jk] using g7
    have ok7:Ok c A (wr++(W++fr)) σ6 h7:=ok6.turn hDin sb7 g7' (by intro vs q;cases q) (fun ⟨o,es,nn,g,r⟩=>by rw [gD6] at g;cases g;cases r)
    have st67:Stay (keys σ6++(wr++(W++fr))) s6.heap h7:=fun b o nb e=>(sb7.2 b fun (z:b=D)=>nb (by rw [z];exact List.mem_append_right _ hDin)).trans e
    have pp7:Post (wr++W) (wr++(W++fr)) σ6 s6 {s6 with heap:=h7} σ6:={
     shape:=⟨h7,s6.toks,rfl⟩
     kept:=fun b o nb e=>st67 b o nb e
     slots:=fun b o hb nf e=>⟨o.slots,(sb7.2 b fun z=>nf (z▸List.mem_append_right _ WD)).trans e,fun _=>rfl⟩
     alive:=fun b o e=>by
      by_cases z:b=D
      ·subst z;exact ⟨_,g7'⟩
      ·exact ⟨o,(sb7.2 b z).trans e⟩
     grow:=fun _ h=>.inl h}
    have fm7:Fm cenv (x++capt scope m) (wr++(W++fr)) (keys σ6++(wr++(W++fr))) h7:=fm6.carry (fun b hb o e=>(sb7.2 b fun z=>hDfa (z▸hb)).trans e) st67 fun a ha=>.inl ha
    refine ⟨vals.length+1-(i+1),z598 hi,i+1,ds++[d],σ6,vs++[y],n7,rfl,hlt,q6,pp6.trans pp7,ok7,fm7.sub (hcapt x hxl),?_,g7',?_⟩
    ·exact src.move _ _ _ _ _ st6 st67 (fun b hb o e=>(sb7.2 b fun z=>hDwr (z▸hb)).trans e) (fun a ha=>.inl ha)
    ·exact (Vs.move st67 (fun a ha=>.inl ha) _ _ vD6).snoc (V.move st67 (fun a ha=>.inl ha) _ _ v6)
  ·obtain rfl:i=vals.length:=z599 hi hlt
   refine src.done σ' (W++fr) s' _ _ okk stk (LI _ _ _ hL).1 fun h' tk hk=> ?_
   have hin':∀l,A.frames=some l->∀b∈l.filterMap (·.frame),b∈W++fr:=fun l hl b hb=>List.mem_append_right _ (hin l hl b hb)
   have okf:Ok c A (W++fr) σ' h':=okk.fin hin' hk
   have stf:Stay (keys σ'++(wr++(W++fr))) s'.heap h':=fun b o nb e=>hk b o (fun z=>nb (List.mem_append_right _ (List.mem_append_left _ z))) e
   have okf':Ok c A ([C,D]++(CN++fr)) σ' h':=by rw [hW] at okf;exact okf
   refine hend _ σ' ds D C {post:= ?_,ok:=Ok.less (ex:=[C,D]) okf' hin,list:=⟨vs,n,hk _ _ hDwr gD,Vs.move stf (fun b hb=>.inl ?_) _ _ vD⟩,newa:=hnS D (List.mem_append_right _ WD),newC:=hnS C (List.mem_append_right _ WC),ns:= ?_,frames:=hin} (Lend _ _ hL)
   rotate_left
   ·rcases List.mem_append.mp hb with z| z
    ·exact List.mem_append_left _ z
    ·refine List.mem_append_right _ (List.mem_append_right _ ?_)
     rcases List.mem_append.mp z with z| z
     ·rcases List.mem_cons.mp z with rfl| z
      ·exact List.mem_append_left _ WC
      ·rw [List.mem_singleton.mp z];exact List.mem_append_left _ WD
     ·exact List.mem_append_right _ z
   rotate_left
   ·have pd:Post [] fr σ s s' σ':=by
     refine Post.drop (wr:=wr++W) p13 hnS ?_
     rw [show (wr++W)++fr=wr++(W++fr) from List.append_assoc ..]
     exact ⟨pp.shape,pp.kept,fun b o hb nf e=>pp.slots b o hb (fun q=>nf (by simpa using q)) e,pp.alive,pp.grow⟩
    exact pd.fin (wr:=wr) hn (fun a ha=>nfw a (List.mem_append_right _ ha)) hk
   ·obtain ⟨mv,⟨o,es,ep,g,r⟩,_⟩:=fmk.ns
    rw [ce2] at g
    exact ⟨mv,o,es,ep,hk _ _ (ce2▸cloc.1) g,r⟩
 show codeAny (model c.prog c.w) A (.compStart (.ListComp elt [⟨tg,iter,ifs,0⟩] scope pos) 0 (.ref I) (.ref D) {newEnv scope C env.globals (cellsFrom (C+1) scope.names (J4 env scope.names [])) env.qual none Value.none (some env) builtinsNs with scope:=relabel scope env}) _ _
 exact ceq▸codeAny_compStart_list (loop _ rfl) (src.self 0 _ _ _ _ st3 (loop _ rfl))
end
theorem Fm.fin {env:Env}{m:Vars}{fr wr:List Addr}{σ:Sto}{h h':Heap}(f:Fm env m (wr++fr) (keys σ++(wr++fr)) h)(hi:env.locals∈fr/\∀p∈env.cells,p.2∈fr)(hn:env.locals∉wr/\∀p∈env.cells,p.2∉wr)(k:∀b o,b∉wr->h.get? b=some o->h'.get? b=some o):Fm env m fr (keys σ++fr) h':=by
 have st:Stay (keys σ++(wr++fr)) h h':=fun b o n e=>k b o (fun z=>n (List.mem_append_right _ (List.mem_append_left _ z))) e
 exact {
  kind:=f.kind
  glob:=f.glob
  bui:=f.bui
  ns:=by
   obtain ⟨mv,⟨o,es,ep,g,r⟩,q⟩:=f.ns
   exact ⟨mv,⟨o,es,ep,k _ _ hn.1 g,r⟩,fun x d e k=>by obtain ⟨v,a,b⟩:=q x d e k;exact ⟨v,a,V.move st (jB _ _) _ _ b⟩⟩
  cell:=fun x cc e=>by
   obtain ⟨ov,⟨o,g,r⟩,q⟩:=f.cell x cc e
   exact ⟨ov,⟨o,k _ _ (hn.2 _ (mem_of_lookup e)) g,r⟩,fun d e k=>by obtain ⟨v,a,b⟩:=q d e k;exact ⟨v,a,V.move st (jB _ _) _ _ b⟩⟩
  has:=f.has
  inn:=hi
  apart:=f.apart}
theorem Ok.ref {c:Cx}{A:Around}{fr:List Addr}{σ:Sto}{h:Heap}{a:Addr}{ds:List D}{vs:List Value}{n:Nat}(ok:Ok c A ([a]++fr) σ h)(hin:∀l,A.frames=some l->∀b∈l.filterMap (·.frame),b∈fr)(g:h.get? a=some (jk vs n))(hv:Vs (keys σ++([a]++fr)) h ds vs):Ok c A fr ((a,.lst ds)::σ) h:=by
 have mem:∀b,b∈keys ((a,O.lst ds)::σ)++fr↔b∈keys σ++([a]++fr):=fun b=>by
  simp only [keys,List.map_cons,List.cons_append,List.mem_cons,List.mem_append,List.nil_append]
  constructor<;>(intro z;rcases z with z| z| z<;>simp [z])
 have nd:=ok.nd
 have ok1:Ok c A fr σ h:=Ok.less (ex:=[]) (wr:=[a]) ok hin
 exact {
  base:=ok.base
  sto:=fun p hp=>by
   rcases List.mem_cons.mp hp with rfl| hp
   ·exact ⟨vs,n,g,Vs.move (fun _ _ _ e=>e) (fun b hb=>.inl ((mem b).mp hb)) _ _ hv⟩
   ·exact IsO.move (fun _ _ _ e=>e) (fun b hb=>.inl ((mem b).mp hb)) (fun _ e=>e) (ok.sto p hp)
  nd:=by
   refine (List.Perm.nodup_iff ?_).mp nd
   show (keys σ++([a]++fr)).Perm (a::(keys σ++fr))
   simp
  new:=fun b hb=>ok.new b ((mem b).mp hb)
  live:=ok1.live
  stack:=ok1.stack}
section
variable {c:Cx} {A:Around} {fr:List Addr} {σ:Sto} {X:Addr->Sto->Prop} {env:Env} {m:Vars}
noncomputable def QL (Q:D->Sto->Prop)(ds:List D)(σ:Sto):Prop:=Q (.lst ds) σ\/∀a,a∉keys σ->Q (.ref a) ((a,.lst ds)::σ)
theorem QL.use {G:Option Env}{Q:D->Sto->Prop}{ds:List D}{σ':Sto}{s s':Shared}{a:Addr}{vs:List Value}{n:Nat}(q:QL Q ds σ')(p:Post (Fo G) fr σ s s' σ')(ok:Ok c A ([a]++fr) σ' s'.heap)(hin:∀l,A.frames=some l->∀b∈l.filterMap (·.frame),b∈fr)
  (g:s'.heap.get? a=some (jk vs n)) (hv:Vs (keys σ'++([a]++fr)) s'.heap ds vs) (hn:s.heap.get? a=none):Po c A G fr σ s V Q (.ref a) s':=by
 have nd:=ok.nd
 rw [List.nodup_append,List.nodup_append] at nd
 have hk:=fun z=>nd.2.2 a z a (by exact .head _) rfl
 rcases q with q| q
 ·refine ⟨.lst ds,σ',p,Ok.less (ex:=[]) (wr:=[a]) ok hin,?_,q⟩
  exact ⟨a,vs,n,rfl,fun z=>(List.mem_append.mp z).elim hk (fun z=>nd.2.1.2.2 a (by exact .head _) a z rfl),g,Vs.move (fun _ _ _ e=>e) (jB _ _) _ _ hv⟩
 ·refine ⟨.ref a,(a,.lst ds)::σ',⟨p.shape,p.kept,p.slots,p.alive,fun b hb=> ?_⟩,Ok.ref ok hin g hv,by rfl,q a hk⟩
  rcases List.mem_cons.mp hb with rfl| hb
  ·exact .inr hn
  ·exact p.grow b hb
noncomputable def yd (scope sc:Scope):Bool:=scope.names.all fun y=>y.2 !=.free|| (sc.names.lookup y.1==some .cell|| sc.names.lookup y.1==some .free)
noncomputable def Y0 (scope:Scope):Bool:=scope.kind==.function&&decide (scope.names.map (·.1)).Nodup
theorem Y1 {scope:Scope}(h:Y0 scope=true):scope.kind=.function/\(scope.names.map (·.1)).Nodup:=by
 unfold Y0 at h
 simp only [Bool.and_eq_true,beq_iff_eq,decide_eq_true_eq] at h
 exact h
theorem YD {scope:Scope}{env:Env}(h:yd scope env.scope=true):∀y∈scope.names,y.2=.free->env.kindOf y.1=some .cell\/env.kindOf y.1=some .free:=fun y hy hf=>by
 unfold yd at h
 simp only [List.all_eq_true] at h
 have:=h y hy
 simp only [hf,bne_self_eq_false,Bool.false_or,Bool.or_eq_true,beq_iff_eq] at this
 exact this
theorem WE.comp {tg iter elt:Expr}{ifs:List Expr}{scope:Scope}{pos:Pos}{Q:D->Sto->Prop}(h:WIt c A fr env m σ iter tg (Turns c A env m scope ifs elt (QL Q)) X)(h1:Y0 scope=true)(h2:yd scope env.scope=true)(hs:∀x,foldedSetIterable iter env x=pure x:=by intro _;rfl):
  WE c A fr env m σ (.ListComp elt [⟨tg,iter,ifs,0⟩] scope pos) Q X:=fun s ok fm=>by
 obtain ⟨k1,k2⟩:=Y1 h1
 refine uC (use:=none) ok fm k1 k2 (YD h2) (fun _ _ x=>x) h (fun s' σ' ds a C fin q=> ?_) hs
 obtain ⟨mv,hns⟩:=fin.ns
 refine ⟨mv,hns,fun h' sb=> ?_⟩
 have nd:=fin.ok.nd
 rw [List.nodup_append,List.nodup_append] at nd
 have hCa:C≠a:=by have:=nd.2.1.1;simp at this;exact this
 have hCf:∀b∈[a]++fr,b∉[C]:=fun b hb z=>by
  simp only [List.mem_singleton.mp z] at hb
  rcases List.mem_append.mp hb with z| z
  ·exact hCa (List.mem_singleton.mp z)
  ·exact nd.2.1.2.2 C (by exact .head _) C z rfl
 have kk:∀b o,b∉[C]->s'.heap.get? b=some o->h'.get? b=some o:=fun b o nb e=>(sb.2 b (fun z=>nb (by simp [z]))).trans e
 obtain ⟨vs,n,g,hv⟩:=fin.list
 have pf:Post [] fr σ s {s' with heap:=h',toks:=s'.toks} σ':=fin.post.fin (wr:=[C]) (fun b hb=>by exact (List.mem_singleton.mp hb)▸fin.newC) (fun b hb=>hCf b (List.mem_append_right _ hb)) kk
 exact QL.use (G:=none) (s':={s' with heap:=h',toks:=s'.toks}) q pf (Ok.fin (wr:=[C]) (fr:=[a]++fr) fin.ok (fun l hl b hb=>List.mem_append_right _ (fin.frames l hl b hb)) kk) fin.frames (kk _ _ (fun z=>hCa (List.mem_singleton.mp z).symm) g) (Vs.move (K:=keys σ'++([C,a]++fr)) (fun b o nb e=>kk b o (fun z=>nb (by simp only [List.mem_singleton.mp z];simp)) e) (jB (wr:=[C]) (fr:=[a]++fr) _ _) _ _ hv) fin.newa
set_option maxHeartbeats 1000000 in
theorem W1.assignComp {x:Str}{pos' pos:Pos}{tg iter elt:Expr}{ifs:List Expr}{scope:Scope}{cpos:Pos}{N:Vars->Sto->Prop}{R:D->Sto->Prop}(h:WIt c A fr env m σ iter tg (Turns c A env m scope ifs elt (QL fun d σ'=>N ((x,d)::m) σ')) X)(h1:Y0 scope=true)(h2:yd scope env.scope=true)
  (hk:env.kindOf x=some .local) (hsw:swapsWith (.ListComp elt [⟨tg,iter,ifs,0⟩] scope cpos) (some (.Name x pos')) pos.line env=pure true) (hs:∀x,foldedSetIterable iter env x=pure x:=by intro _;rfl):
  W1 c A fr env m σ (.Assign [.Name x pos'] (.ListComp elt [⟨tg,iter,ifs,0⟩] scope cpos) pos) N R X:=fun s ok fm=>by
 obtain ⟨k1,k2⟩:=Y1 h1
 unfold W
 rw [exec_Assign_Name_used (hs:=hsw)]
 refine wpAny_bind (wpAny_standAt (wpAny_bind ?_))
 show wpAny _ A (do let _<-comprehension (.ListComp elt [⟨tg,iter,ifs,0⟩] scope cpos) scope env _ (newList []) false (eval iter env) (some (PySem.assign (.Name x pos') env))) _ _ s
 refine wpAny_bind (wpAny_mono (uC (use:=some (PySem.assign (.Name x pos') env)) (E:=Ex c A (some env) fr σ s false X) (Q:=fun _ s'=>Po c A (some env) fr σ s (RO env fr) (QO N R) .next s') ok fm k1 k2 (YD h2) (fun _ _ x=>x.wide fm) h (fun s' σ' ds a C fin q=> ?_) hs) (fun _ s' hq=>wpAny_pure (wpAny_pure hq)) fun _ _ e=>e)
 have nd:=fin.ok.nd
 rw [List.nodup_append,List.nodup_append] at nd
 have hCa:C≠a:=by have:=nd.2.1.1;simp at this;exact this
 have hCf:C∉fr:=fun z=>nd.2.1.2.2 C (by simp) C z rfl
 have haf:a∉fr:=fun z=>nd.2.1.2.2 a (by simp) a z rfl
 have hak:a∉keys σ':=fun z=>nd.2.2 a z a (by simp) rfl
 have hCk:C∉keys σ':=fun z=>nd.2.2 C z C (by simp) rfl
 obtain ⟨vs,n,g,hv⟩:=fin.list
 have perm:Ok c A ([a]++([C]++fr)) σ' s'.heap:=by
  have o:=fin.ok
  have hm:∀b,b∈keys σ'++([C,a]++fr)↔b∈keys σ'++([a]++([C]++fr)):=fun b=>by
   simp only [List.mem_append,List.mem_cons,List.not_mem_nil,or_false]
   constructor
   ·rintro (z| (z| z)| z)
    ·exact .inl z
    ·exact .inr (.inr (.inl z))
    ·exact .inr (.inl z)
    ·exact .inr (.inr (.inr z))
   ·rintro (z| z| z| z)
    ·exact .inl z
    ·exact .inr (.inl (.inr z))
    ·exact .inr (.inl (.inl z))
    ·exact .inr (.inr z)
  exact {
   base:=o.base
   sto:=fun p hp=>IsO.move (fun _ _ _ e=>e) (fun b hb=>.inl ((hm b).mpr hb)) (fun _ e=>e) (o.sto p hp)
   nd:=by
    refine (List.Perm.nodup_iff ?_).mp o.nd
    refine List.Perm.append_left _ ?_
    exact List.Perm.swap _ _ _
   new:=fun b hb=>o.new b ((hm b).mpr hb)
   live:=fun b hb=>o.live b (by simp only [List.mem_append,List.mem_cons,List.not_mem_nil,or_false] at hb⊢;rcases hb with z| z| z<;>simp_all)
   stack:=by
    obtain ⟨l,a1,a2,a3,a4⟩:=o.stack
    exact ⟨l,a1,a2,fun b hb=>List.mem_append_right _ (List.mem_append_right _ (fin.frames l a1 b hb)),a4⟩}
 have hin1:∀l,A.frames=some l->∀b∈l.filterMap (·.frame),b∈[C]++fr:=fun l hl b hb=>List.mem_append_right _ (fin.frames l hl b hb)
 have hv1:Vs (keys σ'++([a]++([C]++fr))) s'.heap ds vs:=Vs.move (fun _ _ _ e=>e) (fun b hb=>.inl (by simp only [List.mem_append,List.mem_cons,List.not_mem_nil,or_false] at hb⊢;rcases hb with z| z| z| z<;>simp_all)) _ _ hv
 have p1:Post [] ([C]++fr) σ s s' σ':={
  shape:=fin.post.shape
  kept:=fun b o nb e=>fin.post.kept b o (fun z=>nb (by rcases List.mem_append.mp z with z| z<;>simp_all)) e
  slots:=fun b o hb nf e=>by
   rcases List.mem_append.mp hb with z| z
   ·rw [List.mem_singleton.mp z,fin.newC] at e;cases e
   ·exact fin.post.slots b o z nf e
  alive:=fin.post.alive
  grow:=fin.post.grow}
 obtain ⟨d,σ2,p2,ok2,v2,q2⟩:=QL.use (G:=none) (fr:=[C]++fr) q p1 perm hin1 g hv1 fin.newa
 have fm0:Fm env m ([C]++fr) (keys σ++([C]++fr)) s.heap:=fm.shift ⟨List.mem_append_right _ fm.inn.1,fun q hq=>List.mem_append_right _ (fm.inn.2 q hq)⟩ (jC fun b hb=>by rw [List.mem_singleton.mp hb];exact fin.newC)
 have fm2:=fm0.move p2
 show wpAny _ A (PySem.assign (.Name x pos') env (.ref a)) _ _ _
 refine wpAny_assign_Name (wpAny_mono (W.store (X:=NoX) ok2 fm2 v2 (.inl hk)) (fun _ s3 hx=> ?_) fun _ _ y=>y.no.elim)
 obtain ⟨_,σ3,p3,ok3,fm3,rfl⟩:=hx
 have hloc:env.locals∉[C]/\∀q∈env.cells,q.2∉[C]:=⟨fun z=>hCf (List.mem_singleton.mp z▸fm.inn.1),fun q hq z=>hCf (List.mem_singleton.mp z▸fm.inn.2 q hq)⟩
 obtain ⟨mv,hns⟩:=fin.ns
 have hnsC:∃mv,s3.heap.Ns C mv:=by
  obtain ⟨o,es,ep,gC,r⟩:=hns
  obtain ⟨sl,e1,_⟩:=p3.slots C o (by simp) (fun z=>by
   rcases List.mem_cons.mp z with z| z
   ·exact hCf (z▸fm.inn.1)
   ·obtain ⟨q,hq,e⟩:=List.mem_map.mp z;exact hCf (e▸fm.inn.2 q hq)) gC
  exact ⟨mv,_,es,ep,e1,r⟩
 obtain ⟨mv3,hns3⟩:=hnsC
 refine ⟨mv3,hns3,fun h' sb=> ?_⟩
 have kk:∀b o,b∉[C]->s3.heap.get? b=some o->h'.get? b=some o:=fun b o nb e=>(sb.2 b (fun z=>nb (by simp [z]))).trans e
 have p02:Post (Fa env) ([C]++fr) σ s s3 σ3:=(p2.wide (by simp)).trans p3
 have p03:Post (Fa env) fr σ s s3 σ3:={
  shape:=p02.shape
  kept:=fun b o nb e=>p02.kept b o (fun z=>by
   rcases List.mem_append.mp z with z| z
   ·exact nb (List.mem_append_left _ z)
   ·rcases List.mem_append.mp z with z| z
    ·rw [List.mem_singleton.mp z,fin.newC] at e;cases e
    ·exact nb (List.mem_append_right _ z)) e
  slots:=fun b o hb nf e=>p02.slots b o (List.mem_append_right _ hb) nf e
  alive:=p02.alive
  grow:=p02.grow}
 refine ⟨.next _,σ3,p03.fin (wr:=[C]) (tk:=s3.toks) (fun b hb=>by rw [List.mem_singleton.mp hb];exact fin.newC) (fun b hb z=>hCf (List.mem_singleton.mp z▸hb)) kk,Ok.fin ok3 fin.frames kk,⟨rfl,fm3.fin fm.inn hloc kk⟩,q2⟩
end
section
variable {c:Cx} {A:Around} {fr:List Addr} {σ:Sto} {X:Addr->Sto->Prop} {env:Env} {m:Vars}
theorem JD {x:Str}{d:D}{v:Value}{s:Shared}{F:List Addr}{Q:Unit->Shared->Prop}{E:Value->Shared->Prop}(ok:Ok c A fr σ s.heap)(f:Fm env m fr (keys σ++fr) s.heap)(hV:V (keys σ++fr) s.heap d v)(hk:env.kindOf x=some .local\/env.kindOf x=some .cell)
  (hF:(env.kindOf x=some .local->env.locals∈F)/\(env.kindOf x=some .cell->∀cc,env.cells.lookup x=some cc->cc∈F))
  (h:∀h' tk,Fm env ((x,d)::m) fr (keys σ++fr) h'->Ok c A fr σ h'->Post F fr σ s {s with heap:=h',toks:=tk} σ->Q () {s with heap:=h',toks:=tk}):wpAny (model c.prog c.w) A (storeName env x v) Q E s:=by
 have hK:∀b∈fr,b∈keys σ++fr:=fun b hb=>List.mem_append_right _ hb
 have post:∀{a:Addr} {oa:Obj} {h':Heap} {tk:Nat},a∈F->a∈fr->Heap.SameBut a s.heap h'->h'.get? a=some oa->Post F fr σ s {s with heap:=h',toks:=tk} σ:=fun {a oa h' tk} haF haf sb e=>
  ⟨⟨h',tk,rfl⟩,fun b o n g=>(sb.2 b fun q=>n (q▸List.mem_append_right _ haf)).trans g,fun b o _ n g=>⟨o.slots,(sb.2 b fun q=>n (q▸haF)).trans g,fun _=>rfl⟩,
   fun b o g=>by
    by_cases q:b=a
    ·subst q;exact ⟨_,e⟩
    ·exact ⟨o,(sb.2 b q).trans g⟩,fun _ m=>.inl m⟩
 rcases hk with hk| hk
 ·obtain ⟨mv,hn,r⟩:=f.ns
  refine wpAny_storeName_local hk hn (fun h' hn' sb=> ?_) (by rw [f.kind];rfl)
  obtain ⟨o,es,ep,e,hd,_⟩:=id hn'
  exact h h' _ (f.storeL hK r hn' sb hV hk) (ok.turn f.inn.1 sb e (fun vs=>by rw [hd];intro q;contradiction) (fun _=>⟨o,es,ep,e,hd⟩)) (post (hF.1 hk) f.inn.1 sb e)
 ·obtain ⟨cc,hcc⟩:=f.has x (.inl hk)
  obtain ⟨ov,hc,_⟩:=f.cell x cc hcc
  refine wpAny_storeName_cell f.kind hk hcc hc fun h' hc' sb=> ?_
  obtain ⟨o,e,hd⟩:=id hc'
  have hin:=mem_of_lookup hcc
  exact h h' s.toks (f.storeC hK hcc hc' sb hV hk) (ok.turn (f.inn.2 _ hin) sb e (fun vs=>by rw [hd];intro q;contradiction) (fun z=>by
   obtain ⟨o1,es,n,g1,d1⟩:=z
   obtain ⟨o2,g2,d2⟩:=hc
   replace g2:=(g1 ..).symm.trans g2;obtain rfl:=Option.some.inj g2;replace d2:=(d1 ..).symm.trans d2;contradiction)) (post (hF.2 hk cc hcc) (f.inn.2 _ hin) sb e)
noncomputable def Jw (env:Env)(x:Str):List Addr:=if env.kindOf x=some .cell then (match env.cells.lookup x with| some cc=>[cc]| none=>[]) else [env.locals]
theorem jS {env:Env}{x:Str}{a:Addr}(h:a∈Jw env x):a=env.locals\/(env.kindOf x=some .cell/\env.cells.lookup x=some a):=by
 unfold Jw at h
 split at h
 ·rename_i k
  split at h
  ·rename_i cc e;exact .inr ⟨k,by rw [List.mem_singleton.mp h];exact e⟩
  ·contradiction
 ·exact .inl (List.mem_singleton.mp h)
theorem JE {env:Env}{x:Str}:(env.kindOf x=some .local->env.locals∈Jw env x)/\(env.kindOf x=some .cell->∀cc,env.cells.lookup x=some cc->cc∈Jw env x):=by
 unfold Jw
 refine ⟨fun k=> ?_,fun k cc e=> ?_⟩
 ·rw [if_neg (by rw [k];decide)];exact .head _
 ·rw [if_pos k,e];exact .head _
theorem Src.ofWalks {x:Str}{px:Pos}{I:Addr}{fp:List Addr}{n:Nat}{P:Nat->Value->Prop}{St:Nat->Heap->Prop}{ds:List D}{J:List Addr->Heap->Prop}(W:Walks c.prog c.w A I fp [I] n P St)(hlen:ds.length=n)
  (hlive:∀i h,St i h->∃o vs,h.get? I=some o/\o.data=.fields vs)
  (jmove:∀K K' h h',J K h->Stay K h h'->Less K K' h->J K' h') (jv:∀K h i v,i<n->J K h->P i v->∃d,ds[i]? =some d/\V K h d v) (jfp:∀K h,J K h->∀b∈fp,b=I\/b∉K):
  Src c A (.Name x px) I [I] (ds.map fun d=>[(x,d)]) (fun _=>True) (fun i K h=>St i h/\J K h) (fun i K h v=>St (i+1) h/\J K h/\∃d,ds[i]? =some d/\V K h d v) where
 nodict:=fun i K h st b hb o g es n e=>by
  obtain ⟨o',vs,g',d'⟩:=hlive i h st.1
  rw [List.mem_singleton.mp hb,g'] at g;obtain rfl:=Option.some.inj g;replace e:=(d' ..).symm.trans e;contradiction
 midnd:=fun i K h v st b hb o g es n e=>by
  obtain ⟨o',vs,g',d'⟩:=hlive _ h st.1
  rw [List.mem_singleton.mp hb,g'] at g;obtain rfl:=Option.some.inj g;replace e:=(d' ..).symm.trans e;contradiction
 move:=fun i K K' h h' st sy hw hl=>⟨W.frame i h h' st.1 fun b hb o e=>by
   rcases jfp K h st.2 b hb with z| z
   ·exact hw b (by simp [z]) o e
   ·exact sy b o z e,jmove _ _ _ _ st.2 sy hl⟩
 next:=fun i σ fr s Q E hi ok st _ hQ=>by
  refine W.item i s Q E (by simpa [hlen] using hi) st.1 fun v h' tk hP st' hk=> ?_
  have j':=jmove _ _ _ _ st.2 (fun b o nb e=>hk b o (fun z=>nb (by rw [List.mem_singleton.mp z];simp)) e) (fun a ha=>.inl ha)
  exact hQ v h' tk ⟨st',j',jv _ _ _ _ (by simpa [hlen] using hi) j' hP⟩ (⟨fun b o nb e=>hk b o nb e,fun b hb=>by obtain ⟨o,vs,g,_⟩:=hlive _ _ st';exact (List.mem_singleton.mp hb)▸⟨o,g⟩⟩)
 put:=fun i σ fr F env m v s Q E y hy mid ok fm hi hkind hF hnd hQ=>by
  obtain ⟨st,j,d,hd,hV⟩:=mid
  have hy':y=[(x,d)]:=by
   rw [List.getElem?_map,hd] at hy;exact (Option.some.inj hy).symm
  subst hy'
  refine wpAny_pure (wpAny_assign_Name ?_)
  have ndw:=ok.nd
  rw [List.nodup_append,List.nodup_append] at ndw
  have nI:∀a∈fr,a≠I:=fun a ha z=>ndw.2.1.2.2 I (by exact .head _) a ha z.symm
  refine JD (F:=Jw env x) ok fm hV (hkind (x,d) (by exact .head _)) JE fun h' tk fm' ok' p'=> ?_
  have gI:∀o,s.heap.get? I=some o->h'.get? I=some o:=fun o e=>by
   obtain ⟨sl,e1,r1⟩:=p'.slots I o (by exact .head _) (fun z=>(fun a ha=>by
   rcases jS ha with z| ⟨_,e⟩
   ·rw [z];exact nI _ hi.1
   ·exact nI _ (hi.2 _ (mem_of_lookup e)):∀a∈Jw env x,a≠I) I z rfl) e
   have:=r1 (hnd I (by exact .head _) o e)
   subst this;exact e1
  refine hQ h' tk ⟨W.frame _ _ _ st fun b hb o e=> ?_,jmove _ _ _ _ j p'.stay p'.less⟩ fm' ok' (p'.wide fun a ha=> ?_)
  ·rcases jfp _ _ j b hb with z| z
   ·cases z;exact gI o e
   ·exact p'.stay b o z e
  ·rcases jS ha with z| ⟨k,e⟩
   ·rw [z];exact List.mem_append_right _ hF.1
   ·exact List.mem_append_right _ (hF.2 (x,d) (by exact .head _) k _ e)
 done:=fun σ fr s Q E ok st _ hQ=>by
  rw [(by simp [hlen]:(ds.map fun d=>[(x,d)]).length=n)] at st
  exact W.done s Q E st.1 fun h' tk hk=>hQ h' tk hk
 self:=fun i K s Q E st hQ=>W.self i s Q E st.1 hQ
inductive SP (c:Cx)(A:Around)(fr:List Addr)(σ:Sto)(tg:Expr)(Q:List Vars->(Sto->Prop)->Sto->Prop)(s:Shared)(it:Value)(s2:Shared):Prop
 | mk (I:Addr) (wr:List Addr) (vals:List Vars) (Inv:Sto->Prop) (St:Nat->List Addr->Heap->Prop) (Mid:Nat->List Addr->Heap->Value->Prop) (e:it=.ref I) (sh:∃h tk,s2={s with heap:=h,toks:=tk}) (k:∀b o,s.heap.get? b=some o->s2.heap.get? b=some o) (hn:∀a∈wr,s.heap.get? a=none)
   (hl:∀a∈wr,∃o,s2.heap.get? a=some o) (nd:wr.Nodup) (src:Src c A tg I wr vals Inv St Mid) (st:St 0 (keys σ++(wr++fr)) s2.heap) (inv:Inv σ) (q:Q vals Inv σ):SP c A fr σ tg Q s it s2
noncomputable def WIv (c:Cx)(A:Around)(fr:List Addr)(env:Env)(m:Vars)(σ:Sto)(d:D)(tg:Expr)(Q:List Vars->(Sto->Prop)->Sto->Prop):Prop:=
 ∀v s (E:Value->Shared->Prop),Ok c A fr σ s.heap->Fm env m fr (keys σ++fr) s.heap->V (keys σ++fr) s.heap d v->
  wpAny (model c.prog c.w) A (pyIter v) (SP c A fr σ tg Q s) E s
theorem SP.it {tg:Expr}{Q:List Vars->(Sto->Prop)->Sto->Prop}{σ1:Sto}{s s1 s2:Shared}{it:Value}(fm:Fm env m fr (keys σ++fr) s.heap)(p1:Post [] fr σ s s1 σ1)(ok1:Ok c A fr σ1 s1.heap)(hx:SP c A fr σ1 tg Q s1 it s2):
  ItP c A fr env m σ tg Q s it s2:=by
 have fm1:=fm.move p1
 obtain ⟨I,wr,vals,Inv,St,Mid,rfl,⟨h2,tk2,rfl⟩,hk,hn,hl,nd,src,st0,inv,q⟩:=hx
 have p2:Post [] fr σ1 s1 {s1 with heap:=h2,toks:=tk2} σ1:=Post.keeps hk
 refine ⟨I,wr,vals,Inv,St,Mid,σ1,rfl,p1.trans p2,ok1.keeps hk,ok1.more hk hn hl nd,fun a ha=>jF p1 (hn a ha),?_,src,st0,inv,q⟩
 exact Fm.move (s:=s1) (s':={s1 with heap:=h2,toks:=tk2}) (fm1.shift ⟨List.mem_append_right _ fm1.inn.1,fun q hq=>List.mem_append_right _ (fm1.inn.2 q hq)⟩ (jC hn)) (Post.keeps hk)
theorem WIt.of {iter tg:Expr}{Q:List Vars->(Sto->Prop)->Sto->Prop}(h:WE c A fr env m σ iter (fun d σ1=>WIv c A fr env m σ1 d tg Q) X):WIt c A fr env m σ iter tg Q X:=fun s ok fm=>by
 refine wpAny_mono (h s ok fm) (fun x s1 hz=> ?_) fun _ _ x=>x
 obtain ⟨d,σ1,p1,ok1,v1,q1⟩:=hz
 exact wpAny_mono (q1 x s1 _ ok1 (fm.move p1) v1) (fun it s2 hx=>hx.it fm p1 ok1) fun _ _ x=>x
theorem WIt.callT (g:c.Good){f:Str}{fp pos:Pos}{args:List Expr}{T:String}{tg:Expr}{Q:List Vars->(Sto->Prop)->Sto->Prop}(hk:env.kindOf f=some .globalImplicit)(hg:c.mg f=none)(hb:c.mb f=some (.type T))
  (h:WA c A fr env m σ args (fun ds σ1=>∀s vals (E:Value->Shared->Prop),Ok c A fr σ1 s.heap->Fm env m fr (keys σ1++fr) s.heap->Vs (keys σ1++fr) s.heap ds vals->wpAny (model c.prog c.w) A (call (.type T) vals) (fun x s1=>wpAny (model c.prog c.w) A (pyIter x) (SP c A fr σ1 tg Q s) E s1) E s) X)
  (hp:jc args=true:=by rfl) (hdb:(f==("__debug__":Str))=false:=by decide):WIt c A fr env m σ (.Call (.Name f fp) args [] pos) tg Q X:=fun s ok fm=>by
 refine wpAny_bind (Name_function_global fm.kind hk (loadGlobal_builtin (by rw [fm.glob];exact g.g.keeps ok.base) hg (by rw [fm.bui];exact g.b.keeps ok.base) hb ?_) hdb)
 refine PySem.callWith_type (by
  rw [List.any_eq_false];intro x hx;simp [(jd (env:=env) (pos:=pos) hp) x hx]) (jq (jd hp) (wpAny_mono (h pos s ok fm) (fun vs s1 ⟨ds,σ1,p1,ok1,x1,q1⟩=> ?_) fun _ _ x=>x))
 exact wpAny_mono (q1 s1 vs _ ok1 (fm.move p1) x1) (fun x s2 hx=>wpAny_mono hx (fun it s3 hx=>hx.it fm p1 ok1) fun _ _ x=>x) fun _ _ x=>x
theorem WE.callT (g:c.Good){f:Str}{fp pos:Pos}{args:List Expr}{T:String}{Q:D->Sto->Prop}(hk:env.kindOf f=some .globalImplicit)(hg:c.mg f=none)(hb:c.mb f=some (.type T))
  (h:WA c A fr env m σ args (fun ds σ1=>∀s vals,Ok c A fr σ1 s.heap->Vs (keys σ1++fr) s.heap ds vals->W c A none fr σ1 (call (.type T) vals) V Q X s) X) (hp:jc args=true:=by rfl) (hdb:(f==("__debug__":Str))=false:=by decide):WE c A fr env m σ (.Call (.Name f fp) args [] pos) Q X:=fun s ok fm=>by
 refine wpAny_bind (Name_function_global fm.kind hk (loadGlobal_builtin (by rw [fm.glob];exact g.g.keeps ok.base) hg (by rw [fm.bui];exact g.b.keeps ok.base) hb ?_) hdb)
 refine PySem.callWith_type (by
  rw [List.any_eq_false];intro x hx;simp [(jd (env:=env) (pos:=pos) hp) x hx]) (jq (jd hp) (wpAny_mono (h pos s ok fm) (fun vs s1 ⟨ds,σ1,p1,ok1,x1,q1⟩=> ?_) fun _ _ x=>x))
 refine wpAny_mono (q1 s1 vs ok1 x1) (fun _ _ z=>z.back p1) fun _ _ x=>Ex.back p1 x fun _ _ y=>y
theorem Y2 {h:Heap}{a:Addr}{o:Obj}(e:h.get? a=some o):a≠h.objs.size:=fun z=>Nat.lt_irrefl _ (z▸Heap.lt_size e)
theorem WIv.lst {ds:List D}{x:Str}{px:Pos}{Q:List Vars->(Sto->Prop)->Sto->Prop}(hh:A.handled=none)(h:Q (ds.map fun d=>[(x,d)]) (fun _=>True) σ):WIv c A fr env m σ (.lst ds) (.Name x px) Q:=fun v s E ok fm hv=>by
 obtain ⟨a,vs,n,rfl,hak,g,hvs⟩:=hv
 have hL:s.heap.IsList a vs.toArray:=⟨_,g,rfl,n,rfl⟩
 refine wpAny_pyIter_list hL ?_
 refine ⟨_,[s.heap.objs.size],_,_,_,_,rfl,⟨_,s.toks,rfl⟩,fun b o e=>Heap.get?_push_of_some _ e,fun b hb=>by rw [List.mem_singleton.mp hb];exact jg (Nat.le_refl _),fun b hb=>by rw [List.mem_singleton.mp hb];exact ⟨_,Heap.get?_push_size _ rfl⟩,by simp,
  Src.ofWalks (J:=fun K h=>a∉K/\h.IsList a vs.toArray/\Vs K h ds vs) (Walks.list hh s.heap.objs.size a (Y2 g) vs.toArray) (by exact hvs.length.symm) ?_ ?_ ?_ ?_,?_,trivial,h⟩
 ·rintro i h ⟨⟨o,g,_,hd⟩,_⟩;exact ⟨o,_,g,hd⟩
 ·rintro K K' h h' ⟨j1,⟨o,g,r⟩,j3⟩ sy hl
  exact ⟨hl.nin j1 g,⟨o,sy _ _ j1 g,r⟩,Vs.move sy hl _ _ j3⟩
 ·rintro K h i v _ ⟨j1,j2,j3⟩ hp
  exact j3.get (by simpa using hp)
 ·rintro K h ⟨j1,j2,j3⟩ b hb
  rcases List.mem_cons.mp hb with z| z
  ·exact .inl z
  ·exact .inr (List.mem_singleton.mp z▸j1)
 ·have st:Stay (keys σ++fr) s.heap (s.heap.push {cls:=.type "list_iterator",data:=.fields #[.ref a,.int 0 0]}):=fun b o _ e=>Heap.get?_push_of_some _ e
  have hn:∀b∈[s.heap.objs.size],s.heap.get? b=none:=fun b hb=>by exact (List.mem_singleton.mp hb)▸jg (Nat.le_refl _)
  refine ⟨⟨⟨_,Heap.get?_push_size _ rfl,rfl,rfl⟩,hL.push _⟩,(jC hn).nin hak g,hL.push _,Vs.move st (jC hn) _ _ hvs⟩
theorem WIv.tup {ds:List D}{x:Str}{px:Pos}{Q:List Vars->(Sto->Prop)->Sto->Prop}(hh:A.handled=none)(h:Q (ds.map fun d=>[(x,d)]) (fun _=>True) σ):WIv c A fr env m σ (.tup ds) (.Name x px) Q:=fun v s E ok fm hv=>by
 obtain ⟨a,vs,n,rfl,hak,g,hvs⟩:=hv
 have hL:s.heap.IsTuple a vs.toArray:=⟨_,g,rfl,n,rfl⟩
 refine wpAny_pyIter_tuple hL ?_
 refine ⟨_,[s.heap.objs.size],_,_,_,_,rfl,⟨_,s.toks,rfl⟩,fun b o e=>Heap.get?_push_of_some _ e,fun b hb=>by rw [List.mem_singleton.mp hb];exact jg (Nat.le_refl _),fun b hb=>by exact (List.mem_singleton.mp hb)▸⟨_,Heap.get?_push_size _ rfl⟩,by simp,
  Src.ofWalks (J:=fun K h=>a∉K/\h.IsTuple a vs.toArray/\Vs K h ds vs) (Walks.tuple hh s.heap.objs.size a (Y2 g) vs.toArray) (by exact hvs.length.symm) ?_ ?_ ?_ ?_,?_,trivial,h⟩
 ·rintro i h ⟨⟨o,g,_,hd⟩,_⟩;exact ⟨o,_,g,hd⟩
 ·rintro K K' h h' ⟨j1,⟨o,g,r⟩,j3⟩ sy hl
  exact ⟨hl.nin j1 g,⟨o,sy _ _ j1 g,r⟩,Vs.move sy hl _ _ j3⟩
 ·rintro K h i v _ ⟨j1,j2,j3⟩ hp
  exact j3.get (by simpa using hp)
 ·rintro K h ⟨j1,j2,j3⟩ b hb
  rcases List.mem_cons.mp hb with z| z
  ·exact .inl z
  ·exact .inr (List.mem_singleton.mp z▸j1)
 ·have hn:∀b∈[s.heap.objs.size],s.heap.get? b=none:=fun b hb=>by rw [List.mem_singleton.mp hb];exact jg (Nat.le_refl _)
  refine ⟨⟨⟨_,Heap.get?_push_size _ rfl,rfl,rfl⟩,hL.push _⟩,(jC hn).nin hak g,hL.push _,Vs.move (K:=keys σ++fr) (fun b o _ e=>Heap.get?_push_of_some _ e) (jC hn) _ _ hvs⟩
theorem WIv.ref {a:Addr}{ds:List D}{x:Str}{px:Pos}{Q:List Vars->(Sto->Prop)->Sto->Prop}(hh:A.handled=none)(hm:(a,O.lst ds)∈σ)(h:Q (ds.map fun d=>[(x,d)]) (fun σ'=>(a,O.lst ds)∈σ') σ):WIv c A fr env m σ (.ref a) (.Name x px) Q:=fun v s E ok fm hv=>by
 subst hv
 obtain ⟨vs,n,g,hvs⟩:=ok.sto _ hm
 have hne:=Y2 g
 refine wpAny_pyIter_list (⟨_,g,rfl,n,rfl⟩) ?_
 refine ⟨_,[s.heap.objs.size],_,fun σ'=>(a,O.lst ds)∈σ',fun i K h=>a≠s.heap.objs.size/\h.IsListIter s.heap.objs.size a i,fun i K h v=>(a≠s.heap.objs.size/\h.IsListIter s.heap.objs.size a (i+1))/\∃d,ds[i]? =some d/\V K h d v,rfl,⟨_,s.toks,rfl⟩,fun b o e=>Heap.get?_push_of_some _ e,fun b hb=>by rw [List.mem_singleton.mp hb];exact jg (Nat.le_refl _),fun b hb=>by exact (List.mem_singleton.mp hb)▸⟨_,Heap.get?_push_size _ rfl⟩,by simp,
  ?_,⟨hne,_,Heap.get?_push_size _ rfl,rfl,rfl⟩,hm,h⟩
 exact {
  nodict:=fun i K h st b hb o g es n e=>by
   obtain ⟨_,o',g',_,d'⟩:=st
   rw [List.mem_singleton.mp hb,g'] at g;obtain rfl:=Option.some.inj g;replace e:=(d' ..).symm.trans e;contradiction
  midnd:=fun i K h v st b hb o g es n e=>by
   obtain ⟨⟨_,o',g',_,d'⟩,_⟩:=st
   rw [List.mem_singleton.mp hb,g'] at g;obtain rfl:=Option.some.inj g;replace e:=(d' ..).symm.trans e;contradiction
  move:=fun i K K' h h' st sy hw hl=>by
   obtain ⟨h1,o',g',r⟩:=st
   exact ⟨h1,o',hw _ (by exact .head _) _ g',r⟩
  next:=fun i σ fr s' Q E hi ok st inv hQ=>by
   obtain ⟨us,n',g',hus⟩:=ok.sto _ inv
   have hi':i<us.length:=by rw [hus.length];simpa using hi
   refine wpAny_pyNext_list_item (items:=us.toArray) (x:=us[i]) st.2 ⟨_,g',rfl,n',rfl⟩ (by simp) fun h' it' sb'=> ?_
   obtain ⟨d,hd,hV⟩:=hus.get (i:=i) (v:=us[i]) (by simp)
   refine hQ _ h' s'.toks ⟨⟨st.1,it'⟩,d,hd,V.move (fun b o nb e=>(sb'.2 b fun z=>nb (by simp only [z];simp)).trans e) (fun a ha=>.inl ha) _ _ hV⟩ ⟨fun b o nb e=>(sb'.2 b fun z=>nb (by simp [z])).trans e,fun b hb=> ?_⟩
   obtain ⟨o,g,_⟩:=it';exact (List.mem_singleton.mp hb)▸⟨o,g⟩
  put:=fun i σ fr F env m v s' Q E y hy mid ok fm hi hkind hF hnd hQ=>by
   obtain ⟨⟨hne,st⟩,d,hd,hV⟩:=mid
   have hy':y=[(x,d)]:=by
    rw [List.getElem?_map,hd] at hy;exact (Option.some.inj hy).symm
   subst hy'
   refine wpAny_pure (wpAny_assign_Name ?_)
   have ndw:=ok.nd
   rw [List.nodup_append,List.nodup_append] at ndw
   have nI:∀a∈fr,a≠s.heap.objs.size:=fun a ha z=>ndw.2.1.2.2 _ (by simp) a ha z.symm
   have hF0:∀a∈Jw env x,a≠s.heap.objs.size:=fun a ha=>by
    rcases jS ha with z| ⟨_,e⟩
    ·rw [z];exact nI _ hi.1
    ·exact nI _ (hi.2 _ (mem_of_lookup e))
   refine JD (F:=Jw env x) ok fm hV (hkind (x,d) (by simp)) JE fun h' tk fm' ok' p'=> ?_
   refine hQ h' tk ⟨hne,?_⟩ fm' ok' (p'.wide fun a ha=> ?_)
   ·obtain ⟨o,g,r⟩:=st
    obtain ⟨sl,e1,r1⟩:=p'.slots _ o (by simp) (fun z=>hF0 _ z rfl) g
    have:=r1 (hnd _ (by simp) o g)
    subst this;exact ⟨o,e1,r⟩
   ·rcases jS ha with z| ⟨k,e⟩
    ·rw [z];exact List.mem_append_right _ hF.1
    ·exact List.mem_append_right _ (hF.2 (x,d) (by simp) k _ e)
  done:=fun σ fr s' Q E ok st inv hQ=>by
   obtain ⟨us,n',g',hus⟩:=ok.sto _ inv
   have e:(ds.map fun d=>[(x,d)]).length=us.length:=by simp [hus.length]
   rw [e] at st
   exact wpAny_pyNext_list_end (items:=us.toArray) hh st.2 ⟨_,g',rfl,n',rfl⟩ (by simp) fun h' he'=>hQ h' s'.toks fun b o hb e=>he' b o (fun z=>hb (by simp [z])) e
  self:=fun i K s' Q E st hQ=>wpAny_pyIter_listiter st.2 hQ}
theorem Jx {n:Int}:(Builtin.Range.rangeSize 0 n 1)=((n.toNat:Nat):Int):=by
 rw [rangeSize_one];split<;>lia
theorem WIt.range1 (g:c.Good)(hh:A.handled=none){f:Str}{fp pos px:Pos}{e:Expr}{x:Str}{Q:List Vars->(Sto->Prop)->Sto->Prop}(hk:env.kindOf f=some .globalImplicit)(hg:c.mg f=none)(hb:c.mb f=some (.type "range"))
  (h:WE c A fr env m σ e (fun d σ1=>∃n:Int,d=.int n/\-(2^62)<=n/\n<2^62/\Q ((List.range n.toNat).map fun (i:Nat)=>[(x,D.int (i:Int))]) (fun _=>True) σ1) X) (hp:jc [e]=true:=by rfl) (hdb:(f==("__debug__":Str))=false:=by decide):
  WIt c A fr env m σ (.Call (.Name f fp) [e] [] pos) (.Name x px) Q X:=by
 refine WIt.callT g hk hg hb (WA.cons (h.mono (fun d σ1 q=>WA.nil ?_) fun _ _ y=>y) hp) hp hdb
 intro s vals E ok fm hv
 obtain ⟨n,rfl,h1,h2,q⟩:=q
 obtain ⟨v,r,rfl,hv,hr⟩:=hv
 subst hr
 obtain ⟨t,rfl⟩:=hv
 refine call_range_1 ?_
 refine wpAny_pyIter_range (IsRange.new _ _ _ _ _ _ _) (small_one (by decide) (by decide) h1 h2) ?_
 generalize hH:s.heap.push {cls:=.type "range",data:=.fields #[.int 0 s.toks,.int n t,.int 1 (s.toks+1)]}=H
 have hHk:∀b o,s.heap.get? b=some o->H.get? b=some o:=fun b o e=>hH▸Heap.get?_push_of_some _ e
 refine ⟨H.objs.size,[H.objs.size],_,_,_,_,rfl,⟨_,_,rfl⟩,fun b o e=>Heap.get?_push_of_some _ (hHk b o e),fun b hb=>by rw [List.mem_singleton.mp hb];exact (jg (by rw [(by rw [<-hH,Heap.size_push]:H.objs.size=s.heap.objs.size+1)];exact Nat.le_succ _)),fun b hb=>by rw [List.mem_singleton.mp hb];exact ⟨_,Heap.get?_push_size _ rfl⟩,by simp,
  Src.ofWalks (ds:=(List.range n.toNat).map fun (i:Nat)=>D.int (i:Int)) (J:=fun K h=>True) (Walks.range hh H.objs.size 0 1 n.toNat) (by simp) ?_ ?_ ?_ ?_,?_,trivial,by simpa [List.map_map,Function.comp_def] using q⟩
 ·intro i h st;exact ⟨_,_,st,rfl⟩
 ·intros;trivial
 ·rintro K h i v hi _ ⟨t,rfl⟩
  refine ⟨.int i,by simp [hi],?_⟩
  exact ⟨t,by simp⟩
 ·rintro K h _ b hb;exact .inl (List.mem_singleton.mp hb)
 ·refine ⟨?_,trivial⟩
  have:=Heap.get?_push_size H (o:={cls:=.type "range_iterator",data:=.fields #[rawInt 0,rawInt (Builtin.Range.rangeSize 0 n 1),rawInt 1]}) rfl
  rw [Jx] at this
  rw [Jx]
  trivial
end
noncomputable def SqIt (b:Bool)(h:Heap)(i l:Addr)(k:Nat):Prop:=if b then h.IsListIter i l k else h.IsTupleIter i l k
noncomputable def SqOf (b:Bool)(h:Heap)(l:Addr)(xs:Array Value):Prop:=if b then h.IsList l xs else h.IsTuple l xs
theorem SqIt.at {b:Bool}{h h':Heap}{i l:Addr}{k:Nat}(x:SqIt b h i l k)(e:∀o,h.get? i=some o->h'.get? i=some o):SqIt b h' i l k:=by
 cases b with
 | true=>obtain ⟨o,g,r⟩:=x;exact ⟨o,e _ g,r⟩
 | false=>obtain ⟨o,g,r⟩:=x;exact ⟨o,e _ g,r⟩
theorem SqOf.at {b:Bool}{h h':Heap}{l:Addr}{xs:Array Value}(x:SqOf b h l xs)(e:∀o,h.get? l=some o->h'.get? l=some o):SqOf b h' l xs:=by
 cases b with
 | true=>obtain ⟨o,g,r⟩:=x;exact ⟨o,e _ g,r⟩
 | false=>obtain ⟨o,g,r⟩:=x;exact ⟨o,e _ g,r⟩
theorem SqIt.there {b:Bool}{h:Heap}{i l:Addr}{k:Nat}(x:SqIt b h i l k):∃o vs,h.get? i=some o/\o.data=.fields vs:=by
 cases b with
 | true=>obtain ⟨o,g,_,r⟩:=x;exact ⟨o,_,g,r⟩
 | false=>obtain ⟨o,g,_,r⟩:=x;exact ⟨o,_,g,r⟩
section
variable {prog:Program} {w:World} {A:Around} {E:Value->Shared->Prop} {s:Shared}
theorem yt {it t:Addr}{i:Nat}{items}{x:Value}{Q:Value->Shared->Prop}(hit:s.heap.IsTupleIter it t i)(ht:s.heap.IsTuple t items)(hx:items[i]? =some x)
  (hQ:∀h',h'.IsTupleIter it t (i+1)->Heap.SameBut it s.heap h'->Q x {s with heap:=h'}):wpAny (model prog w) A (Builtin.SmallTypes.nextOf (.ref it)) Q E s:=by
 obtain ⟨o,ho,hc,hd⟩:=id hit
 obtain ⟨ol,hol,_,nl,hdl⟩:=ht
 refine wpAny_bind (wpAny_callSpecial?_slot (name:=Str.ofString "__next__") hit.typeIs F.slot_tuple_iterator_next
  (wpAny_call_entry F.slot_tuple_iterator_next hit.typeIs F.entry_tuple_iterator_next ?_ (F.args_tuple_iterator_next_1 _)))
 refine wpAny_bind (m:=field (.ref it) 0) (wpAny_field ho hd (x:=.ref t) rfl ?_)
 refine wpAny_bind (m:=field (.ref it) 1) (wpAny_field ho hd (x:=.int i 0) rfl ?_)
 refine wpAny_bind (m:=seqItems? (.ref t)) (wpAny_seqItems hol hdl ?_)
 simp only [Int.toNat_natCast,hx]
 refine wpAny_bind (wpAny_setField ho hd (by exact Nat.le_refl _) (wpAny_pure ⟨x,rfl,wpAny_pure (hQ _ ?_ (Heap.SameBut.update ..))⟩))
 exact ⟨_,Heap.get?_update_self _ ho (Obj.isFreed_of_fields (Obj.data_mapFields hd _)),(Obj.cls_mapFields ..).trans hc,by
  rw [Obj.data_mapFields hd];rfl⟩
theorem yI {it t:Addr}{i:Nat}{items}{Q:Value->Shared->Prop}(hh:A.handled=none)(hit:s.heap.IsTupleIter it t i)(ht:s.heap.IsTuple t items)(hx:items[i]? =none)
  (hE:∀h' e,Heap.ExtBut it s.heap h'->(∃o,h'.get? e=some o/\o.cls=.type "StopIteration")->E (.ref e) {s with heap:=h'}):wpAny (model prog w) A (Builtin.SmallTypes.nextOf (.ref it)) Q E s:=by
 obtain ⟨o,ho,hc,hd⟩:=id hit
 obtain ⟨ol,hol,_,nl,hdl⟩:=ht
 refine wpAny_bind (wpAny_callSpecial?_slot (name:=Str.ofString "__next__") hit.typeIs F.slot_tuple_iterator_next
  (wpAny_call_entry F.slot_tuple_iterator_next hit.typeIs F.entry_tuple_iterator_next ?_ (F.args_tuple_iterator_next_1 _)))
 refine wpAny_bind (m:=field (.ref it) 0) (wpAny_field ho hd (x:=.ref t) rfl ?_)
 refine wpAny_bind (m:=field (.ref it) 1) (wpAny_field ho hd (x:=.int i 0) rfl ?_)
 refine wpAny_bind (m:=seqItems? (.ref t)) (wpAny_seqItems hol hdl ?_)
 simp only [Int.toNat_natCast,hx]
 refine wpAny_bind (wpAny_rule (wpAny_bind (wpAny_setField ho hd (by exact Nat.le_add_right _ _) ?_)))
 refine wpAny_bind (m:=newExc (.type "StopIteration") []) ?_
 refine wpAny_bind (wpAny_newObj_type ?_ (by size_fits))
 refine wpAny_bind (m:=firstArgMember _ _) (wpAny_of_eq (a:=Value.none) (by first| rfl| (rfl;rfl)) ?_)
 refine wpAny_newObj_type ?_ (by size_fits)
 simp only
 refine wpAny_bind (wpAny_handled ?_)
 first| rw [show A.in1.handled=none from hh]| rw [hh]
 refine wpAny_bind (wpAny_pure (wpAny_throw ?_))
 exact hE _ _ (((Heap.SameBut.update ..).extBut.push _).push _) ⟨_,Heap.get?_push_size _ rfl,rfl⟩
theorem Ji {b:Bool}{it l:Addr}{i:Nat}{items:Array Value}{x:Value}{Q:Value->Shared->Prop}(hit:SqIt b s.heap it l i)(hl:SqOf b s.heap l items)(hx:items[i]? =some x)
  (hQ:∀h',SqIt b h' it l (i+1)->Heap.SameBut it s.heap h'->Q x {s with heap:=h'}):wpAny (model prog w) A (Builtin.SmallTypes.nextOf (.ref it)) Q E s:=by
 cases b with
 | true=>exact wpAny_nextOf_list_item hit hl hx hQ
 | false=>exact yt hit hl hx hQ
theorem ye {b:Bool}{it l:Addr}{i:Nat}{items:Array Value}{Q:Value->Shared->Prop}(hh:A.handled=none)(hit:SqIt b s.heap it l i)(hl:SqOf b s.heap l items)(hx:items[i]? =none)
  (hE:∀h' e,Heap.ExtBut it s.heap h'->(∃o,h'.get? e=some o/\o.cls=.type "StopIteration")->E (.ref e) {s with heap:=h'}):wpAny (model prog w) A (Builtin.SmallTypes.nextOf (.ref it)) Q E s:=by
 cases b with
 | true=>exact wpAny_nextOf_list_end hh hit hl hx hE
 | false=>exact yI hh hit hl hx hE
theorem Wz {b1 b2:Bool}{z TI TO i1 i2 l1 l2:Addr}{k:Nat}{xs ys:Array Value}{x y a b:Value}{Q:Value->Shared->Prop}(D:ZipApart z TI TO i1 i2 l1 l2)
  (hz:IsZip s.heap z TI TO .none) (hTI:IsPair s.heap TI (.ref i1) (.ref i2)) (hTO:IsPair s.heap TO a b)
  (h1:SqIt b1 s.heap i1 l1 k) (h2:SqIt b2 s.heap i2 l2 k) (hl1:SqOf b1 s.heap l1 xs) (hl2:SqOf b2 s.heap l2 ys) (hx:xs[k]? =some x) (hy:ys[k]? =some y)
  (hQ:∀h',IsZip h' z TI TO (rawInt s.heap.objs.size)->IsPair h' TO x y->SqIt b1 h' i1 l1 (k+1)->SqIt b2 h' i2 l2 (k+1)->IsPair h' s.heap.objs.size x y->
   (∀c o,c≠z->c≠TO->c≠i1->c≠i2->s.heap.get? c=some o->h'.get? c=some o)->Q (.ref s.heap.objs.size) {s with heap:=h'}):
  wpAny (model prog w) A (Builtin.«zip.__next__» ⟨[.ref z],[]⟩) (fun fin s'=>∃v,fin=.done (.ret v)/\Q v s') E s:=by
 refine wpAny_bind (m:=field (.ref z) 2) (wpAny_field hz rfl (x:=.bool false) rfl ?_)
 refine wpAny_bind (m:=field (.ref z) 3) (wpAny_field hz rfl (x:=.ref TI) rfl ?_)
 refine wpAny_bind (wpAny_seqItems hTI rfl ?_)
 refine wpAny_bind (m:=Builtin.SmallTypes.ownedTupleIsFree (.ref z)) ?_
 refine wpAny_bind (wpAny_field hz rfl (x:=.none) rfl (wpAny_pure ?_))
 refine wpAny_bind (wpAny_rule ?_)
 refine wpAny_bind (wpAny_field hz rfl (x:=.ref TO) rfl ?_)
 refine wpAny_bind (wpAny_setField_rec hz (by exact Nat.le_add_left _ _) fun h₁ hz₁ hs₁=> ?_)
 replace hz₁:IsZip h₁ z TI TO .ellipsis:=hz₁
 refine wpAny_bind ?_
 have k1:∀{c o},c≠z->s.heap.get? c=some o->h₁.get? c=some o:=fun c e=>hs₁.extBut _ _ c e
 refine wpAny_bind (wpAny_bind (wpAny_onRaise ?_))
 refine wpAny_bind (m:=Builtin.SmallTypes.nextOf (.ref i1)) (Ji (h1.at fun o e=>k1 D.i1z e) (hl1.at fun o e=>k1 D.l1z e) hx fun h₂ h1₂ hs₂=>wpAny_pure ?_)
 have k2:∀{c o},c≠i1->h₁.get? c=some o->h₂.get? c=some o:=fun c e=>hs₂.extBut _ _ c e
 have hTO₂:=k2 D.TOi1 (k1 D.TOz hTO)
 refine wpAny_bind (wpAny_seqItems hTO₂ rfl ?_)
 refine wpAny_bind (wpAny_updateSeq_pair hTO₂ fun h₃ hTO₃ hs₃=> ?_)
 replace hTO₃:IsPair h₃ TO x b:=hTO₃
 have k3:∀{c o},c≠TO->h₂.get? c=some o->h₃.get? c=some o:=fun c e=>hs₃.extBut _ _ c e
 refine wpAny_bind (wpAny_letGo (wpAny_pure ?_))
 refine wpAny_bind (wpAny_bind (wpAny_onRaise ?_))
 refine wpAny_bind (m:=Builtin.SmallTypes.nextOf (.ref i2)) (Ji (h2.at fun o e=>k3 D.TOi2.symm (k2 D.i12.symm (k1 D.i2z e))) (hl2.at fun o e=>k3 D.l2TO (k2 D.l2i1 (k1 D.l2z e))) hy fun h₄ h2₄ hs₄=>wpAny_pure ?_)
 have k4:∀{c o},c≠i2->h₃.get? c=some o->h₄.get? c=some o:=fun c e=>hs₄.extBut _ _ c e
 have hTO₄:=k4 D.TOi2 hTO₃
 refine wpAny_bind (wpAny_seqItems hTO₄ rfl ?_)
 refine wpAny_bind (wpAny_updateSeq_pair hTO₄ fun h₅ hTO₅ hs₅=> ?_)
 replace hTO₅:IsPair h₅ TO x y:=hTO₅
 have k5:∀{c o},c≠TO->h₄.get? c=some o->h₅.get? c=some o:=fun c e=>hs₅.extBut _ _ c e
 refine wpAny_bind (wpAny_letGo (wpAny_pure (wpAny_pure ?_)))
 refine wpAny_bind (wpAny_seqItems hTO₅ rfl ?_)
 refine wpAny_bind (wpAny_newTuple ?_)
 have hsz:h₅.objs.size=s.heap.objs.size:=by simp only [hs₅.1,hs₄.1,hs₃.1,hs₂.1,hs₁.1]
 have hz₅:IsZip h₅ z TI TO .ellipsis:=k5 D.TOz.symm (k4 D.i2z.symm (k3 D.TOz.symm (k2 D.i1z.symm hz₁)))
 have hk₅:∀c o,c≠z->c≠TO->c≠i1->c≠i2->s.heap.get? c=some o->h₅.get? c=some o:=fun c o c1 c2 c3 c4 e=>k5 c2 (k4 c4 (k3 c2 (k2 c3 (k1 c1 e))))
 have h1₅:SqIt b1 h₅ i1 l1 (k+1):=h1₂.at fun o e=>k5 D.TOi1.symm (k4 D.i12 (k3 D.TOi1.symm e))
 have h2₅:SqIt b2 h₅ i2 l2 (k+1):=h2₄.at fun o e=>k5 D.TOi2.symm e
 have hzlt:z<h₅.objs.size:=Heap.lt_size hz₅
 refine wpAny_bind (m:=Builtin.SmallTypes.ownedTupleHandOut (.ref z) (.ref h₅.objs.size)) ?_
 unfold Builtin.SmallTypes.ownedTupleHandOut
 have hz₆:IsZip (h₅.push {cls:=.type "tuple",data:=.seq #[x,y]}) z TI TO .ellipsis:=Heap.get?_push_of_some _ hz₅
 refine wpAny_bind (wpAny_setField_rec hz₆ (by simp) fun h₇ hz₇ hs₇=> ?_)
 replace hz₇:IsZip h₇ z TI TO (rawInt h₅.objs.size):=hz₇
 refine wpAny_setField_rec hz₇ (by simp) fun h₈ hz₈ hs₈=> ?_
 replace hz₈:IsZip h₈ z TI TO (rawInt h₅.objs.size):=hz₈
 have up:∀c o,c≠z->h₅.get? c=some o->h₈.get? c=some o:=fun c o c1 e=>hs₈.extBut _ _ c1 (hs₇.extBut _ _ c1 (Heap.get?_push_of_some _ e))
 have hT₈:IsPair h₈ h₅.objs.size x y:=hs₈.extBut _ _ (Nat.ne_of_gt hzlt) (hs₇.extBut _ _ (Nat.ne_of_gt hzlt) (Heap.get?_push_size _ rfl))
 rw [hsz] at hz₈ hT₈
 refine wpAny_pure ⟨_,rfl,?_⟩
 show Q (.ref h₅.objs.size) _
 rw [hsz]
 exact hQ h₈ hz₈ (up _ _ D.TOz hTO₅) (h1₅.at fun o e=>up _ o D.i1z e) (h2₅.at fun o e=>up _ o D.i2z e) hT₈ fun c o c1 c2 c3 c4 e=>up c o c1 (hk₅ c o c1 c2 c3 c4 e)
theorem j0X {b1 b2:Bool}{z TI TO i1 i2 l1 l2:Addr}{k:Nat}{xs ys:Array Value}{a b:Value}{Q:Fin->Shared->Prop}(hh:A.handled=none)(D:ZipApart z TI TO i1 i2 l1 l2)
  (hz:IsZip s.heap z TI TO .none) (hTI:IsPair s.heap TI (.ref i1) (.ref i2)) (hTO:IsPair s.heap TO a b)
  (h1:SqIt b1 s.heap i1 l1 k) (h2:SqIt b2 s.heap i2 l2 k) (hl1:SqOf b1 s.heap l1 xs) (hl2:SqOf b2 s.heap l2 ys) (hend:xs[k]? =none\/ys[k]? =none)
  (hE:∀h' e,(∀c o,c≠z->c≠TO->c≠i1->c≠i2->s.heap.get? c=some o->h'.get? c=some o)->(∃o,h'.get? e=some o/\o.cls=.type "StopIteration")->E (.ref e) {s with heap:=h'}):
  wpAny (model prog w) A (Builtin.«zip.__next__» ⟨[.ref z],[]⟩) Q E s:=by
 refine wpAny_bind (m:=field (.ref z) 2) (wpAny_field hz rfl (x:=.bool false) rfl ?_)
 refine wpAny_bind (m:=field (.ref z) 3) (wpAny_field hz rfl (x:=.ref TI) rfl ?_)
 refine wpAny_bind (wpAny_seqItems hTI rfl ?_)
 refine wpAny_bind (m:=Builtin.SmallTypes.ownedTupleIsFree (.ref z)) ?_
 refine wpAny_bind (wpAny_field hz rfl (x:=.none) rfl (wpAny_pure ?_))
 refine wpAny_bind (wpAny_rule ?_)
 refine wpAny_bind (wpAny_field hz rfl (x:=.ref TO) rfl ?_)
 refine wpAny_bind (wpAny_setField_rec hz (by exact Nat.le_add_left _ _) fun h₁ hz₁ hs₁=> ?_)
 replace hz₁:IsZip h₁ z TI TO .ellipsis:=hz₁
 refine wpAny_bind ?_
 have k1:∀{c o},c≠z->s.heap.get? c=some o->h₁.get? c=some o:=fun c e=>hs₁.extBut _ _ c e
 refine wpAny_bind (wpAny_bind (wpAny_onRaise ?_))
 cases hx:xs[k]? with
 | none=>
  refine wpAny_bind (m:=Builtin.SmallTypes.nextOf (.ref i1)) (ye hh (h1.at fun o e=>k1 D.i1z e) (hl1.at fun o e=>k1 D.l1z e) hx fun h₂ e hs₂ he=> ?_)
  obtain ⟨oe,hoe,hce⟩:=he
  have hz₂:IsZip h₂ z TI TO .ellipsis:=hs₂ _ _ D.i1z.symm hz₁
  have hez:e≠z:=fun x=>by cases x;replace hoe:=(hz₂ ..).symm.trans hoe;injection hoe with hoe;subst hoe;simp at hce
  exact wpAny_setField_rec hz₂ (by exact Nat.le_add_left _ _) fun h₃ _ hs₃=>hE h₃ e (fun c o c1 _ c3 _ x=>hs₃.extBut _ _ c1 (hs₂ _ _ c3 (k1 c1 x))) ⟨oe,hs₃.extBut _ _ hez hoe,hce⟩
 | some x=>
  have hy:ys[k]? =none:=by rcases hend with h| h;rw [hx] at h;cases h;exact h
  refine wpAny_bind (m:=Builtin.SmallTypes.nextOf (.ref i1)) (Ji (h1.at fun o e=>k1 D.i1z e) (hl1.at fun o e=>k1 D.l1z e) hx fun h₂ h1₂ hs₂=>wpAny_pure ?_)
  have k2:∀{c o},c≠i1->h₁.get? c=some o->h₂.get? c=some o:=fun c e=>hs₂.extBut _ _ c e
  have hTO₂:IsPair h₂ TO a b:=k2 D.TOi1 (k1 D.TOz hTO)
  refine wpAny_bind (wpAny_seqItems hTO₂ rfl ?_)
  refine wpAny_bind (wpAny_updateSeq_pair hTO₂ fun h₃ hTO₃ hs₃=> ?_)
  have k3:∀{c o},c≠TO->h₂.get? c=some o->h₃.get? c=some o:=fun c e=>hs₃.extBut _ _ c e
  refine wpAny_bind (wpAny_letGo (wpAny_pure ?_))
  refine wpAny_bind (wpAny_bind (wpAny_onRaise ?_))
  refine wpAny_bind (m:=Builtin.SmallTypes.nextOf (.ref i2)) (ye hh (h2.at fun o e=>k3 D.TOi2.symm (k2 D.i12.symm (k1 D.i2z e))) (hl2.at fun o e=>k3 D.l2TO (k2 D.l2i1 (k1 D.l2z e))) hy fun h₄ e hs₄ he=> ?_)
  obtain ⟨oe,hoe,hce⟩:=he
  have hz₄:IsZip h₄ z TI TO .ellipsis:=hs₄ _ _ D.i2z.symm (k3 D.TOz.symm (k2 D.i1z.symm hz₁))
  have hez:e≠z:=fun x=>by subst x;rw [hz₄] at hoe;cases hoe;simp at hce
  exact wpAny_setField_rec hz₄ (by simp) fun h₅ _ hs₅=>hE h₅ e (fun c o c1 c2 c3 c4 x=>hs₅.extBut _ _ c1 (hs₄ _ _ c4 (k3 c2 (k2 c3 (k1 c1 x))))) ⟨oe,hs₅.extBut _ _ hez hoe,hce⟩
theorem Y3 {b1 b2:Bool}{z TI TO i1 i2 l1 l2:Addr}{k:Nat}{xs ys:Array Value}{x y a b:Value}{Q:Option Value->Shared->Prop}(D:ZipApart z TI TO i1 i2 l1 l2)
  (hz:IsZip s.heap z TI TO .none) (hTI:IsPair s.heap TI (.ref i1) (.ref i2)) (hTO:IsPair s.heap TO a b)
  (h1:SqIt b1 s.heap i1 l1 k) (h2:SqIt b2 s.heap i2 l2 k) (hl1:SqOf b1 s.heap l1 xs) (hl2:SqOf b2 s.heap l2 ys) (hx:xs[k]? =some x) (hy:ys[k]? =some y)
  (hQ:∀h',IsZip h' z TI TO (rawInt s.heap.objs.size)->IsPair h' TO x y->SqIt b1 h' i1 l1 (k+1)->SqIt b2 h' i2 l2 (k+1)->IsPair h' s.heap.objs.size x y->
   (∀c o,c≠z->c≠TO->c≠i1->c≠i2->s.heap.get? c=some o->h'.get? c=some o)->Q (some (.ref s.heap.objs.size)) {s with heap:=h'}):wpAny (model prog w) A (pyNext (.ref z)) Q E s:=by
 have hT:s.TypeIs (.ref z) "zip":=⟨_,hz,rfl⟩
 exact wpAny_bind (wpAny_attempt (wpAny_callSpecial?_slot (name:=Str.ofString "__next__") hT F.slot_zip_next
  (wpAny_call_entry F.slot_zip_next hT F.entry_zip_next (Wz D hz hTI hTO h1 h2 hl1 hl2 hx hy fun h' a1 a2 a3 a4 a5 a6=>wpAny_pure (hQ h' a1 a2 a3 a4 a5 a6)) (F.args_zip_next_1 _))))
theorem Yy {b1 b2:Bool}{z TI TO i1 i2 l1 l2:Addr}{k:Nat}{xs ys:Array Value}{a b:Value}{Q:Option Value->Shared->Prop}(hh:A.handled=none)(D:ZipApart z TI TO i1 i2 l1 l2)
  (hz:IsZip s.heap z TI TO .none) (hTI:IsPair s.heap TI (.ref i1) (.ref i2)) (hTO:IsPair s.heap TO a b)
  (h1:SqIt b1 s.heap i1 l1 k) (h2:SqIt b2 s.heap i2 l2 k) (hl1:SqOf b1 s.heap l1 xs) (hl2:SqOf b2 s.heap l2 ys) (hend:xs[k]? =none\/ys[k]? =none)
  (hQ:∀h',(∀c o,c≠z->c≠TO->c≠i1->c≠i2->s.heap.get? c=some o->h'.get? c=some o)->Q none {s with heap:=h'}):wpAny (model prog w) A (pyNext (.ref z)) Q E s:=by
 have hT:s.TypeIs (.ref z) "zip":=⟨_,hz,rfl⟩
 refine wpAny_bind (wpAny_attempt (wpAny_callSpecial?_slot (name:=Str.ofString "__next__") hT F.slot_zip_next
  (wpAny_call_entry F.slot_zip_next hT F.entry_zip_next (j0X hh D hz hTI hTO h1 h2 hl1 hl2 hend fun h' e hk he=> ?_) (F.args_zip_next_1 _))))
 obtain ⟨o,ho,hc⟩:=he
 exact wpAny_bind (wpAny_isInstance (T:="StopIteration") (b:=true) ⟨o,ho,hc⟩ isSubtype_stop (wpAny_pure (hQ _ hk)))
noncomputable def Yz (b:Bool)(l:Addr):Obj:={cls:=.type (if b then "list_iterator" else "tuple_iterator"),data:=.fields #[.ref l,.int 0 0]}
theorem Y4 {b:Bool}{l:Addr}{xs:Array Value}{Q:Value->Shared->Prop}(hl:SqOf b s.heap l xs)(hQ:Q (.ref s.heap.objs.size) {s with heap:=s.heap.push (Yz b l)}):wpAny (model prog w) A (pyIter (.ref l)) Q E s:=by
 cases b with
 | true=>exact wpAny_pyIter_list hl hQ
 | false=>exact wpAny_pyIter_tuple hl hQ
theorem YT {b:Bool}{h:Heap}{l i:Addr}(g:h.get? i=some (Yz b l)):SqIt b h i l 0:=by
 cases b with
 | true=>exact ⟨_,g,rfl,rfl⟩
 | false=>exact ⟨_,g,rfl,rfl⟩
end
noncomputable abbrev zH1 (h:Heap)(b1:Bool)(l1:Addr):Heap:=h.push (Yz b1 l1)
noncomputable abbrev zH2 (h:Heap)(b1 b2:Bool)(l1 l2:Addr):Heap:=(zH1 h b1 l1).push (Yz b2 l2)
noncomputable abbrev zH3 (h:Heap)(b1 b2:Bool)(l1 l2:Addr):Heap:=(zH2 h b1 b2 l1 l2).push {cls:=.type "tuple",data:=.seq #[.ref h.objs.size,.ref (zH1 h b1 l1).objs.size]}
noncomputable abbrev zH4 (h:Heap)(b1 b2:Bool)(l1 l2:Addr):Heap:=(zH3 h b1 b2 l1 l2).push {cls:=.type "tuple",data:=.seq #[.none,.none]}
noncomputable abbrev zH5 (h:Heap)(b1 b2:Bool)(l1 l2:Addr):Heap:=(zH4 h b1 b2 l1 l2).push {cls:=.type "zip",data:=.fields #[.none,.bool false,.bool false,.ref (zH2 h b1 b2 l1 l2).objs.size,.ref (zH3 h b1 b2 l1 l2).objs.size]}
theorem SqOf.push {b:Bool}{h:Heap}{l:Addr}{xs:Array Value}(x:SqOf b h l xs)(o:Obj):SqOf b (h.push o) l xs:=x.at fun _ e=>Heap.get?_push_of_some _ e
theorem SqOf.lt {b:Bool}{h:Heap}{l:Addr}{xs:Array Value}(x:SqOf b h l xs):l<h.objs.size:=by
 cases b with
 | true=>obtain ⟨o,g,_⟩:=x;exact Heap.lt_size g
 | false=>obtain ⟨o,g,_⟩:=x;exact Heap.lt_size g
theorem wv (b1 b2:Bool)(l1 l2:Addr)(xs ys:Array Value):
  Meets (Builtin.«zip.__new__» ⟨[.type "zip",.ref l1,.ref l2],[]⟩) (fun _ R s=>SqOf b1 s.heap l1 xs/\SqOf b2 s.heap l2 ys/\
   R (.ok (.ret (.ref (zH4 s.heap b1 b2 l1 l2).objs.size))) {s with heap:=zH5 s.heap b1 b2 l1 l2}):=
 .of_wp fun prog w A R s h=>by
  obtain ⟨hp,g,d,tk,os⟩:=s;obtain ⟨hl1,hl2,h⟩:=h
  have hsub:=sub_zip
  have hL2:SqOf b2 (Shared.heap ⟨hp.push (Yz b1 l1),g,d,tk,os⟩) l2 ys:=hl2.push _
  wp_walk using Y4 (hl1),Y4 hL2
  exact ⟨_,rfl,h⟩
section
variable {prog:Program} {w:World} {A:Around} {E:Value->Shared->Prop} {s:Shared}
theorem WG {b1 b2:Bool}{l1 l2:Addr}{xs ys:Array Value}{Q:Value->Shared->Prop}(hl1:SqOf b1 s.heap l1 xs)(hl2:SqOf b2 s.heap l2 ys)
  (h:∀h',IsZip h' (s.heap.objs.size+4) (s.heap.objs.size+2) (s.heap.objs.size+3) .none->IsPair h' (s.heap.objs.size+2) (.ref s.heap.objs.size) (.ref (s.heap.objs.size+1))->
   IsPair h' (s.heap.objs.size+3) .none .none->SqIt b1 h' s.heap.objs.size l1 0->SqIt b2 h' (s.heap.objs.size+1) l2 0->
   (∀c o,s.heap.get? c=some o->h'.get? c=some o)->Q (.ref (s.heap.objs.size+4)) {s with heap:=h'}):
  wpAny (model prog w) A (call (.type "zip") [.ref l1,.ref l2]) Q E s:=by
 refine callType_new F.called_zip (by decide) (F.typeCall_zip_2 _ _) (F.newCall_zip_2 _ _) (fun obj=>F.args_object_init_3 obj _ _) F.entry_zip_new
  (wv b1 b2 l1 l2 xs ys) ⟨hl1,hl2,?_⟩
 have z1:(zH1 s.heap b1 l1).objs.size=s.heap.objs.size+1:=Heap.size_push ..
 have z2:(zH2 s.heap b1 b2 l1 l2).objs.size=s.heap.objs.size+2:=by rw [Heap.size_push,z1]
 have z3:(zH3 s.heap b1 b2 l1 l2).objs.size=s.heap.objs.size+3:=by rw [Heap.size_push,z2]
 have z4:(zH4 s.heap b1 b2 l1 l2).objs.size=s.heap.objs.size+4:=by rw [Heap.size_push,z3]
 have g5:(zH5 s.heap b1 b2 l1 l2).get? (zH4 s.heap b1 b2 l1 l2).objs.size=some _:=Heap.get?_push_size _ rfl
 have g4:(zH5 s.heap b1 b2 l1 l2).get? (zH3 s.heap b1 b2 l1 l2).objs.size=some _:=Heap.get?_push_of_some _ (Heap.get?_push_size _ rfl)
 have g3:(zH5 s.heap b1 b2 l1 l2).get? (zH2 s.heap b1 b2 l1 l2).objs.size=some _:=Heap.get?_push_of_some _ (Heap.get?_push_of_some _ (Heap.get?_push_size _ rfl))
 have g2:(zH5 s.heap b1 b2 l1 l2).get? (zH1 s.heap b1 l1).objs.size=some (Yz b2 l2):=Heap.get?_push_of_some _ (Heap.get?_push_of_some _ (Heap.get?_push_of_some _ (Heap.get?_push_size _ rfl)))
 show _/\_
 rw [z2,z3,z4] at g5
 rw [z1,z2] at g3
 rw [z3] at g4
 rw [z1] at g2
 rw [z4]
 exact ⟨⟨_,g5,rfl⟩,h _ g5 g3 g4 (YT (Heap.get?_push_of_some _ (Heap.get?_push_of_some _ (Heap.get?_push_of_some _ (Heap.get?_push_of_some _ (Heap.get?_push_size _ rfl)))))) (YT g2) fun c o x=>
  Heap.get?_push_of_some _ (Heap.get?_push_of_some _ (Heap.get?_push_of_some _ (Heap.get?_push_of_some _ (Heap.get?_push_of_some _ x))))⟩
end
inductive SD where
 | lst (ds:List D)
 | tup (ds:List D)
 | ref (a:Addr) (ds:List D)
noncomputable def SD.d:SD->D
 | .lst ds=>.lst ds
 | .tup ds=>.tup ds
 | .ref a _=>.ref a
noncomputable def SD.ds:SD->List D
 | .lst ds=>ds
 | .tup ds=>ds
 | .ref _ ds=>ds
noncomputable def SD.isL:SD->Bool
 | .tup _=>false
 | _=>true
noncomputable def SD.inv:SD->Sto->Prop
 | .ref a ds,σ=>(a,O.lst ds)∈σ
 | _,_=>True
noncomputable def SD.Fz (sd:SD)(K:List Addr)(h:Heap)(l:Addr):Prop:=match sd with
 | .lst ds=>l∉K/\∃vs n,h.get? l=some (jk vs n)/\Vs K h ds vs
 | .tup ds=>l∉K/\∃vs n,h.get? l=some (yC vs n)/\Vs K h ds vs
 | .ref a _=>l=a
theorem SD.Fz.move {sd:SD}{K K':List Addr}{h h':Heap}{l:Addr}(x:sd.Fz K h l)(sy:Stay K h h')(hl:Less K K' h):sd.Fz K' h' l:=by
 cases sd with
 | lst ds=>obtain ⟨a,vs,n,g,r⟩:=x;exact ⟨hl.nin a g,vs,n,sy _ _ a g,Vs.move sy hl _ _ r⟩
 | tup ds=>obtain ⟨a,vs,n,g,r⟩:=x;exact ⟨hl.nin a g,vs,n,sy _ _ a g,Vs.move sy hl _ _ r⟩
 | ref a ds=>exact x
theorem SD.Fz.get {c:Cx}{A:Around}{fr:List Addr}{σ:Sto}{sd:SD}{h:Heap}{l:Addr}(x:sd.Fz (keys σ++fr) h l)(ok:Ok c A fr σ h)(inv:sd.inv σ):∃vs:List Value,SqOf sd.isL h l vs.toArray/\Vs (keys σ++fr) h sd.ds vs:=by
 cases sd with
 | lst ds=>obtain ⟨a,vs,n,g,r⟩:=x;exact ⟨vs,⟨_,g,rfl,n,rfl⟩,r⟩
 | tup ds=>obtain ⟨a,vs,n,g,r⟩:=x;exact ⟨vs,⟨_,g,rfl,n,rfl⟩,r⟩
 | ref a ds=>
  obtain ⟨vs,n,g,r⟩:=ok.sto _ inv
  obtain rfl:l=a:=x
  exact ⟨vs,⟨_,g,rfl,n,rfl⟩,r⟩
theorem SD.of_v {sd:SD}{K:List Addr}{h:Heap}{v:Value}(x:V K h sd.d v):∃l,v=.ref l/\sd.Fz K h l:=by
 cases sd with
 | lst ds=>simp only [SD.d] at x;obtain ⟨a,vs,n,rfl,hk,g,r⟩:=x;exact ⟨a,rfl,hk,vs,n,g,r⟩
 | tup ds=>simp only [SD.d] at x;obtain ⟨a,vs,n,rfl,hk,g,r⟩:=x;exact ⟨a,rfl,hk,vs,n,g,r⟩
 | ref a ds=>simp only [SD.d] at x;exact ⟨a,x,rfl⟩
section
variable {c:Cx} {A:Around} {fr:List Addr} {σ:Sto} {X:Addr->Sto->Prop} {env:Env} {m:Vars}
theorem ww {x y:Str}{px py tp:Pos}{k:Nat}{d1 d2:D}{v1 v2:Value}{T:Addr}{s:Shared}{F:List Addr}{Q:Unit->Shared->Prop}{E:Value->Shared->Prop}(hh:A.handled=none)(ok:Ok c A fr σ s.heap)(f:Fm env m fr (keys σ++fr) s.heap)(hT:IsPair s.heap T v1 v2)
  (hV1:V (keys σ++fr) s.heap d1 v1) (hV2:V (keys σ++fr) s.heap d2 v2) (hk1:env.kindOf x=some .local\/env.kindOf x=some .cell) (hk2:env.kindOf y=some .local\/env.kindOf y=some .cell)
  (hF:∀a,a∈Jw env x\/a∈Jw env y->a∈F)
  (h:∀h' tk,Fm env ((y,d2)::(x,d1)::m) fr (keys σ++fr) h'->Ok c A fr σ h'->Post F fr σ s {s with heap:=h',toks:=tk} σ->Q () {s with heap:=h',toks:=tk}):
  wpAny (model c.prog c.w) A (assign (.Tuple [.Name x px,.Name y py] k tp) env (.ref T)) Q E s:=by
 refine wpAny_assign_Tuple hh (items:= #[v1,v2]) ⟨_,hT,rfl,_,rfl⟩ rfl rfl fun h1 he1=> ?_
 have k1:=fun b o e=>he1 b o (Y2 e) e
 have p1:Post [] fr σ s {s with heap:=h1,toks:=s.toks} σ:=Post.keeps k1
 refine wpAny_bind (wpAny_holding (wpAny_assign_Name ?_))
 refine JD (F:=F) (s:={s with heap:=h1}) (ok.keeps k1) (Fm.move (s:=s) (s':={s with heap:=h1,toks:=s.toks}) f p1) (V.move p1.stay p1.less _ _ hV1) hk1 ⟨fun z=>hF _ (.inl (JE.1 z)),fun z cc e=>hF _ (.inl (JE.2 z cc e))⟩ fun h2 tk2 fm2 ok2 p2=> ?_
 refine wpAny_bind (wpAny_holding (wpAny_assign_Name ?_))
 refine JD (F:=F) (s:={s with heap:=h2,toks:=tk2}) ok2 fm2 (V.move p2.stay p2.less _ _ (V.move p1.stay p1.less _ _ hV2)) hk2 ⟨fun z=>hF _ (.inr (JE.1 z)),fun z cc e=>hF _ (.inr (JE.2 z cc e))⟩ fun h3 tk3 fm3 ok3 p3=> ?_
 exact wpAny_pure (h h3 tk3 fm3 ok3 (((p1.wide (by exact List.nil_subset _)).trans p2).trans p3))
theorem wx {h:Heap}{T:Addr}{a b:Value}(x:IsPair h T a b){o:Obj}(g:h.get? T=some o):∀es n,o.data≠.dict es n:=fun es n e=>by replace g:=(x ..).symm.trans g;obtain rfl:=Option.some.inj g;contradiction
theorem zip_nd {h:Heap}{z TI TO:Addr}{f0:Value}(x:IsZip h z TI TO f0){o:Obj}(g:h.get? z=some o):∀es n,o.data≠.dict es n:=fun es n e=>by replace g:=(x ..).symm.trans g;obtain rfl:=Option.some.inj g;contradiction
theorem wy {b:Bool}{h:Heap}{i l:Addr}{k:Nat}(x:SqIt b h i l k){o:Obj}(g:h.get? i=some o):∀es n,o.data≠.dict es n:=fun es n e=>by
 obtain ⟨o',vs,g',d'⟩:=x.there
 replace g:=(g' ..).symm.trans g;obtain rfl:=Option.some.inj g;replace e:=(d' ..).symm.trans e;contradiction
noncomputable def ZipSt (sd1 sd2:SD)(z TI TO i1 i2 l1 l2:Addr)(f0:Value)(i:Nat)(K:List Addr)(h:Heap):Prop:=
 IsZip h z TI TO f0/\IsPair h TI (.ref i1) (.ref i2)/\(∃a b,IsPair h TO a b)/\SqIt sd1.isL h i1 l1 i/\SqIt sd2.isL h i2 l2 i/\sd1.Fz K h l1/\sd2.Fz K h l2
theorem ZipSt.nd {sd1 sd2:SD}{z TI TO i1 i2 l1 l2:Addr}{f0:Value}{i:Nat}{K:List Addr}{h:Heap}(x:ZipSt sd1 sd2 z TI TO i1 i2 l1 l2 f0 i K h):∀b∈[z,TI,TO,i1,i2],∀o,h.get? b=some o->∀es n,o.data≠.dict es n:=fun b hb o g=>by
 obtain ⟨a1,a2,⟨_,_,a3⟩,a4,a5,_⟩:=x
 simp only [List.mem_cons,List.not_mem_nil,or_false] at hb
 rcases hb with rfl| rfl| rfl| rfl| rfl
 ·exact zip_nd a1 g
 ·exact wx a2 g
 ·exact wx a3 g
 ·exact wy a4 g
 ·exact wy a5 g
theorem ZipSt.live {sd1 sd2:SD}{z TI TO i1 i2 l1 l2:Addr}{f0:Value}{i:Nat}{K:List Addr}{h:Heap}(x:ZipSt sd1 sd2 z TI TO i1 i2 l1 l2 f0 i K h):∀b∈[z,TI,TO,i1,i2],∃o,h.get? b=some o:=fun b hb=>by
 obtain ⟨a1,a2,⟨_,_,a3⟩,a4,a5,_⟩:=x
 simp only [List.mem_cons,List.not_mem_nil,or_false] at hb
 rcases hb with rfl| rfl| rfl| rfl| rfl
 ·exact ⟨_,a1⟩
 ·exact ⟨_,a2⟩
 ·exact ⟨_,a3⟩
 ·obtain ⟨o,_,e,_⟩:=a4.there;exact ⟨o,e⟩
 ·obtain ⟨o,_,e,_⟩:=a5.there;exact ⟨o,e⟩
theorem ZipSt.move {sd1 sd2:SD}{z TI TO i1 i2 l1 l2:Addr}{f0:Value}{i:Nat}{K K':List Addr}{h h':Heap}(x:ZipSt sd1 sd2 z TI TO i1 i2 l1 l2 f0 i K h)(sy:Stay K h h')(hw:∀b∈[z,TI,TO,i1,i2],∀o,h.get? b=some o->h'.get? b=some o)(hl:Less K K' h):ZipSt sd1 sd2 z TI TO i1 i2 l1 l2 f0 i K' h':=by
 obtain ⟨a1,a2,⟨p,q,a3⟩,a4,a5,a6,a7⟩:=x
 exact ⟨hw z (by exact .head _) _ a1,hw TI (by simp) _ a2,⟨p,q,hw TO (by simp) _ a3⟩,a4.at fun o e=>hw i1 (by simp) o e,a5.at fun o e=>hw i2 (by simp) o e,a6.move sy hl,a7.move sy hl⟩
theorem Src.zip {x y:Str}{px py tp:Pos}{kt:Nat}{sd1 sd2:SD}{z TI TO i1 i2 l1 l2:Addr}(hh:A.handled=none)(D:ZipApart z TI TO i1 i2 l1 l2):
  Src c A (.Tuple [.Name x px,.Name y py] kt tp) z [z,TI,TO,i1,i2] ((sd1.ds.zip sd2.ds).map fun p=>[(y,p.2),(x,p.1)]) (fun σ'=>sd1.inv σ'/\sd2.inv σ') (ZipSt sd1 sd2 z TI TO i1 i2 l1 l2 .none)
   (fun i K h v=>∃T v1 v2 d1 d2,v=.ref T/\T∉[z,TI,TO,i1,i2]/\ZipSt sd1 sd2 z TI TO i1 i2 l1 l2 (rawInt T) (i+1) K h/\IsPair h T v1 v2/\sd1.ds[i]? =some d1/\sd2.ds[i]? =some d2/\V K h d1 v1/\V K h d2 v2) where
 nodict:=fun i K h st=>st.nd
 midnd:=fun i K h v st=>by obtain ⟨T,v1,v2,d1,d2,_,_,st,_⟩:=st;exact st.nd
 move:=fun i K K' h h' st sy hw hl=>st.move sy hw hl
 next:=fun i σ fr s Q E hi ok st inv hQ=>by
  obtain ⟨a1,a2,⟨p,q,a3⟩,a4,a5,a6,a7⟩:=id st
  obtain ⟨vs1,sq1,hv1⟩:=a6.get ok inv.1
  obtain ⟨vs2,sq2,hv2⟩:=a7.get ok inv.2
  simp only [List.length_map,List.length_zip] at hi
  have hi1:i<vs1.length:=by rw [hv1.length];exact z113 hi
  have hi2:i<vs2.length:=by rw [hv2.length];exact z112 hi
  refine Y3 D a1 a2 a3 a4 a5 sq1 sq2 (x:=vs1[i]) (y:=vs2[i]) (by simp) (by simp) fun h' b1 b2 b3 b4 b5 hk=> ?_
  obtain ⟨d1,e1,w1⟩:=hv1.get (i:=i) (v:=vs1[i]) (by simp)
  obtain ⟨d2,e2,w2⟩:=hv2.get (i:=i) (v:=vs2[i]) (by simp)
  have sy:Stay (keys σ++([z,TI,TO,i1,i2]++fr)) s.heap h':=fun b o nb e=>hk b o (fun q=>nb (by rw [q];simp)) (fun q=>nb (by rw [q];simp)) (fun q=>nb (by rw [q];simp)) (fun q=>nb (by rw [q];simp)) e
  have ls:Less (keys σ++([z,TI,TO,i1,i2]++fr)) (keys σ++([z,TI,TO,i1,i2]++fr)) s.heap:=fun a ha=>.inl ha
  have hTI':IsPair h' TI (.ref i1) (.ref i2):=hk _ _ D.TIz D.TITO D.TIi1 D.TIi2 a2
  have st':ZipSt sd1 sd2 z TI TO i1 i2 l1 l2 (rawInt s.heap.objs.size) (i+1) (keys σ++([z,TI,TO,i1,i2]++fr)) h':=⟨b1,hTI',⟨_,_,b2⟩,b3,b4,a6.move sy ls,a7.move sy ls⟩
  refine hQ _ h' s.toks ⟨s.heap.objs.size,_,_,d1,d2,rfl,fun hm=> ?_,st',b5,e1,e2,V.move sy ls _ _ w1,V.move sy ls _ _ w2⟩ ⟨fun b o nb e=>hk b o (fun q=>nb (by rw [q];simp)) (fun q=>nb (by rw [q];simp)) (fun q=>nb (by rw [q];simp)) (fun q=>nb (by rw [q];simp)) e,st'.live⟩
  obtain ⟨o,g⟩:=st.live _ hm
  exact Y2 g rfl
 put:=fun i σ fr F env m v s Q E yy hy mid ok fm hi hkind hF hnd hQ=>by
  obtain ⟨T,v1,v2,d1,d2,rfl,hT,st,hp,e1,e2,w1,w2⟩:=mid
  have hy':yy=[(y,d2),(x,d1)]:=by
   rw [List.getElem?_map,(List.getElem?_zip_eq_some (z:=(d1,d2))).mpr ⟨e1,e2⟩] at hy
   exact (Option.some.inj hy).symm
  subst hy'
  obtain ⟨a1,a2,⟨p,q,a3⟩,a4,a5,a6,a7⟩:=id st
  refine wpAny_letOwnedTupleGo_zip a1 fun h1 z1 sb1=> ?_
  have k1:∀b o,b≠z->s.heap.get? b=some o->h1.get? b=some o:=fun b o nb e=>(sb1.2 b nb).trans e
  have ow:Ow [z,TI,TO,i1,i2] s.heap h1:=⟨fun b o nb e=>k1 b o (fun q=>nb (by rw [q];simp)) e,fun b hb=>by
   by_cases q:b=z
   ·rw [q];exact ⟨_,z1⟩
   ·obtain ⟨o,g⟩:=st.live b hb;exact ⟨o,k1 b o q g⟩⟩
  have ok1:Ok c A ([z,TI,TO,i1,i2]++fr) σ h1:=ok.ow hnd ow
  have ndw:=ok.nd
  rw [List.nodup_append,List.nodup_append] at ndw
  have nfw:∀a∈fr,a∉[z,TI,TO,i1,i2]:=fun a ha hw=>ndw.2.1.2.2 a hw a ha rfl
  have fm1:=fm.ow (fun b hb=>List.mem_append_right _ (List.mem_append_left _ hb)) ⟨nfw _ hi.1,fun q hq=>nfw _ (hi.2 q hq)⟩ ow
  have sy1:Stay (keys σ++([z,TI,TO,i1,i2]++fr)) s.heap h1:=fun b o nb e=>k1 b o (fun q=>nb (by rw [q];simp)) e
  have ls:Less (keys σ++([z,TI,TO,i1,i2]++fr)) (keys σ++([z,TI,TO,i1,i2]++fr)) s.heap:=fun a ha=>.inl ha
  have hTz:T≠z:=fun q=>hT (by rw [q];simp)
  have st1:ZipSt sd1 sd2 z TI TO i1 i2 l1 l2 .none (i+1) (keys σ++([z,TI,TO,i1,i2]++fr)) h1:=
   ⟨z1,k1 _ _ D.TIz a2,⟨p,q,k1 _ _ D.TOz a3⟩,a4.at fun o e=>k1 _ o D.i1z e,a5.at fun o e=>k1 _ o D.i2z e,a6.move sy1 ls,a7.move sy1 ls⟩
  have tin:∀a,a∈Jw env x\/a∈Jw env y->a∈F:=fun a ha=>by
   rcases ha with ha| ha
   ·rcases jS ha with z| ⟨kk,e⟩
    ·rw [z];exact hF.1
    ·exact hF.2 (x,d1) (by simp) kk _ e
   ·rcases jS ha with z| ⟨kk,e⟩
    ·rw [z];exact hF.1
    ·exact hF.2 (y,d2) (by simp) kk _ e
  have tfr:∀a,a∈Jw env x\/a∈Jw env y->a∈fr:=fun a ha=>by
   rcases ha with ha| ha
   ·rcases jS ha with z| ⟨kk,e⟩
    ·rw [z];exact hi.1
    ·exact hi.2 _ (mem_of_lookup e)
   ·rcases jS ha with z| ⟨kk,e⟩
    ·rw [z];exact hi.1
    ·exact hi.2 _ (mem_of_lookup e)
  refine ww (F:=Jw env x++Jw env y) (s:={s with heap:=h1}) hh ok1 fm1 (k1 _ _ hTz hp) (V.move sy1 ls _ _ w1) (V.move sy1 ls _ _ w2) (hkind (x,d1) (by simp)) (hkind (y,d2) (by simp)) (fun a ha=>by simpa [List.mem_append] using ha) fun h2 tk2 fm2 ok2 p2=> ?_
  have kw:∀b∈[z,TI,TO,i1,i2],∀o,h1.get? b=some o->h2.get? b=some o:=fun b hb o g=>by
   obtain ⟨sl,e1,r1⟩:=p2.slots b o (List.mem_append_left _ hb) (fun q=>nfw b (tfr b (by simpa [List.mem_append] using q)) hb) g
   have:=r1 (st1.nd b hb o g)
   subst this;exact e1
  refine hQ h2 tk2 (st1.move p2.stay kw p2.less) fm2 ok2 ?_
  have pa:Post ([z,TI,TO,i1,i2]++F) ([z,TI,TO,i1,i2]++fr) σ s {s with heap:=h1,toks:=s.toks} σ:=Post.ow ow
  exact pa.trans (p2.wide fun a ha=>List.mem_append_right _ (tin a (by simpa [List.mem_append] using ha)))
 done:=fun σ fr s Q E ok st inv hQ=>by
  obtain ⟨a1,a2,⟨p,q,a3⟩,a4,a5,a6,a7⟩:=id st
  obtain ⟨vs1,sq1,hv1⟩:=a6.get ok inv.1
  obtain ⟨vs2,sq2,hv2⟩:=a7.get ok inv.2
  have hend:vs1.toArray[((sd1.ds.zip sd2.ds).map fun p=>[(y,p.2),(x,p.1)]).length]? =none\/vs2.toArray[((sd1.ds.zip sd2.ds).map fun p=>[(y,p.2),(x,p.1)]).length]? =none:=by
   simp only [List.length_map,List.length_zip,List.getElem?_toArray,List.getElem?_eq_none_iff,hv1.length,hv2.length]
   exact z603
  exact Yy hh D a1 a2 a3 a4 a5 sq1 sq2 hend fun h' hk=>hQ h' s.toks fun b o nb e=>hk b o (fun q=>nb (by rw [q];simp)) (fun q=>nb (by rw [q];simp)) (fun q=>nb (by rw [q];simp)) (fun q=>nb (by rw [q];simp)) e
 self:=fun i K s Q E st hQ=>wpAny_pyIter_zip st.1 hQ
theorem WIt.zip (g:c.Good)(hh:A.handled=none){f:Str}{fp pos px py tp:Pos}{k:Nat}{e1 e2:Expr}{x y:Str}{Q:List Vars->(Sto->Prop)->Sto->Prop}(hk:env.kindOf f=some .globalImplicit)(hg:c.mg f=none)(hb:c.mb f=some (.type "zip"))
  (h:WE c A fr env m σ e1 (fun d1 σ1=>WE c A fr env m σ1 e2 (fun d2 σ2=>∃sd1 sd2:SD,d1=sd1.d/\d2=sd2.d/\sd1.inv σ2/\sd2.inv σ2/\Q ((sd1.ds.zip sd2.ds).map fun p=>[(y,p.2),(x,p.1)]) (fun σ'=>sd1.inv σ'/\sd2.inv σ') σ2) X) X) (hp:jc [e1,e2]=true:=by rfl) (hdb:(f==("__debug__":Str))=false:=by decide):
  WIt c A fr env m σ (.Call (.Name f fp) [e1,e2] [] pos) (.Tuple [.Name x px,.Name y py] k tp) Q X:=by
 refine WIt.callT g hk hg hb (WA.cons (h.mono (fun d1 σ1 q=>WA.cons (q.mono (fun d2 σ2 q=>WA.nil ?_) fun _ _ y=>y) (Jm (env:=env) hp).2) fun _ _ y=>y) hp) hp hdb
 intro s vals E ok fm hv
 obtain ⟨sd1,sd2,rfl,rfl,inv1,inv2,q⟩:=q
 obtain ⟨v1,r,rfl,hv1,hr⟩:=hv
 obtain ⟨v2,r,rfl,hv2,hr⟩:=hr
 subst hr
 obtain ⟨l1,rfl,z1⟩:=SD.of_v hv1
 obtain ⟨l2,rfl,z2⟩:=SD.of_v hv2
 obtain ⟨vs1,sq1,_⟩:=z1.get ok inv1
 obtain ⟨vs2,sq2,_⟩:=z2.get ok inv2
 refine WG sq1 sq2 fun h' hz hTI hTO hi1 hi2 hkp=> ?_
 refine wpAny_pyIter_zip hz ?_
 have D:=zipApart_new sq1.lt sq2.lt
 have fresh:∀a∈[s.heap.objs.size+4,s.heap.objs.size+2,s.heap.objs.size+3,s.heap.objs.size,s.heap.objs.size+1],s.heap.get? a=none:=fun a ha=>by
  simp only [List.mem_cons,List.not_mem_nil,or_false] at ha
  refine jg ?_
  rcases ha with rfl| rfl| rfl| rfl| rfl
  ·exact Nat.le_add_right ..
  ·exact Nat.le_add_right ..
  ·exact Nat.le_add_right ..
  ·exact Nat.le_refl _
  ·exact Nat.le_add_right ..
 have ls:=jC (σ:=σ2) (fr:=fr) fresh
 have st:ZipSt sd1 sd2 (s.heap.objs.size+4) (s.heap.objs.size+2) (s.heap.objs.size+3) s.heap.objs.size (s.heap.objs.size+1) l1 l2 .none 0 (keys σ2++([s.heap.objs.size+4,s.heap.objs.size+2,s.heap.objs.size+3,s.heap.objs.size,s.heap.objs.size+1]++fr)) h':=
  ⟨hz,hTI,⟨_,_,hTO⟩,hi1,hi2,z1.move (fun b o _ e=>hkp b o e) ls,z2.move (fun b o _ e=>hkp b o e) ls⟩
 refine ⟨_,_,_,_,_,_,rfl,⟨h',s.toks,rfl⟩,hkp,fresh,st.live,?_,Src.zip hh D,st,⟨inv1,inv2⟩,q⟩
 simp only [List.nodup_cons,List.mem_cons,List.not_mem_nil,or_false,not_or,List.nodup_nil,and_true,not_false_eq_true]
 exact ⟨⟨D.TIz.symm,D.TOz.symm,D.i1z.symm,D.i2z.symm⟩,⟨D.TITO,D.TIi1,D.TIi2⟩,⟨D.TOi1,D.TOi2⟩,D.i12⟩
end
theorem V.ofInt {K:List Addr}{h:Heap}{i:Int}{t:Tok}:V K h (.int i) (.int i t):=by unfold V;exact ⟨t,rfl⟩
theorem V.ofBool {K:List Addr}{h:Heap}{b:Bool}:V K h (.bool b) (.bool b):=by unfold V;rfl
theorem V.ofStr {K:List Addr}{h:Heap}{x:Str}{t:Tok}:V K h (.str x) (.str x t):=by unfold V;exact ⟨t,rfl⟩
theorem V.toInt {K:List Addr}{h:Heap}{i:Int}{v:Value}(x:V K h (.int i) v):∃t,v=.int i t:=by unfold V at x;exact x
theorem V.toBool {K:List Addr}{h:Heap}{b:Bool}{v:Value}(x:V K h (.bool b) v):v=.bool b:=by unfold V at x;exact x
theorem V.toStr {K:List Addr}{h:Heap}{x:Str}{v:Value}(y:V K h (.str x) v):∃t,v=.str x t:=by unfold V at y;exact y
theorem V.toNone {K:List Addr}{h:Heap}{v:Value}(y:V K h .none v):v=.none:=by unfold V at y;exact y
section
variable {c:Cx} {A:Around} {fr:List Addr} {σ:Sto} {X:Addr->Sto->Prop} {env:Env} {m:Vars} {Q:D->Sto->Prop} {a b:Int}
theorem WB.add (h:Q (.int (a+b)) σ):WB c A fr σ (binaryOp .Add) (.int a) (.int b) Q X:=fun v1 v2 s ok x1 x2=>by
 obtain ⟨t,rfl⟩:=x1.toInt;obtain ⟨u,rfl⟩:=x2.toInt
 exact add_int ⟨_,σ,Post.tok ..,ok,V.ofInt,h⟩
theorem WB.sub (h:Q (.int (a-b)) σ):WB c A fr σ (binaryOp .Sub) (.int a) (.int b) Q X:=fun v1 v2 s ok x1 x2=>by
 obtain ⟨t,rfl⟩:=x1.toInt;obtain ⟨u,rfl⟩:=x2.toInt
 exact sub_int ⟨_,σ,Post.tok ..,ok,V.ofInt,h⟩
theorem WB.mul (hm:IntMulOk a b)(h:Q (.int (a*b)) σ):WB c A fr σ (binaryOp .Mult) (.int a) (.int b) Q X:=fun v1 v2 s ok x1 x2=>by
 obtain ⟨t,rfl⟩:=x1.toInt;obtain ⟨u,rfl⟩:=x2.toInt
 exact PyProof.Rows.mul_int ⟨_,σ,Post.tok ..,ok,V.ofInt,h⟩ hm
theorem UQ {n:Nat}(h0:n≠0)(h:n<2^64):n.log2<9000:=by
 have:n.log2<64:=(Nat.log2_lt h0).mpr h
 exact z604 this
theorem WB.fdiv (hb:b≠0)(hs:b.natAbs<2^64)(h:Q (.int (a.fdiv b)) σ):WB c A fr σ (binaryOp .FloorDiv) (.int a) (.int b) Q X:=fun v1 v2 s ok x1 x2=>by
 obtain ⟨t,rfl⟩:=x1.toInt;obtain ⟨u,rfl⟩:=x2.toInt
 exact floordiv_int hb ⟨_,σ,Post.tok ..,ok,V.ofInt,h⟩ (.inl (PyProof.noPylong_of_log2 (UQ (z605 hb) hs)))
theorem WB.mod (hb:b≠0)(hs:b.natAbs<2^64)(h:Q (.int (a.fmod b)) σ):WB c A fr σ (binaryOp .Mod) (.int a) (.int b) Q X:=fun v1 v2 s ok x1 x2=>by
 obtain ⟨t,rfl⟩:=x1.toInt;obtain ⟨u,rfl⟩:=x2.toInt
 exact PyProof.Rows.mod_int hb ⟨_,σ,Post.tok ..,ok,V.ofInt,h⟩
theorem WB.lt (h:Q (.bool (decide (a<b))) σ):WB c A fr σ (compareOp .Lt) (.int a) (.int b) Q X:=fun v1 v2 s ok x1 x2=>by
 obtain ⟨t,rfl⟩:=x1.toInt;obtain ⟨u,rfl⟩:=x2.toInt
 exact PyProof.Rows.lt_int ⟨_,σ,Post.refl ..,ok,V.ofBool,h⟩
theorem WB.le (h:Q (.bool (decide (a<=b))) σ):WB c A fr σ (compareOp .LtE) (.int a) (.int b) Q X:=fun v1 v2 s ok x1 x2=>by
 obtain ⟨t,rfl⟩:=x1.toInt;obtain ⟨u,rfl⟩:=x2.toInt
 exact PyProof.Rows.le_int ⟨_,σ,Post.refl ..,ok,V.ofBool,h⟩
theorem WB.gt (h:Q (.bool (decide (b<a))) σ):WB c A fr σ (compareOp .Gt) (.int a) (.int b) Q X:=fun v1 v2 s ok x1 x2=>by
 obtain ⟨t,rfl⟩:=x1.toInt;obtain ⟨u,rfl⟩:=x2.toInt
 exact PyProof.Rows.gt_int ⟨_,σ,Post.refl ..,ok,V.ofBool,h⟩
theorem WB.ge (h:Q (.bool (decide (b<=a))) σ):WB c A fr σ (compareOp .GtE) (.int a) (.int b) Q X:=fun v1 v2 s ok x1 x2=>by
 obtain ⟨t,rfl⟩:=x1.toInt;obtain ⟨u,rfl⟩:=x2.toInt
 exact PyProof.Rows.ge_int ⟨_,σ,Post.refl ..,ok,V.ofBool,h⟩
theorem WB.eqI (h:Q (.bool (a==b)) σ):WB c A fr σ (compareOp .Eq) (.int a) (.int b) Q X:=fun v1 v2 s ok x1 x2=>by
 obtain ⟨t,rfl⟩:=x1.toInt;obtain ⟨u,rfl⟩:=x2.toInt
 exact PyProof.Rows.eq_int ⟨_,σ,Post.refl ..,ok,V.ofBool,h⟩
theorem WB.neI (h:Q (.bool (a !=b)) σ):WB c A fr σ (compareOp .NotEq) (.int a) (.int b) Q X:=fun v1 v2 s ok x1 x2=>by
 obtain ⟨t,rfl⟩:=x1.toInt;obtain ⟨u,rfl⟩:=x2.toInt
 exact PyProof.Rows.ne_int ⟨_,σ,Post.refl ..,ok,V.ofBool,h⟩
theorem WU.neg (h:Q (.int (-a)) σ):WU c A fr σ (unaryOp .USub) (.int a) Q X:=fun v1 s ok x1=>by
 obtain ⟨t,rfl⟩:=x1.toInt
 exact PyProof.Rows.neg_int ⟨_,σ,Post.tok ..,ok,V.ofInt,h⟩
theorem WE.nType (g:c.Good){f:Str}{fp:Pos}{T:String}(hk:env.kindOf f=some .globalImplicit)(hg:c.mg f=Option.none)(hb:c.mb f=some (.type T))(h:Q (.typ T) σ)(hdb:(f==("__debug__":Str))=false:=by decide):WE c A fr env m σ (.Name f fp) Q X:=fun s ok fm=>
 Name_function_global fm.kind hk (loadGlobal_builtin (by rw [fm.glob];exact g.g.keeps ok.base) hg (by rw [fm.bui];exact g.b.keeps ok.base) hb ⟨_,σ,Post.refl ..,ok,by rfl,h⟩) hdb
theorem WE.nInt (g:c.Good){f:Str}{fp:Pos}{i:Int}{t:Tok}(hk:env.kindOf f=some .globalImplicit)(hg:c.mg f=some (.int i t))(h:Q (.int i) σ)(hdb:(f==("__debug__":Str))=false:=by decide):WE c A fr env m σ (.Name f fp) Q X:=fun s ok fm=>
 Name_function_global fm.kind hk (loadGlobal_global (by exact fm.glob▸g.g.keeps ok.base) hg ⟨_,σ,Post.refl ..,ok,V.ofInt,h⟩) hdb
end
noncomputable def tyOf (σ:Sto):D->Option String
 | .none=>some "NoneType"
 | .bool _=>some "bool"
 | .int _=>some "int"
 | .str _=>some "str"
 | .tup _=>some "tuple"
 | .lst _=>some "list"
 | .ref a=>match σ.lookup a with| some (.lst _)=>some "list"| _=>none
 | _=>none
noncomputable def isT (σ:Sto)(T:String)(d:D):Option Bool:=(tyOf σ d).map fun t=>t==T|| (t=="bool"&&T=="int")
theorem jG {a:Addr}{o:O}:∀{σ:Sto},σ.lookup a=some o->(a,o)∈σ
 | [],h=>by contradiction
 | (b,o')::r,h=>by
  dsimp only [List.lookup_cons] at h
  by_cases q:(a==b)=true
  ·simp only [q] at h;obtain rfl:=Option.some.inj h;exact (beq_iff_eq.mp q)▸List.mem_cons_self
  ·simp only [q] at h;exact List.mem_cons_of_mem _ (jG h)
theorem V.typeIs {c:Cx}{A:Around}{fr:List Addr}{σ:Sto}{s:Shared}{d:D}{v:Value}{t:String}(ok:Ok c A fr σ s.heap)(x:V (keys σ++fr) s.heap d v)(e:tyOf σ d=some t):s.TypeIs v t:=by
 cases d with
 | none=>obtain rfl:=Option.some.inj e;rw [x.toNone];rfl
 | bool b=>injection e with e;subst e;rw [x.toBool];rfl
 | int i=>injection e with e;subst e;obtain ⟨t,rfl⟩:=x.toInt;rfl
 | str y=>injection e with e;subst e;obtain ⟨t,rfl⟩:=x.toStr;rfl
 | tup ds=>cases e;obtain ⟨a,vs,n,rfl,_,g,_⟩:=x;exact ⟨_,g,rfl⟩
 | lst ds=>cases e;obtain ⟨a,vs,n,rfl,_,g,_⟩:=x;exact ⟨_,g,rfl⟩
 | ref a=>
  subst x
  dsimp only [tyOf] at e
  split at e
  ·rename_i ds hl
   obtain rfl:=Option.some.inj e
   obtain ⟨vs,n,g,_⟩:=ok.sto _ (jG hl)
   exact ⟨_,g,rfl⟩
  ·contradiction
 | _=>contradiction
noncomputable def JF:List String:=["int","bool","list","tuple","str"]
noncomputable def U8:List String:=["NoneType","bool","int","str","tuple","list"]
theorem Up {T:String}(h:T∈JF):typeOf (.type T)=pure (.type "type"):=by
 simp only [JF,List.mem_cons,List.not_mem_nil,or_false] at h
 rcases h with rfl| rfl| rfl| rfl| rfl<;>kernel_rfl
theorem wz {t T:String}(ht:t∈U8)(hT:T∈JF):isSubtype (.type t) (.type T)=pure (t==T|| (t=="bool"&&T=="int")):=by
 simp only [JF,U8,List.mem_cons,List.not_mem_nil,or_false] at ht hT
 rcases ht with rfl| rfl| rfl| rfl| rfl| rfl<;>rcases hT with rfl| rfl| rfl| rfl| rfl<;>(kernel_rfl)
theorem WH {σ:Sto}{d:D}{t:String}(h:tyOf σ d=some t):t∈U8:=by
 cases d<;>dsimp only [tyOf] at h
 all_goals first| (contradiction;done)| (obtain rfl:=Option.some.inj h;decide)| (split at h;(obtain rfl:=Option.some.inj h;decide);contradiction)
section
variable {c:Cx} {A:Around} {fr:List Addr} {σ:Sto} {X:Addr->Sto->Prop} {env:Env} {m:Vars} {Q:D->Sto->Prop}
theorem WI {d:D}{T:String}{b:Bool}{s:Shared}{v:Value}(hT:T∈JF)(hb:isT σ T d=some b)(ok:Ok c A fr σ s.heap)(hv:V (keys σ++fr) s.heap d v)(h:Q (.bool b) σ):W c A none fr σ (call (.builtin "isinstance") [v,.type T]) V Q X s:=by
 unfold isT at hb
 cases ht:tyOf σ d with
 | none=>rw [ht] at hb;contradiction
 | some t=>
  rw [ht] at hb
  have hb':(t==T|| (t=="bool"&&T=="int"))=b:=Option.some.inj hb
  have hty:=hv.typeIs ok ht
  have hm:=Up hT
  have hsub:=wz (WH ht) hT
  rw [hb'] at hsub
  cases b with
  | true=>exact call_isinstance (isinstance_true hm hsub) ⟨hty,⟨_,σ,Post.refl ..,ok,V.ofBool,h⟩⟩
  | false=>
   have hne:(Value.type t==Value.type T)=false:=by
    rw [Bool.or_eq_false_iff] at hb'
    have:=hb'.1
    simp only [beq_eq_false_iff_ne,ne_eq] at this⊢
    intro z;exact this (by injection z)
   have hq:Po c A none fr σ s V Q (.bool false) {s with toks:=s.toks+1}:=⟨_,σ,Post.tok ..,ok,V.ofBool,h⟩
   cases d with
   | none=>obtain rfl:=Option.some.inj ht;exact hv.toNone▸call_isinstance (isinstance_false_none hne hm hsub) hq
   | bool b=>injection ht with ht;subst ht;exact hv.toBool▸call_isinstance (isinstance_false_bool hne hm hsub) hq
   | int i=>injection ht with ht;subst ht;obtain ⟨t,rfl⟩:=hv.toInt;exact call_isinstance (isinstance_false_int hne hm hsub) hq
   | str y=>injection ht with ht;subst ht;obtain ⟨t,rfl⟩:=hv.toStr;exact call_isinstance (isinstance_false_str hne hm hsub) hq
   | tup ds=>cases ht;obtain ⟨a,vs,n,rfl,_,g,_⟩:=hv;exact call_isinstance (isinstance_false_tuple hne hm hsub) ⟨⟨_,g,rfl⟩,hq⟩
   | lst ds=>cases ht;obtain ⟨a,vs,n,rfl,_,g,_⟩:=hv;exact call_isinstance (isinstance_false_list hne hm hsub) ⟨⟨_,g,rfl⟩,hq⟩
   | ref a=>
    subst hv
    obtain ⟨o,g,hc⟩:=hty
    dsimp only [tyOf] at ht
    split at ht
    ·obtain rfl:=Option.some.inj ht;exact call_isinstance (isinstance_false_list hne hm hsub) ⟨⟨_,g,hc⟩,hq⟩
    ·contradiction
   | _=>contradiction
end
section
variable {c:Cx} {A:Around} {fr:List Addr} {σ:Sto} {X:Addr->Sto->Prop} {env:Env} {m:Vars} {Q:D->Sto->Prop}
theorem YU {sd:SD}{v:Value}{s:Shared}{B:Around}(hh:B.handled=none)(ok:Ok c A fr σ s.heap)(hv:V (keys σ++fr) s.heap sd.d v)(inv:sd.inv σ){Qi:Value->Shared->Prop}{E:Value->Shared->Prop}
  (h:∀(l I:Addr) (vs:List Value) (St:Nat->Heap->Prop) (h':Heap),v=.ref l->Walks c.prog c.w B I [I,l] [I] vs.length (fun i v=>vs[i]? =some v) St->St 0 h'->(∀b∈[I,l],b<h'.objs.size)->(∀b o,s.heap.get? b=some o->h'.get? b=some o)->s.heap.get? I=none->Vs (keys σ++fr) s.heap sd.ds vs->Qi (.ref I) {s with heap:=h'}):
  wpAny (model c.prog c.w) B (pyIter v) Qi E s:=by
 obtain ⟨l,rfl,z⟩:=SD.of_v hv
 obtain ⟨vs,sq,hvs⟩:=z.get ok inv
 refine Y4 sq ?_
 have hlt:=sq.lt
 have hne:=Nat.ne_of_lt hlt
 have hb:∀b∈[s.heap.objs.size,l],b<(s.heap.push (Yz sd.isL l)).objs.size:=fun b hb=>by
  rw [Heap.size_push]
  simp only [List.mem_cons,List.not_mem_nil,or_false] at hb
  rcases hb with rfl| rfl
  ·exact Nat.lt_succ_self _
  ·exact Nat.lt_succ_of_lt hlt
 have hk:∀b o,s.heap.get? b=some o->(s.heap.push (Yz sd.isL l)).get? b=some o:=fun b o e=>Heap.get?_push_of_some _ e
 have hI:s.heap.get? s.heap.objs.size=none:=jg (Nat.le_refl _)
 have hit:SqIt sd.isL (s.heap.push (Yz sd.isL l)) s.heap.objs.size l 0:=YT (Heap.get?_push_size _ rfl)
 have hsq:SqOf sd.isL (s.heap.push (Yz sd.isL l)) l vs.toArray:=sq.push _
 cases hL:sd.isL with
 | true=>
  rw [hL] at hit hsq hb hk
  have W:=Walks.list (prog:=c.prog) (w:=c.w) hh s.heap.objs.size l hne vs.toArray
  simp only [List.size_toArray,List.getElem?_toArray] at W
  exact h l _ vs _ _ rfl W ⟨hit,hsq⟩ hb hk hI hvs
 | false=>
  rw [hL] at hit hsq hb hk
  have W:=Walks.tuple (prog:=c.prog) (w:=c.w) hh s.heap.objs.size l hne vs.toArray
  simp only [List.size_toArray,List.getElem?_toArray] at W
  exact h l _ vs _ _ rfl W ⟨hit,hsq⟩ hb hk hI hvs
theorem yJ {s:Shared}{h1 h':Heap}{I:Addr}{tk:Nat}{v:Value}{d:D}(ok:Ok c A fr σ s.heap)(k1:∀b o,s.heap.get? b=some o->h1.get? b=some o)(hI:s.heap.get? I=none)(k2:∀b o,b∉[I]->h1.get? b=some o->h'.get? b=some o)
  (hv:V (keys σ++fr) h' d v) (h:Q d σ):Po c A none fr σ s V Q v {s with heap:=h',toks:=tk}:=by
 have k:=fun b o e=>k2 b o (fun z=>by simp only [List.mem_singleton.mp z,hI] at e;contradiction) (k1 b o e)
 exact ⟨d,σ,Post.keeps k,ok.keeps k,hv,h⟩
theorem yK {K:List Addr}{h:Heap}{is:List Int}{vs:List Value}(hv:Vs K h (is.map D.int) vs){i:Nat}{v:Value}(e:vs[i]? =some v):∃t,v=.int (is[i]?.getD 0) t:=by
 obtain ⟨d,hd,hV⟩:=hv.get e
 replace hd:=(List.getElem?_map ..).symm.trans hd
 cases hi:is[i]? with
 | none=>rw [hi] at hd;contradiction
 | some n=>rw [hi] at hd;obtain rfl:=Option.some.inj hd;exact hV.toInt
theorem uD {K:List Addr}{h:Heap}{bs:List Bool}{vs:List Value}(hv:Vs K h (bs.map D.bool) vs){i:Nat}{v:Value}(e:vs[i]? =some v):v=.bool (bs[i]?.getD false):=by
 obtain ⟨d,hd,hV⟩:=hv.get e
 replace hd:=(List.getElem?_map ..).symm.trans hd
 cases hi:bs[i]? with
 | none=>rw [hi] at hd;contradiction
 | some n=>rw [hi] at hd;obtain rfl:=Option.some.inj hd;exact hV.toBool
theorem wA (bs:List Bool):(List.range bs.length).all (fun i=>bs[i]?.getD false)=bs.all id:=by
 rw [Bool.eq_iff_iff,List.all_eq_true,List.all_eq_true]
 constructor
 ·intro h b hb
  obtain ⟨i,hi,e⟩:=List.mem_iff_getElem.mp hb
  have:=h i (List.mem_range.mpr hi)
  simp only [List.getElem?_eq_getElem hi,e] at this
  exact this
 ·intro h i hi
  have hi:=List.mem_range.mp hi
  simp only [List.getElem?_eq_getElem hi,Option.getD_some]
  exact h _ (List.getElem_mem hi)
theorem wB (bs:List Bool):(List.range bs.length).any (fun i=>bs[i]?.getD false)=bs.any id:=by
 rw [Bool.eq_iff_iff,List.any_eq_true,List.any_eq_true]
 constructor
 ·rintro ⟨i,hi,h⟩
  have hi:=List.mem_range.mp hi
  rw [List.getElem?_eq_getElem hi] at h
  exact ⟨_,List.getElem_mem hi,h⟩
 ·rintro ⟨b,hb,h⟩
  obtain ⟨i,hi,e⟩:=List.mem_iff_getElem.mp hb
  refine ⟨i,List.mem_range.mpr hi,?_⟩
  rw [List.getElem?_eq_getElem hi,e]
  exact h
theorem WJ {sd:SD}{bs:List Bool}{s:Shared}{v:Value}(hh:A.handled=none)(hd:sd.ds=bs.map D.bool)(inv:sd.inv σ)(ok:Ok c A fr σ s.heap)(hv:V (keys σ++fr) s.heap sd.d v)(h:Q (.bool (bs.all id)) σ):W c A none fr σ (call (.builtin "all") [v]) V Q X s:=by
 refine call_all_walk (YU (B:=A.in1) hh ok hv inv fun l I vs St h1 e W st hb k1 hI hvs=> ?_)
 simp only [hd] at hvs
 refine ⟨I,_,_,_,_,_,fun i=>bs[i]?.getD false,rfl,W,st,fun i v s Q E hp hq=> ?_,fun h' tk hk=> ?_⟩
 ·exact (uD hvs hp)▸wpAny_truthy_bool hq
 ·refine yJ ok k1 hI hk V.ofBool ?_
  rw [(by rw [hvs.length];simp:vs.length=bs.length),wA];exact h
theorem WK {sd:SD}{bs:List Bool}{s:Shared}{v:Value}(hh:A.handled=none)(hd:sd.ds=bs.map D.bool)(inv:sd.inv σ)(ok:Ok c A fr σ s.heap)(hv:V (keys σ++fr) s.heap sd.d v)(h:Q (.bool (bs.any id)) σ):W c A none fr σ (call (.builtin "any") [v]) V Q X s:=by
 refine call_any_walk (YU (B:=A.in1) hh ok hv inv fun l I vs St h1 e W st hb k1 hI hvs=> ?_)
 simp only [hd] at hvs
 refine ⟨I,_,_,_,_,_,fun i=>bs[i]?.getD false,rfl,W,st,fun i v s Q E hp hq=> ?_,fun h' tk hk=> ?_⟩
 ·exact (uD hvs hp)▸wpAny_truthy_bool hq
 ·refine yJ ok k1 hI hk V.ofBool ?_
  rw [(by rw [hvs.length];simp:vs.length=bs.length),wB];exact h
end
theorem YE (is:List Int):∀n,n<=is.length->preSum (fun i=>is[i]?.getD 0) n=(is.take n).sum
 | 0,_=>by simp [preSum]
 | n+1,h=>by
  have hn:n<is.length:=h
  simp only [preSum,YE is n (Nat.le_of_lt hn),List.take_succ_eq_append_getElem hn,List.sum_append]
  simp [List.getElem?_eq_getElem hn]
noncomputable def minL:List Int->Int
 | []=>0
 | a::r=>r.foldl min a
noncomputable def maxL:List Int->Int
 | []=>0
 | a::r=>r.foldl max a
theorem Y5 (a:Int)(r:List Int):∀n,n<(a::r).length->((a::r)[argBest (fun i j=>decide ((a::r)[j]?.getD 0<(a::r)[i]?.getD 0)) n]?.getD 0)=maxL ((a::r).take (n+1))/\argBest (fun i j=>decide ((a::r)[j]?.getD 0<(a::r)[i]?.getD 0)) n<=n
 | 0,_=>by simp [argBest,maxL]
 | n+1,h=>by
  obtain ⟨ih,ih2⟩:=Y5 a r n (z606 h)
  have e2:maxL ((a::r).take (n+2))=max (maxL ((a::r).take (n+1))) ((a::r)[n+1]):=by
   rw [(List.take_succ_eq_append_getElem h)]
   simp only [List.take_succ_cons,maxL,List.cons_append,List.foldl_append,List.foldl_cons,List.foldl_nil]
  simp only [e2,argBest]
  by_cases q:decide ((a::r)[argBest (fun i j=>decide ((a::r)[j]?.getD 0<(a::r)[i]?.getD 0)) n]?.getD 0<(a::r)[n+1]?.getD 0)=true
  ·rw [if_pos q]
   refine ⟨?_,Nat.le_refl _⟩
   have q':=of_decide_eq_true q
   rw [ih] at q'
   simp only [List.getElem?_eq_getElem h,Option.getD_some] at q'⊢
   exact z609 q'
  ·rw [if_neg q]
   refine ⟨?_,Nat.le_succ_of_le ih2⟩
   have q':¬_:=fun z=>q (decide_eq_true z)
   rw [ih] at q'
   simp only [ih]
   simp only [List.getElem?_eq_getElem h,Option.getD_some] at q'
   exact z610 q'
section
variable {c:Cx} {A:Around} {fr:List Addr} {σ:Sto} {X:Addr->Sto->Prop} {env:Env} {m:Vars} {Q:D->Sto->Prop}
theorem WL {sd:SD}{is:List Int}{s:Shared}{v:Value}(hh:A.handled=none)(hd:sd.ds=is.map D.int)(inv:sd.inv σ)(ok:Ok c A fr σ s.heap)(hv:V (keys σ++fr) s.heap sd.d v)(h:Q (.int is.sum) σ):W c A none fr σ (call (.builtin "sum") [v]) V Q X s:=by
 refine call_sum_walkAnyS (YU (B:=A.in1) hh ok hv inv fun l I vs St h1 e W st hb k1 hI hvs=> ?_)
 simp only [hd] at hvs
 refine ⟨I,_,_,_,_,_,_,fun i=>is[i]?.getD 0,rfl,W.toS,st,hb,fun i v hp=>yK hvs hp,fun s' t' mv=> ?_⟩
 obtain ⟨h2,g2,d2,tk2,os2⟩:=s'
 obtain ⟨a1,a2,a3,a4,a5⟩:=mv
 simp only at a1 a2 a3 a4 a5
 subst a2 a3 a4
 exact (yJ (Q:=Q) (tk:=tk2) (d:=.int is.sum) (v:=.int (preSum (fun i=>is[i]?.getD 0) vs.length) t') ok k1 hI a1 (by simp only [(by rw [hvs.length];simp:vs.length=is.length),YE is _ (Nat.le_refl _),List.take_length];exact V.ofInt) h)
theorem WO {sd:SD}{is:List Int}{s:Shared}{v:Value}(hh:A.handled=none)(hd:sd.ds=is.map D.int)(hne:is≠[])(inv:sd.inv σ)(ok:Ok c A fr σ s.heap)(hv:V (keys σ++fr) s.heap sd.d v)(h:Q (.int (maxL is)) σ):W c A none fr σ (call (.builtin "max") [v]) V Q X s:=by
 refine call_max_walk (YU (B:=A.in1) hh ok hv inv fun l I vs St h1 e W st hb k1 hI hvs=> ?_)
 simp only [hd] at hvs
 have hl:vs.length=is.length:=by rw [hvs.length];simp
 cases is with
 | nil=>exact absurd rfl hne
 | cons a r=>
  refine ⟨I,_,_,_,_,_,fun i j=>decide ((a::r)[j]?.getD 0<(a::r)[i]?.getD 0),rfl,W,st,hb,by rw [hl];simp,fun i j vi vj s Q E h1 h2 hq=> ?_,fun v h' tk hp hk=> ?_⟩
  ·obtain ⟨t,rfl⟩:=yK hvs h1;obtain ⟨u,rfl⟩:=yK hvs h2
   exact PyProof.Rows.gt_int hq
  ·obtain ⟨t,rfl⟩:=yK hvs hp
   refine yJ ok k1 hI hk V.ofInt ?_
   rw [(by rw [hl];rfl:vs.length-1=r.length),((Y5 a r r.length (by simp)).1)]
   rw [(by simp:(a::r).take (r.length+1)=a::r)];exact h
theorem WP {sd:SD}{s:Shared}{v:Value}(inv:sd.inv σ)(ok:Ok c A fr σ s.heap)(hv:V (keys σ++fr) s.heap sd.d v)(hfit:sd.ds.length<2^62)(h:Q (.int sd.ds.length) σ):W c A none fr σ (call (.builtin "len") [v]) V Q X s:=by
 obtain ⟨l,rfl,z⟩:=SD.of_v hv
 obtain ⟨vs,sq,hvs⟩:=z.get ok inv
 have hl:=hvs.length
 have hq:Po c A none fr σ s V Q (.int vs.toArray.size (s.toks+1)) {s with toks:=s.toks+1+1}:=⟨.int sd.ds.length,σ,Post.tok ..,ok,by simp only [List.size_toArray,hl];exact V.ofInt,h⟩
 have hfit':(vs.toArray.size:Int)<2^63:=by rw [List.size_toArray,hl];exact z611 hfit
 cases hL:sd.isL with
 | true=>rw [hL] at sq;exact Calls.call_len_list sq hfit' hq
 | false=>rw [hL] at sq;exact PyProof.Rows.len_tuple sq hfit' hq
noncomputable def idx (k:Int)(n:Nat):Nat:=if k<0 then (k+n).toNat else k.toNat
noncomputable def WSb (c:Cx)(A:Around)(fr:List Addr)(σ:Sto)(value slice:Expr)(d1 d2:D)(Q:D->Sto->Prop)(X:Addr->Sto->Prop):Prop:=
 ∀v1 v2 s,Ok c A fr σ s.heap->V (keys σ++fr) s.heap d1 v1->V (keys σ++fr) s.heap d2 v2->W c A none fr σ (subscriptTail value slice v1 v2) V Q X s
theorem WE.sub {value slice:Expr}{pos:Pos}(h:WE c A fr env m σ value (fun d1 σ1=>WE c A fr env m σ1 slice (fun d2 σ2=>WSb c A fr σ2 value slice d1 d2 Q X) X) X):WE c A fr env m σ (.Subscript value slice pos) Q X:=fun s ok fm=>by
 refine Subscript_ (wpAny_mono (h s ok fm) (fun v1 s1 hz=> ?_) fun _ _ x=>x)
 obtain ⟨d1,σ1,p1,ok1,x1,q1⟩:=hz
 refine wpAny_mono (q1 s1 ok1 (fm.move p1)) (fun v2 s2 hz=> ?_) fun _ _ x=>Ex.back p1 x fun _ _ y=>y
 obtain ⟨d2,σ2,p2,ok2,x2,q2⟩:=hz
 exact wpAny_mono (q2 v1 v2 s2 ok2 (p2.v x1) x2) (fun _ _ z=>z.back (p1.trans p2)) fun _ _ x=>Ex.back (p1.trans p2) x fun _ _ y=>y
theorem WSb.item {value slice:Expr}{sd:SD}{k:Int}{d:D}(inv:sd.inv σ)(h0: -(2^63)<=k)(h1:k<2^63)(hk: -(sd.ds.length:Int)<=k)(hi:sd.ds[idx k sd.ds.length]? =some d)(h:Q d σ)
  (hs:∀l u,subscripted slice false (.ref l) (.int k u)=operate [.ref l,.int k u] (getItem (.ref l) (.int k u)):=by intro _ _;with_unfolding_all rfl):WSb c A fr σ value slice sd.d (.int k) Q X:=fun v1 v2 s ok x1 x2=>by
 obtain ⟨l,rfl,z⟩:=SD.of_v x1
 obtain ⟨u,rfl⟩:=x2.toInt
 obtain ⟨vs,sq,hvs⟩:=z.get ok inv
 have hl:=hvs.length
 obtain ⟨v,e,hV⟩:=hvs.got hi
 have hq:Po c A none fr σ s V Q v s:=⟨d,σ,Post.refl ..,ok,hV,h⟩
 unfold idx at e
 cases hL:sd.isL with
 | true=>
  rw [hL] at sq
  refine tail_any sq.typeIs slot_list_getitem.lookup ?_ (hs l u)
  by_cases hneg:k<0
  ·rw [if_pos hneg] at e
   exact wpAny_getItem_list_neg sq hneg (by rw [List.size_toArray,hl];exact hk) h0 (by rw [List.size_toArray,hl];simpa using e) hq
  ·rw [if_neg hneg] at e
   exact wpAny_getItem_list sq (z21 hneg) h1 (by simpa using e) hq
 | false=>
  rw [hL] at sq
  have hj:seqIndex? k vs.length=some (if k<0 then (k+sd.ds.length).toNat else k.toNat):=by
   rw [hl]
   by_cases hneg:k<0
   ·rw [if_pos hneg];exact seqIndex_neg hneg hk
   ·rw [if_neg hneg]
    have hlt:k.toNat<sd.ds.length:=by
     unfold idx at hi;rw [if_neg hneg] at hi
     exact (List.getElem?_eq_some_iff.mp hi).1
    have hc:(0<=k/\k<(sd.ds.length:Int)):=⟨z21 hneg,z612 hlt⟩
    simp [seqIndex?,hneg,hc.1,hc.2]
  exact item_tupleT (l:=vs) sq h0 h1 hj e hq (hs l u)
theorem WE.list {elts:List Expr}{pos:Pos}(h:WA c A fr env m σ elts (fun ds σ1=>ds.length<=sizeLine/\QL Q ds σ1) X):WE c A fr env m σ (.List elts pos) Q X:=fun s ok fm=>by
 refine wpAny_List_spliced (wpAny_mono (h pos s ok fm) (fun vs s1 ⟨ds,σ1,p1,ok1,x1,hl,q1⟩=>⟨by rw [x1.length];exact hl,?_⟩) fun _ _ x=>x)
 have hn:∀a∈[s1.heap.objs.size],s1.heap.get? a=none:=fun a ha=>by rw [List.mem_singleton.mp ha];exact jg (Nat.le_refl _)
 have k1:∀b o,s1.heap.get? b=some o->(s1.heap.push {cls:=.type "list",data:=.seq vs.toArray}).get? b=some o:=fun b o e=>Heap.get?_push_of_some _ e
 have g:(s1.heap.push {cls:=.type "list",data:=.seq vs.toArray}).get? s1.heap.objs.size=some (jk vs 0):=Heap.get?_push_size _ rfl
 have oka:Ok c A ([s1.heap.objs.size]++fr) σ1 (s1.heap.push {cls:=.type "list",data:=.seq vs.toArray}):=ok1.more k1 hn (fun a ha=>by exact (List.mem_singleton.mp ha)▸⟨_,g⟩) (by simp)
 have pf:Post [] fr σ s {s1 with heap:=s1.heap.push {cls:=.type "list",data:=.seq vs.toArray},toks:=s1.toks} σ1:=p1.trans (Post.keeps k1)
 exact QL.use (G:=none) (s':={s1 with heap:=s1.heap.push {cls:=.type "list",data:=.seq vs.toArray},toks:=s1.toks}) q1 pf oka ok1.frames_in g (Vs.move (K:=keys σ1++fr) (fun b o _ e=>k1 b o e) (jC hn) _ _ x1) (jF p1 (hn _ (by exact .head _)))
theorem WE.tuple {elts:List Expr}{k:Nat}{pos:Pos}(h:WA c A fr env m σ elts (fun ds σ1=>ds.length<=sizeLine/\Q (.tup ds) σ1) X):WE c A fr env m σ (.Tuple elts k pos) Q X:=fun s ok fm=>by
 refine wpAny_Tuple_spliced (wpAny_mono (h pos s ok fm) (fun vs s1 ⟨ds,σ1,p1,ok1,x1,hl,q1⟩=>⟨by rw [x1.length];exact hl,?_⟩) fun _ _ x=>x)
 have k1:∀b o,s1.heap.get? b=some o->(s1.heap.push {cls:=.type "tuple",data:=.seq vs.toArray}).get? b=some o:=fun b o e=>Heap.get?_push_of_some _ e
 refine ⟨.tup ds,σ1,p1.trans (Post.keeps (tk:=s1.toks) k1),ok1.keeps k1,?_,q1⟩
 refine ⟨_,vs,0,rfl,fun z=> ?_,Heap.get?_push_size _ rfl,Vs.move (K:=keys σ1++fr) (fun b o _ e=>k1 b o e) (fun a ha=>.inl ha) _ _ x1⟩
 exact Nat.lt_irrefl _ (ok1.lt z)
theorem UR {sd:SD}{s:Shared}{v:Value}(inv:sd.inv σ)(ok:Ok c A fr σ s.heap)(hv:V (keys σ++fr) s.heap sd.d v)(hsz:sd.ds.length<=sizeLine)(h:Q (.tup sd.ds) σ):W c A none fr σ (call (.type "tuple") [v]) V Q X s:=by
 obtain ⟨l,rfl,z⟩:=SD.of_v hv
 cases hL:sd.isL with
 | true=>
  obtain ⟨vs,sq,hvs⟩:=z.get ok inv
  rw [hL] at sq
  refine call_tuple_list sq (fun h' hk=> ?_) (by simpa [hvs.length] using hsz)
  have k1:∀b o,s.heap.get? b=some o->(h'.push {cls:=.type "tuple",data:=.seq vs.toArray}).get? b=some o:=fun b o e=>Heap.get?_push_of_some _ (hk b o e)
  refine ⟨.tup sd.ds,σ,Post.keeps (tk:=s.toks) k1,ok.keeps k1,?_,h⟩
  refine ⟨_,vs,0,rfl,fun z=> ?_,Heap.get?_push_size _ rfl,Vs.move (K:=keys σ++fr) (fun b o _ e=>k1 b o e) (fun a ha=>.inl ha) _ _ hvs⟩
  obtain ⟨o,e⟩:=ok.there z
  exact Nat.lt_irrefl _ (Heap.lt_size (hk _ _ e))
 | false=>
  cases sd with
  | tup ds=>
   simp only [SD.d] at hv
   have hv':=hv
   obtain ⟨a,vs,n,e,hk,g,r⟩:=hv'
   injection e with e;subst e
   exact call_tuple_same ⟨_,g,rfl,n,rfl⟩ ⟨_,σ,Post.refl ..,ok,hv,h⟩
  | lst ds=>contradiction
  | ref a ds=>contradiction
theorem wC {sd:SD}{s:Shared}{v:Value}(inv:sd.inv σ)(ok:Ok c A fr σ s.heap)(hv:V (keys σ++fr) s.heap sd.d v)(hsz:sd.ds.length<=sizeLine)(h:QL Q sd.ds σ):W c A none fr σ (call (.type "list") [v]) V Q X s:=by
 obtain ⟨l,rfl,z⟩:=SD.of_v hv
 obtain ⟨vs,sq,hvs⟩:=z.get ok inv
 have hn:∀a∈[s.heap.objs.size],s.heap.get? a=none:=fun a ha=>by exact (congrArg _ (List.mem_singleton.mp ha ..)).trans (jg (Nat.le_refl _))
 have fin:∀h' c',(∀b o',s.heap.get? b=some o'->h'.get? b=some o')->h'.get? s.heap.objs.size=some {cls:=.type "list",dict:=none,data:=.seq vs.toArray c',slots:= #[]}->
   Po c A none fr σ s V Q (.ref s.heap.objs.size) {s with heap:=h'}:=fun h' c' k1 g=>by
  exact QL.use (G:=none) (s':={s with heap:=h',toks:=s.toks}) h (Post.keeps k1) (ok.more k1 hn (fun a ha=>by exact (List.mem_singleton.mp ha)▸⟨_,g⟩) (by simp):Ok c A ([s.heap.objs.size]++fr) σ h') ok.frames_in g (Vs.move (K:=keys σ++fr) (fun b o _ e=>k1 b o e) (jC hn) _ _ hvs) (hn _ (by exact .head _))
 have hsz':vs.toArray.size<=sizeLine:=by simpa [hvs.length] using hsz
 cases hL:sd.isL with
 | true=>rw [hL] at sq;obtain ⟨o,g,hc,n,hd⟩:=sq;exact call_list_seq l (.inl rfl) g hc hd fin hsz'
 | false=>rw [hL] at sq;obtain ⟨o,g,hc,n,hd⟩:=sq;exact call_list_seq l (.inr rfl) g hc hd fin hsz'
end
theorem Room.mono {n k:Nat}{A:Around}(r:Room n A)(h:k<=n):Room k A:=by
 obtain ⟨j,rfl⟩:=Nat.exists_eq_add_of_le h
 exact r.less
theorem ja {env:Env}{sc:Scope}{x:Str}{k:NameKind}(h:env.scope=sc)(e:sc.names.lookup x=some k):env.kindOf x=some k:=by
 unfold Env.kindOf;exact h▸e
noncomputable def jT:Stmt->Option PySem.DefRec
 | .FunctionDef name params body _ _ _ scope _ _ pos=>some ⟨name,params,body,scope,pos⟩
 | _=>none
structure Tp (c:Cx)(B:List Stmt)(bs:List (Str × Value)):Prop where
 good:c.Good
 nolimit:c.h0.NoLimit
 fn:∀d∈B.filterMap jT,∃a o pm code doc,c.mg d.name=some (.ref a)/\c.h0.get? a=some o/\o.data=.func (docDef d.name d.params d.body d.scope pm code doc)/\c.h0.CodeRec code d.name
 bn:∀x v,bs.lookup x=some v->c.mg x=none/\c.mb x=some v
noncomputable def WF (c:Cx)(P:Around->Prop)(f:Str)(ds:List D)(σ:Sto)(Q:D->Sto->Prop)(X:Addr->Sto->Prop):Prop:=
 ∀a,c.mg f=some (.ref a)->WC c P (.ref a) ds σ Q X
noncomputable def Dfn (c:Cx)(f:Str):Prop:=∃a o fd,c.mg f=some (.ref a)/\c.h0.get? a=some o/\o.data=.func fd
noncomputable def fnOk (scope:Scope)(ps:List Str):Bool:=
 decide ps.Nodup&&ps.all (fun x=>scope.names.lookup x==some .local|| scope.names.lookup x==some .cell)&&decide ((cellsFrom 0 scope.names []).map (·.1)).Nodup&&
  scope.names.all (fun y=>y.2 !=.free)&&scope.kind==.function&& !scope.isCoroutine&& !scope.isGenerator
theorem Jq {x:Str}{k:NameKind}:∀{l:List (Str × NameKind)},l.lookup x=some k->∃y,(y,k)∈l
 | [],h=>by contradiction
 | (y,j)::r,h=>by
  simp only [List.lookup_cons] at h
  split at h
  ·injection h with h;subst h;exact ⟨y,.head _⟩
  ·obtain ⟨z,hz⟩:=Jq h;exact ⟨z,.tail _ hz⟩
section
variable {c:Cx} {A:Around} {fr:List Addr} {σ:Sto} {X:Addr->Sto->Prop} {Q:D->Sto->Prop} {env:Env} {m:Vars} {B:List Stmt} {bs:List (Str × Value)}
theorem WF.of {d:PySem.DefRec}{ps:List Str}{n:Nat}{f:Str}{ds:List D}(T:Tp c B bs)(hd:d∈B.filterMap jT)(hf:d.name=f)
  (hb:∀pm code doc vals,vals.length=ps.length->bindArgs (docDef d.name d.params d.body d.scope pm code doc) ⟨vals,[]⟩=pure (ps.zip vals)) (hok:fnOk d.scope ps=true) (hl:ds.length=ps.length)
  (h:∀A fr env,Room n A->env.scope=d.scope->Fe A env d.scope->WS c A (Fa env++fr) env (ps.zip ds) σ d.body (fun _ σ'=>Q .none σ') Q X):WF c (Room (n+1)) f ds σ Q X:=fun a ha=>by
 subst hf
 obtain ⟨a',o,pm,code,doc,h1,h2,h3,h4⟩:=T.fn d hd
 obtain rfl:a'=a:=by rw [h1] at ha;injection ha with ha;injection ha
 simp only [fnOk,Bool.and_eq_true,decide_eq_true_eq,List.all_eq_true,Bool.or_eq_true,beq_iff_eq,bne_iff_ne,Bool.not_eq_true'] at hok
 obtain ⟨⟨⟨⟨⟨⟨k1,k2⟩,k3⟩,k4⟩,k5⟩,k6⟩,k7⟩:=hok
 refine WC.of (P':=Room n) (ps:=ps) (body:=d.body) (scope:=d.scope) ⟨⟨o,_,h2,h3,rfl,rfl,rfl,rfl,rfl,h4,hb pm code doc⟩,T.nolimit,k1,k2,k3,fun x e=> ?_,k5,k6,k7⟩ (fun A env r=>⟨?_,r.deeper⟩) hl fun A fr env r fe=>h A fr env r fe.scope fe
 ·obtain ⟨y,hy⟩:=Jq e
  exact k4 _ hy rfl
 ·exact z870 (r.1.1) (rfl)
theorem Jy {B:List Stmt}{i:Nat}{d:PySem.DefRec}(h:(B[i]?).bind jT=some d):d∈B.filterMap jT:=by
 obtain ⟨st,h1,h2⟩:=Option.bind_eq_some_iff.mp h
 exact List.mem_filterMap.mpr ⟨st,List.mem_of_getElem? h1,h2⟩
theorem WF.by {name:Str}{params:Arguments}{body:List Stmt}{scope:Scope}{dpos:Pos}(i:Nat){ps:List Str}{n:Nat}{ds:List D}(T:Tp c B bs)(hd:(B[i]?).bind jT=some ⟨name,params,body,scope,dpos⟩)
  (hb:∀pm code doc vals,vals.length=ps.length->bindArgs (docDef name params body scope pm code doc) ⟨vals,[]⟩=pure (ps.zip vals)) (hok:fnOk scope ps=true) (hl:ds.length=ps.length)
  (h:∀A fr env,Room n A->A.handled=none->env.scope=scope->Fe A env scope->WS c A (Fa env++fr) env (ps.zip ds) σ body (fun _ σ'=>Q .none σ') Q X):WF c (Room (n+1)) name ds σ Q X:=
 WF.of T (Jy hd) rfl hb hok hl fun A fr env r hs fe=>h A fr env r r.2 hs fe
theorem YV {name x:Str}{params:Arguments}{body:List Stmt}{scope:Scope}(h:∀pm code doc a,bindArgs (docDef name params body scope pm code doc) ⟨[a],[]⟩=pure ([x].zip [a])):∀pm code doc vals,vals.length=[x].length->bindArgs (docDef name params body scope pm code doc) ⟨vals,[]⟩=pure ([x].zip vals):=fun pm code doc vals e=>by
 obtain ⟨a,rfl⟩:=List.length_eq_one_iff.mp e
 exact h pm code doc a
theorem JS {name x y:Str}{params:Arguments}{body:List Stmt}{scope:Scope}(h:∀pm code doc a b,bindArgs (docDef name params body scope pm code doc) ⟨[a,b],[]⟩=pure ([x,y].zip [a,b])):∀pm code doc vals,vals.length=[x,y].length->bindArgs (docDef name params body scope pm code doc) ⟨vals,[]⟩=pure ([x,y].zip vals):=fun pm code doc vals e=>by
 obtain ⟨a,b,rfl⟩:=len2 e
 exact h pm code doc a b
theorem WR {name x y z:Str}{params:Arguments}{body:List Stmt}{scope:Scope}(h:∀pm code doc a b e,bindArgs (docDef name params body scope pm code doc) ⟨[a,b,e],[]⟩=pure ([x,y,z].zip [a,b,e])):∀pm code doc vals,vals.length=[x,y,z].length->bindArgs (docDef name params body scope pm code doc) ⟨vals,[]⟩=pure ([x,y,z].zip vals):=fun pm code doc vals e=>by
 obtain ⟨a,b,w,rfl⟩:=len3 e
 exact h pm code doc a b w
theorem Dfn.by {name:Str}{params:Arguments}{body:List Stmt}{scope:Scope}{dpos:Pos}(i:Nat)(T:Tp c B bs)(hd:(B[i]?).bind jT=some ⟨name,params,body,scope,dpos⟩):Dfn c name:=by
 obtain ⟨a,o,pm,code,doc,h1,h2,h3,h4⟩:=T.fn _ (Jy hd)
 exact ⟨a,o,_,h1,h2,h3⟩
theorem Dfn.of {d:PySem.DefRec}{f:Str}(T:Tp c B bs)(hd:d∈B.filterMap jT)(hf:d.name=f):Dfn c f:=by
 subst hf
 obtain ⟨a,o,pm,code,doc,h1,h2,h3,h4⟩:=T.fn d hd
 exact ⟨a,o,_,h1,h2,h3⟩
theorem WF.at {k n:Nat}{f:Str}{ds:List D}(h:WF c (Room k) f ds σ Q X)(hk:k<=n):WF c (Room n) f ds σ Q X:=fun a ha A fr s vals hA ok hv=>h a ha A fr s vals (hA.mono hk) ok hv
theorem WE.callN (T:Tp c B bs){f:Str}{fp pos:Pos}{args:List Expr}{n:Nat}(r:Room n A)(hk:env.kindOf f=some .globalImplicit)(hf:Dfn c f)
  (h:WA c A fr env m σ args (fun ds σ1=>WF c (Room n) f ds σ1 Q X) X) (hp:jc args=true:=by rfl) (hdb:(f==("__debug__":Str))=false:=by decide):WE c A fr env m σ (.Call (.Name f fp) args [] pos) Q X:=by
 obtain ⟨a,o,fd,h1,h2,h3⟩:=hf
 exact WE.callF T.good (P:=Room n) r hk h1 h2 h3 (fun p s ok fm=>(h p s ok fm).mono (fun ds σ1 w=>w a h1) fun _ _ x=>x) hp hdb
noncomputable def At1 (c:Cx)(A:Around)(fr:List Addr)(σ:Sto)(f:Value)(ds:List D)(Q:D->Sto->Prop)(X:Addr->Sto->Prop):Prop:=
 ∀s vals,Ok c A fr σ s.heap->Vs (keys σ++fr) s.heap ds vals->W c A none fr σ (call f vals) V Q X s
theorem WE.callI (T:Tp c B bs){f:Str}{fp pos:Pos}{args:List Expr}{id:String}(hk:env.kindOf f=some .globalImplicit)(hb:bs.lookup f=some (.builtin id))
  (h:WA c A fr env m σ args (fun ds σ1=>At1 c A fr σ1 (.builtin id) ds Q X) X) (hp:jc args=true:=by rfl) (hdb:(f==("__debug__":Str))=false:=by decide):WE c A fr env m σ (.Call (.Name f fp) args [] pos) Q X:=
 WE.callB T.good hk (T.bn _ _ hb).1 (T.bn _ _ hb).2 h hp hdb
theorem WE.callY (T:Tp c B bs){f:Str}{fp pos:Pos}{args:List Expr}{id:String}(hk:env.kindOf f=some .globalImplicit)(hb:bs.lookup f=some (.type id))
  (h:WA c A fr env m σ args (fun ds σ1=>At1 c A fr σ1 (.type id) ds Q X) X) (hp:jc args=true:=by rfl) (hdb:(f==("__debug__":Str))=false:=by decide):WE c A fr env m σ (.Call (.Name f fp) args [] pos) Q X:=
 WE.callT T.good hk (T.bn _ _ hb).1 (T.bn _ _ hb).2 h hp hdb
theorem At1.one {f:Value}{d:D}(h:∀s v,Ok c A fr σ s.heap->V (keys σ++fr) s.heap d v->W c A none fr σ (call f [v]) V Q X s):At1 c A fr σ f [d] Q X:=fun s vals ok hv=>by
 obtain ⟨v,vs,rfl,h1,h2⟩:=hv
 subst h2
 exact h s v ok h1
theorem At1.two {f:Value}{d e:D}(h:∀s v u,Ok c A fr σ s.heap->V (keys σ++fr) s.heap d v->V (keys σ++fr) s.heap e u->W c A none fr σ (call f [v,u]) V Q X s):At1 c A fr σ f [d,e] Q X:=fun s vals ok hv=>by
 obtain ⟨v,vs,rfl,h1,h2⟩:=hv
 obtain ⟨u,us,rfl,h3,h4⟩:=h2
 subst h4
 exact h s v u ok h1 h3
theorem At1.all {sd:SD}{l:List Bool}(hh:A.handled=none)(hd:sd.ds=l.map D.bool)(inv:sd.inv σ)(h:Q (.bool (l.all id)) σ):At1 c A fr σ (.builtin "all") [sd.d] Q X:=.one fun s v ok hv=>WJ hh hd inv ok hv h
theorem At1.any {sd:SD}{l:List Bool}(hh:A.handled=none)(hd:sd.ds=l.map D.bool)(inv:sd.inv σ)(h:Q (.bool (l.any id)) σ):At1 c A fr σ (.builtin "any") [sd.d] Q X:=.one fun s v ok hv=>WK hh hd inv ok hv h
theorem At1.sum {sd:SD}{l:List Int}(hh:A.handled=none)(hd:sd.ds=l.map D.int)(inv:sd.inv σ)(h:Q (.int l.sum) σ):At1 c A fr σ (.builtin "sum") [sd.d] Q X:=.one fun s v ok hv=>WL hh hd inv ok hv h
theorem At1.max {sd:SD}{l:List Int}(hh:A.handled=none)(hd:sd.ds=l.map D.int)(hne:l≠[])(inv:sd.inv σ)(h:Q (.int (maxL l)) σ):At1 c A fr σ (.builtin "max") [sd.d] Q X:=.one fun s v ok hv=>WO hh hd hne inv ok hv h
theorem At1.len {sd:SD}(inv:sd.inv σ)(hfit:sd.ds.length<2^62)(h:Q (.int sd.ds.length) σ):At1 c A fr σ (.builtin "len") [sd.d] Q X:=.one fun s v ok hv=>WP inv ok hv hfit h
theorem At1.tuple {sd:SD}(inv:sd.inv σ)(hsz:sd.ds.length<=sizeLine)(h:Q (.tup sd.ds) σ):At1 c A fr σ (.type "tuple") [sd.d] Q X:=.one fun s v ok hv=>UR inv ok hv hsz h
theorem At1.list {sd:SD}(inv:sd.inv σ)(hsz:sd.ds.length<=sizeLine)(h:QL Q sd.ds σ):At1 c A fr σ (.type "list") [sd.d] Q X:=.one fun s v ok hv=>wC inv ok hv hsz h
theorem At1.isi {d:D}{T:String}{b:Bool}(hT:T∈JF)(hb:isT σ T d=some b)(h:Q (.bool b) σ):At1 c A fr σ (.builtin "isinstance") [d,.typ T] Q X:=.two fun s v u ok hv hu=>by
 subst hu
 exact WI hT hb ok hv h
end
section
variable {c:Cx} {A:Around} {fr:List Addr} {σ:Sto} {X:Addr->Sto->Prop} {Q:D->Sto->Prop} {env:Env} {m:Vars} {B:List Stmt} {bs:List (Str × Value)}
theorem J6 {α β:Type}{F:α->Option β}{l:List α}{k:Nat}{x:α}(h:l[k]? =some x):(l.take (k+1)).filterMap F=(l.take k).filterMap F++(F x).toList:=by
 obtain ⟨hk,rfl⟩:=List.getElem?_eq_some_iff.mp h
 simp only [List.take_succ_eq_append_getElem hk,List.filterMap_append]
 cases hF:F l[k]<;>simp [hF]
theorem Turns.of {α:Type}{l:List α}{g:α->Vars}{Inv:Sto->Prop}{scope:Scope}{ifs:List Expr}{elt:Expr}{Z:List D->Sto->Prop}(F:α->Option D)(hloc:∀x∈l,∀y∈g x,lk (scope.names.lookup y.1)=true)(hinv:Inv σ)(hsz:l.length<=sizeLine)
  (step:∀x∈l,∀fr' cenv,cenv.scope=UP scope env.scope->WIfs c A fr' cenv (g x++capt scope m) σ ifs (fun b σ2=>if b=true then WE c A fr' cenv (g x++capt scope m) σ2 elt (fun d σ3=>σ3=σ/\F x=some d) NoX else σ2=σ/\F x=none) NoX)
  (h:Z (l.filterMap F) σ):Turns c A env m scope ifs elt Z (l.map g) Inv σ:=by
 refine ⟨fun x hx y hy=> ?_,fun k ds σ'=>σ'=σ/\ds=(l.take k).filterMap F,⟨rfl,by rfl⟩,fun k ds σ' hL=> ?_,fun k x ds σ' hk hL fr' cenv hc=> ?_,fun ds σ' hL=> ?_⟩
 ·obtain ⟨z,hz,rfl⟩:=List.mem_map.mp hx
  exact hloc z hz y hy
 ·obtain ⟨rfl,rfl⟩:=hL
  refine ⟨hinv,Nat.le_trans (List.length_filterMap_le _ _) (Nat.le_trans ?_ hsz)⟩
  rw [List.length_take];exact Nat.min_le_right _ _
 ·obtain ⟨rfl,rfl⟩:=hL
  rw [List.getElem?_map] at hk
  obtain ⟨z,hz,rfl⟩:=Option.map_eq_some_iff.mp hk
  refine fun s ok fm=>((step z (List.mem_of_getElem? hz) fr' cenv hc) s ok fm).mono (fun b σ2 hb=> ?_) fun _ _ x=>x
  cases b with
  | true=>
   exact hb.mono (fun d σ3 ⟨e1,e2⟩=>⟨e1,by rw [J6 hz,e2];rfl⟩) fun _ _ x=>x
  | false=>
   exact ⟨hb.1,by rw [J6 hz,hb.2];simp⟩
 ·obtain ⟨rfl,rfl⟩:=hL
  rw [List.length_map,List.take_length]
  exact h
theorem loc1 {scope:Scope}{x:Str}{d:D}(h:lk (scope.names.lookup x)=true):∀y∈[(x,d)],lk (scope.names.lookup y.1)=true:=fun y hy=>by
 rw [List.mem_singleton] at hy;subst hy;exact h
theorem loc2 {scope:Scope}{x z:Str}{d e:D}(h:lk (scope.names.lookup x)=true)(h2:lk (scope.names.lookup z)=true):∀y∈[(x,d),(z,e)],lk (scope.names.lookup y.1)=true:=fun y hy=>by
 rcases List.mem_cons.mp hy with rfl| hy
 ·exact h
 ·exact loc1 h2 y hy
theorem Turns.map {α:Type}{l:List α}{g:α->Vars}{Inv:Sto->Prop}{scope:Scope}{elt:Expr}{Z:List D->Sto->Prop}(F:α->D)(hloc:∀x∈l,∀y∈g x,lk (scope.names.lookup y.1)=true)(hinv:Inv σ)(hsz:l.length<=sizeLine)
  (step:∀x∈l,∀fr' cenv,cenv.scope=UP scope env.scope->WE c A fr' cenv (g x++capt scope m) σ elt (fun d σ3=>σ3=σ/\d=F x) NoX)
  (h:Z (l.map F) σ):Turns c A env m scope [] elt Z (l.map g) Inv σ:=by
 refine Turns.of (fun x=>some (F x)) hloc hinv hsz (fun x hx fr' cenv hc=>WIfs.nil ?_) ?_
 ·exact (step x hx fr' cenv hc).mono (fun d σ3 ⟨e1,e2⟩=>⟨e1,by rw [e2]⟩) fun _ _ x=>x
 ·rw [(List.filterMap_eq_map (f:=F)▸rfl:l.filterMap (fun x=>some (F x))=l.map F)];exact h
theorem WIt.range (T:Tp c B bs)(hh:A.handled=none){f:Str}{fp pos px:Pos}{e:Expr}{x:Str}{Q:List Vars->(Sto->Prop)->Sto->Prop}(hk:env.kindOf f=some .globalImplicit)(hb:bs.lookup f=some (.type "range"))
  (h:WE c A fr env m σ e (fun d σ1=>∃n:Int,d=.int n/\-(2^62)<=n/\n<2^62/\Q ((List.range n.toNat).map fun (i:Nat)=>[(x,D.int (i:Int))]) (fun _=>True) σ1) X) (hp:jc [e]=true:=by rfl) (hdb:(f==("__debug__":Str))=false:=by decide):
  WIt c A fr env m σ (.Call (.Name f fp) [e] [] pos) (.Name x px) Q X:=WIt.range1 T.good hh hk (T.bn _ _ hb).1 (T.bn _ _ hb).2 h hp hdb
theorem WIv.seq {α:Type}{sd:SD}{l:List α}{x:Str}{px:Pos}{Q:List Vars->(Sto->Prop)->Sto->Prop}(F:α->D)(hh:A.handled=none)(hd:sd.ds=l.map F)(hi:sd.inv σ)(h:Q (l.map fun i=>[(x,F i)]) sd.inv σ):WIv c A fr env m σ sd.d (.Name x px) Q:=by
 have e:sd.ds.map (fun d=>[(x,d)])=l.map fun i=>[(x,F i)]:=by simp only [hd,List.map_map];rfl
 cases sd with
 | lst ds=>exact WIv.lst hh (by have e':ds.map (fun d=>[(x,d)])=_:=e;rw [e'];exact h)
 | tup ds=>exact WIv.tup hh (by have e':ds.map (fun d=>[(x,d)])=_:=e;rw [e'];exact h)
 | ref a ds=>exact WIv.ref hh hi (by have e':ds.map (fun d=>[(x,d)])=_:=e;rw [e'];exact h)
end
mutual
noncomputable def D.py:D->Option PyData
 | .none=>some .none
 | .bool b=>some (.bool b)
 | .int i=>some (.int i)
 | .str x=>some (.str x)
 | .tup ds=>(uE ds).map .tuple
 | .lst ds=>(uE ds).map .list
 | _=>none
noncomputable def uE:List D->Option (List PyData)
 | []=>some []
 | d::r=>(D.py d).bind fun p=>(uE r).map fun q=>p::q
end
mutual
theorem V.reads {K:List Addr}{h:Heap}:∀(d:D) (v:Value) (p:PyData),V K h d v->d.py=some p->∃as,Reads h v p as
 | .none,v,p,x,e=>by simp only [D.py,Option.some.injEq] at e;unfold V at x;subst x;subst e;exact ⟨_,.none⟩
 | .bool b,v,p,x,e=>by simp only [D.py,Option.some.injEq] at e;unfold V at x;subst x;subst e;exact ⟨_,.bool b⟩
 | .int i,v,p,x,e=>by simp only [D.py,Option.some.injEq] at e;unfold V at x;obtain ⟨t,rfl⟩:=x;subst e;exact ⟨_,.int i t⟩
 | .str y,v,p,x,e=>by simp only [D.py,Option.some.injEq] at e;unfold V at x;obtain ⟨t,rfl⟩:=x;subst e;exact ⟨_,.str y t⟩
 | .tup ds,v,p,x,e=>by
  simp only [D.py] at e
  obtain ⟨ps,hp,rfl⟩:=Option.map_eq_some_iff.mp e
  unfold V at x
  obtain ⟨a,vs,n,rfl,nk,g,r⟩:=x
  obtain ⟨as,ra⟩:=Vs.reads ds vs ps r hp
  exact ⟨as,.tuple g rfl rfl (by rw [List.toList_toArray];exact ra)⟩
 | .lst ds,v,p,x,e=>by
  simp only [D.py] at e
  obtain ⟨ps,hp,rfl⟩:=Option.map_eq_some_iff.mp e
  unfold V at x
  obtain ⟨a,vs,n,rfl,nk,g,r⟩:=x
  obtain ⟨as,ra⟩:=Vs.reads ds vs ps r hp
  exact ⟨a::as,.list g rfl rfl (by rw [List.toList_toArray];exact ra)⟩
 | .sys C sz ru,v,p,x,e=>by simp [D.py] at e
 | .own C dx,v,p,x,e=>by simp [D.py] at e
 | .exc C,v,p,x,e=>by simp [D.py] at e
 | .typ T,v,p,x,e=>by simp [D.py] at e
 | .ref a,v,p,x,e=>by simp [D.py] at e
theorem Vs.reads {K:List Addr}{h:Heap}:∀(ds:List D) (vs:List Value) (ps:List PyData),Vs K h ds vs->uE ds=some ps->∃as,ReadsAll h vs ps as
 | [],vs,ps,x,e=>by simp only [uE,Option.some.injEq] at e;unfold Vs at x;subst x;subst e;exact ⟨_,.nil⟩
 | d::ds,vs,ps,x,e=>by
  simp only [uE] at e
  obtain ⟨p,hp,e⟩:=Option.bind_eq_some_iff.mp e
  obtain ⟨q,hq,rfl⟩:=Option.map_eq_some_iff.mp e
  unfold Vs at x
  obtain ⟨v,r,rfl,x1,x2⟩:=x
  obtain ⟨a1,r1⟩:=V.reads d v p x1 hp
  obtain ⟨a2,r2⟩:=Vs.reads ds r q x2 hq
  exact ⟨_,.cons r1 r2⟩
end
structure Py (n:Nat)(d:D)(p:PyData):Prop where
 py:d.py=some p
 can:p.canLay0=true
 dep:p.depth<=n
structure PyAll (n:Nat)(ds:List D)(ps:List PyData):Prop where
 py:uE ds=some ps
 can:PyData.canLayAll0 ps=true
 dep:PyData.depthAll ps<=n
theorem Py.int {n:Nat}{i:Int}:Py (n+1) (.int i) (.int i):=⟨rfl,rfl,by simp [PyData.depth]⟩
theorem Py.str {n:Nat}{x:Str}(h:PyData.strOk x=true):Py (n+1) (.str x) (.str x):=⟨rfl,h,by exact Nat.zero_le _⟩
theorem Py.tup {n:Nat}{ds:List D}{ps:List PyData}(x:PyAll n ds ps):Py (n+1) (.tup ds) (.tuple ps):=⟨by simp [D.py,x.py],x.can,by exact Nat.succ_le_succ x.dep⟩
theorem Py.lst {n:Nat}{ds:List D}{ps:List PyData}(x:PyAll n ds ps):Py (n+1) (.lst ds) (.list ps):=⟨by simp [D.py,x.py],x.can,by exact Nat.succ_le_succ x.dep⟩
theorem PyAll.nil {n:Nat}:PyAll n [] []:=⟨rfl,rfl,by simp [PyData.depthAll]⟩
theorem PyAll.cons {n:Nat}{d:D}{p:PyData}{ds:List D}{ps:List PyData}(x:Py n d p)(y:PyAll n ds ps):PyAll n (d::ds) (p::ps):=⟨by simp [uE,x.py,y.py],by simp [PyData.canLayAll0,x.can,y.can],by exact Nat.max_le.mpr ⟨x.dep,y.dep⟩⟩
theorem PyAll.map {α:Type}{n:Nat}{F:α->D}{G:α->PyData}:∀{l:List α},(∀x∈l,Py n (F x) (G x))->PyAll n (l.map F) (l.map G)
 | [],_=>.nil
 | a::r,h=>.cons (h a (.head _)) (PyAll.map fun x hx=>h x (.tail _ hx))
inductive PyT (σ:Sto):Nat->D->PyData->Prop
 | of {n:Nat} {d:D} {p:PyData} (x:Py n d p):PyT σ n d p
 | ref {n:Nat} {a:Addr} {ds:List D} {ps:List PyData} (m:(a,O.lst ds)∈σ) (x:PyAll n ds ps):PyT σ (n+1) (.ref a) (.list ps)
theorem PyT.reads {c:Cx}{A:Around}{fr:List Addr}{σ:Sto}{n:Nat}{d:D}{p:PyData}{h:Heap}{v:Value}(x:PyT σ n d p)(ok:Ok c A fr σ h)(hv:V (keys σ++fr) h d v):(∃as,Reads h v p as)/\p.canLay0=true/\p.depth<=n:=by
 cases x with
 | of x=>exact ⟨V.reads d v p hv x.py,x.can,x.dep⟩
 | ref m x=>
  subst hv
  obtain ⟨vs,k,g,r⟩:=ok.sto _ m
  obtain ⟨as,ra⟩:=Vs.reads _ vs _ r x.py
  exact ⟨⟨_,.list g rfl rfl (by exact ra)⟩,x.can,by exact Nat.succ_le_succ x.dep⟩
section
variable {c:Cx} {A:Around} {fr:List Addr} {σ:Sto} {X:Addr->Sto->Prop} {Q:D->Sto->Prop} {env:Env} {m:Vars}
theorem Room.units {n k:Nat}(r:Room n A)(h:k<=90):A.units+1+k<cLine:=by
 exact z871 (r.1.2) (rfl) h
theorem WB.eqD {n k j:Nat}{d e:D}{p q:PyData}(r:Room j A)(x:PyT σ n d p)(y:PyT σ k e q)(h:Q (.bool (PyData.eqv p q)) σ)(hn:n<=90:=by first| decide| assumption):WB c A fr σ (compareOp .Eq) d e Q X:=fun v1 v2 s ok x1 x2=>by
 obtain ⟨⟨as,ra⟩,c1,d1⟩:=x.reads ok x1
 obtain ⟨⟨bs,rb⟩,c2,d2⟩:=y.reads ok x2
 exact SeqAt.compareEq_reads ra rb c1 c2 (by have:=r.units hn;exact z872 ‹_› d1) ⟨_,σ,Post.refl ..,ok,V.ofBool,h⟩
theorem WB.neD {n k j:Nat}{d e:D}{p q:PyData}(r:Room j A)(x:PyT σ n d p)(y:PyT σ k e q)(h:Q (.bool (!PyData.eqv p q)) σ)(hn:n<=90:=by first| decide| assumption):WB c A fr σ (compareOp .NotEq) d e Q X:=fun v1 v2 s ok x1 x2=>by
 obtain ⟨⟨as,ra⟩,c1,d1⟩:=x.reads ok x1
 obtain ⟨⟨bs,rb⟩,c2,d2⟩:=y.reads ok x2
 exact SeqAt.compareNe_reads ra rb c1 c2 (by have:=r.units hn;exact z872 ‹_› d1) ⟨_,σ,Post.refl ..,ok,V.ofBool,h⟩
theorem At1.intB {b:Bool}(h:Q (.int (if b then 1 else 0)) σ):At1 c A fr σ (.type "int") [.bool b] Q X:=.one fun s v ok hv=>by
 subst hv
 exact call_int_bool ⟨_,σ,Post.tok ..,ok,V.ofInt,h⟩
end
section
variable {c:Cx} {A:Around} {fr:List Addr} {σ σ1 σ2:Sto} {X:Addr->Sto->Prop} {Q:D->Sto->Prop} {env:Env} {m:Vars}
theorem Ok.put {a:Addr}{o o':O}{h h':Heap}(ok:Ok c A fr (σ1++(a,o)::σ2) h)(k:∀b ob,b≠a->h.get? b=some ob->h'.get? b=some ob)(x:IsO c.prog c.w (keys (σ1++(a,o)::σ2)++fr) h' a o'):Ok c A fr (σ1++(a,o')::σ2) h':=by
 have ek:keys (σ1++(a,o')::σ2)=keys (σ1++(a,o)::σ2):=by simp [keys]
 have ha:a∈keys (σ1++(a,o)::σ2):=by simp [keys]
 have nd:=ok.nd
 rw [List.nodup_append] at nd
 have nfr:∀b∈fr,b≠a:=fun b hb e=>nd.2.2 a ha b hb e.symm
 refine ⟨fun b ob e=>k b ob (fun z=>by subst z;replace e:=(ok.new b (List.mem_append_left _ ha) ..).symm.trans e;contradiction) (ok.base b ob e),fun p hp=> ?_,by rw [ek];exact ok.nd,by exact ek▸ok.new,fun b hb=> ?_,?_⟩
 ·rw [ek]
  have mv:=fun q hq hne=>
   IsO.move (fun b ob n e=>k b ob (fun z=>by cases z;exact n (List.mem_append_left _ ha)) e) (fun _ m=>.inl m) (fun ob e=>k _ _ hne e) (ok.sto q hq)
  have hnd':(σ1.map (·.1)).Nodup/\(a::σ2.map (·.1)).Nodup/\∀y∈σ1.map (·.1),∀z∈a::σ2.map (·.1),y≠z:=by
   have:(σ1.map (·.1)++a::σ2.map (·.1)).Nodup:=by simpa [keys] using (nd.1)
   exact List.nodup_append.mp this
  rcases List.mem_append.mp hp with hp| hp
  ·exact mv p (List.mem_append_left _ hp) fun e=>hnd'.2.2 p.1 (List.mem_map_of_mem hp) a (.head _) e
  ·rcases List.mem_cons.mp hp with rfl| hp
   ·exact x
   ·exact mv p (List.mem_append_right _ (.tail _ hp)) fun e=>(List.nodup_cons.mp hnd'.2.1).1 (e▸List.mem_map_of_mem hp)
 ·obtain ⟨ob,e⟩:=ok.live b hb
  exact ⟨ob,k b ob (nfr b hb) e⟩
 ·obtain ⟨l,hl,b,d,f⟩:=ok.stack
  have nw:=fun x hx=>nfr x (d x hx)
  refine ⟨l,hl,?_,d,fun x hx=> ?_⟩
  ·exact FunFrames.turn (fr:=l.filterMap (·.frame)) (fun x o hx g k'=>⟨o,k _ _ (nw x hx) g,k'⟩) b fun x hx=>hx
  ·obtain ⟨o,es,n,g,r⟩:=f x hx;exact ⟨o,es,n,k _ _ (nw x hx) g,r⟩
theorem Post.put {F:List Addr}{a:Addr}{o o':O}{s:Shared}{h':Heap}{tk:Nat}(hn:a∉fr)(k:∀b ob,b≠a->s.heap.get? b=some ob->h'.get? b=some ob)(l:∃ob,h'.get? a=some ob):Post F fr (σ1++(a,o)::σ2) s {s with heap:=h',toks:=tk} (σ1++(a,o')::σ2):=by
 exact {
  shape:=⟨h',tk,rfl⟩
  kept:=fun b ob n e=>k b ob (fun z=>n (by exact z▸List.mem_append_left _ (by simp [keys]))) e
  slots:=fun b ob m n e=>⟨ob.slots,k b ob (fun z=>hn (z▸m)) e,fun _=>rfl⟩
  alive:=fun b ob e=>by
   by_cases z:b=a
   ·subst z;exact l
   ·exact ⟨ob,k _ _ z e⟩
  grow:=fun _ m=>.inl ((by simp [keys]:keys (σ1++(a,o')::σ2)=keys (σ1++(a,o)::σ2))▸m)}
theorem newL {ds:List D}{vs:List Value}{s:Shared}{tk:Nat}(ok:Ok c A fr σ s.heap)(hvs:Vs (keys σ++fr) s.heap ds vs)(q:QL Q ds σ):Po c A none fr σ s V Q (.ref s.heap.objs.size) {s with heap:=s.heap.push (jk vs 0),toks:=tk}:=by
 have hn:∀a∈[s.heap.objs.size],s.heap.get? a=none:=fun a ha=>by rw [List.mem_singleton.mp ha];exact jg (Nat.le_refl _)
 have k1:∀b o,s.heap.get? b=some o->(s.heap.push (jk vs 0)).get? b=some o:=fun b o e=>Heap.get?_push_of_some _ e
 have g:(s.heap.push (jk vs 0)).get? s.heap.objs.size=some (jk vs 0):=Heap.get?_push_size _ rfl
 have oka:=ok.more k1 hn (fun a ha=>by rw [List.mem_singleton.mp ha];exact ⟨_,g⟩) (by simp)
 exact QL.use (G:=none) (s':={s with heap:=s.heap.push (jk vs 0),toks:=tk}) q (Post.keeps k1) oka ok.frames_in g (Vs.move (K:=keys σ++fr) (fun b o _ e=>k1 b o e) (jC hn) _ _ hvs) (hn _ (by exact .head _))
theorem newT {ds:List D}{vs:List Value}{s:Shared}{tk:Nat}(ok:Ok c A fr σ s.heap)(hvs:Vs (keys σ++fr) s.heap ds vs)(q:Q (.tup ds) σ):Po c A none fr σ s V Q (.ref s.heap.objs.size) {s with heap:=s.heap.push (yC vs 0),toks:=tk}:=by
 have k1:∀b o,s.heap.get? b=some o->(s.heap.push (yC vs 0)).get? b=some o:=fun b o e=>Heap.get?_push_of_some _ e
 refine ⟨.tup ds,σ,Post.keeps (tk:=tk) k1,ok.keeps k1,?_,q⟩
 refine ⟨_,vs,0,rfl,fun z=> ?_,Heap.get?_push_size _ rfl,Vs.move (K:=keys σ++fr) (fun b o _ e=>k1 b o e) (fun a ha=>.inl ha) _ _ hvs⟩
 exact Nat.lt_irrefl _ (ok.lt z)
theorem SD.Fz.list {sd:SD}{h:Heap}{l:Addr}(x:sd.Fz (keys σ++fr) h l)(ok:Ok c A fr σ h)(inv:sd.inv σ)(hL:sd.isL=true):∃vs n,h.get? l=some (jk vs n)/\Vs (keys σ++fr) h sd.ds vs:=by
 cases sd with
 | lst ds=>obtain ⟨a,vs,n,g,r⟩:=x;exact ⟨vs,n,g,r⟩
 | tup ds=>contradiction
 | ref a ds=>
  obtain ⟨vs,n,g,r⟩:=ok.sto _ inv
  obtain rfl:l=a:=x
  exact ⟨vs,n,g,r⟩
theorem SD.Fz.tuple {sd:SD}{h:Heap}{l:Addr}(x:sd.Fz (keys σ++fr) h l)(hL:sd.isL=false):∃vs n,h.get? l=some (yC vs n)/\Vs (keys σ++fr) h sd.ds vs:=by
 cases sd with
 | lst ds=>contradiction
 | tup ds=>obtain ⟨a,vs,n,g,r⟩:=x;exact ⟨vs,n,g,r⟩
 | ref a ds=>contradiction
theorem WB.addL {sd1 sd2:SD}(h1:sd1.isL=true)(h2:sd2.isL=true)(i1:sd1.inv σ)(i2:sd2.inv σ)(hsz:sd1.ds.length+sd2.ds.length<=sizeLine)(h:QL Q (sd1.ds++sd2.ds) σ):WB c A fr σ (binaryOp .Add) sd1.d sd2.d Q X:=fun v1 v2 s ok x1 x2=>by
 obtain ⟨l,rfl,z⟩:=SD.of_v x1
 obtain ⟨b,rfl,y⟩:=SD.of_v x2
 obtain ⟨vs,n,g,r⟩:=z.list ok i1 h1
 obtain ⟨us,k,g',r'⟩:=y.list ok i2 h2
 refine P.add_list g g' ?_ (by simp [r.length,r'.length];exact hsz)
 exact (by simp:(vs.toArray++us.toArray)=(vs++us).toArray)▸newL (tk:=s.toks) ok (r.append r') h
theorem WB.addT {ds es:List D}(h1:ds≠[])(h2:es≠[])(hsz:ds.length+es.length<=sizeLine)(h:Q (.tup (ds++es)) σ):WB c A fr σ (binaryOp .Add) (.tup ds) (.tup es) Q X:=fun v1 v2 s ok x1 x2=>by
 obtain ⟨l,rfl,z⟩:=SD.of_v (sd:=.tup ds) x1
 obtain ⟨b,rfl,y⟩:=SD.of_v (sd:=.tup es) x2
 obtain ⟨vs,n,g,r⟩:=z.tuple rfl
 obtain ⟨us,k,g',r'⟩:=y.tuple rfl
 have e1:vs≠[]:=fun e=>h1 (by have:=r.length;subst e;exact List.eq_nil_of_length_eq_zero this.symm)
 refine P.add_tuple g g' (by simpa using e1) (by simpa using (fun e=>h2 (by subst e;exact List.eq_nil_of_length_eq_zero (r'.length).symm))) ?_ (by simp [r.length,r'.length];exact hsz)
 exact (by simp:(vs.toArray++us.toArray)=(vs++us).toArray)▸newT (tk:=s.toks) ok (r.append r') h
theorem uF (x:List Value):∀(n:Nat) (acc:Array Value),List.foldl (fun x1 x2=>x1++x2) acc (List.replicate n x.toArray)=acc++(List.replicate n x).flatten.toArray
 | 0,acc=>by rfl
 | n+1,acc=>by simp only [List.replicate_succ,List.foldl_cons,uF x n];simp
theorem Vs.rep {K:List Addr}{h:Heap}{ds:List D}{vs:List Value}(x:Vs K h ds vs):∀n,Vs K h (List.replicate n ds).flatten (List.replicate n vs).flatten
 | 0=>Vs.nil
 | n+1=>by exact x.append (Vs.rep x n)
theorem WB.mulL {sd:SD}{k:Int}(h1:sd.isL=true)(i1:sd.inv σ)(hlo: -(2^63)<=k)(hhi:k<2^63)(hsz:sd.ds.length*k.toNat<=2^24)(h:QL Q (List.replicate k.toNat sd.ds).flatten σ):WB c A fr σ (binaryOp .Mult) sd.d (.int k) Q X:=fun v1 v2 s ok x1 x2=>by
 obtain ⟨l,rfl,z⟩:=SD.of_v x1
 obtain ⟨u,rfl⟩:=x2.toInt
 obtain ⟨vs,n,hl,r⟩:=z.list ok i1 h1
 have hz:vs.toArray.size*k.toNat<=2^24:=by rw [List.size_toArray,r.length];exact hsz
 refine wpAny_binaryOp_repeat_ref (T:="list") (U:="int") (by decide) ⟨_,hl,rfl⟩ (fun s'=>typeIs_int s' k u) noFill_list_mul F.fills_int_mul F.slot_int_rmul repeat_list F.slot_int_index.lookup
  (call_meets F.slot_int_rmul (typeIs_int s k u) F.entry_int_rmul (F.args_int_rmul_2 _ _) (int___rmul___int_list k u l vs.toArray n)
   ⟨hl,rfl,⟨_,hl,rfl⟩,call_meets F.slot_list_mul ⟨_,hl,rfl⟩ F.entry_list_mul (F.args_list_mul_2 _ _)
    (AutoListH.list___mul___list_int_3 l vs.toArray n k u (by simp [Builtin.List.listFitsIndex];exact z875 hlo hhi) (z876 hz) (by simp [Builtin.List.listTooLong];exact z874 (by trivial)))
    ⟨hl,?_⟩⟩)
 have e:List.foldl (fun x1 x2=>x1++x2) #[] (List.replicate (if vs.toArray.isEmpty=true then 0 else k.toNat) vs.toArray)=(List.replicate k.toNat vs).flatten.toArray:=by
  rw [uF]
  by_cases hv:vs=[]
  ·subst hv;simp
  ·simp [hv]
 rw [e]
 exact newL (tk:=s.toks) ok (r.rep _) h
theorem WE.methL {o:Expr}{name:Str}{id:String}{apos pos:Pos}{args:List Expr}(slot:Slot "list" name id)(hty:typeOf (.builtin id)=pure (.type "method_descriptor"))
  (h:WE c A fr env m σ o (fun d σ1=>∃sd:SD,d=sd.d/\sd.isL=true/\sd.inv σ1/\WA c A fr env m σ1 args (fun ds σ2=>At1 c A fr σ2 (.builtin id) (d::ds) Q X) X) X)
  (hp:jc args=true:=by rfl) (hb:∀w,attributeBase o name env w=w:=by intro _;rfl) (hl:(apos.endLine==pos.line)=true:=by rfl) (hn:decide (args.length<30)=true:=by rfl):
  WE c A fr env m σ (.Call (.Attribute o name apos) args [] pos) Q X:=fun s ok fm=>by
 have hst:=jd (env:=env) (pos:=pos) hp
 show wpAny _ A (do let ov<-attributeBase o name env (eval o env);standAt apos.atName;methodCall o name apos pos env ov (args.length+([]:List Keyword).length) (backTo pos (starEach args env)) (backToKw pos (keywordEach [] env))) _ _ s
 rw [hb]
 refine wpAny_bind (wpAny_mono (h s ok fm) (fun ov s1 hz=> ?_) fun _ _ x=>x)
 obtain ⟨d,σ1,p1,ok1,x1,sd,hsd,hL,inv,q1⟩:=hz
 subst hsd
 refine wpAny_bind (wpAny_standAt ?_)
 obtain ⟨l,rfl,z⟩:=SD.of_v x1
 obtain ⟨vs,n,g,r⟩:=z.list ok1 inv hL
 have few:methodCallForm (args.length+([]:List Keyword).length) (backTo pos (starEach args env)) (backToKw pos (keywordEach [] env))=true:=by
  unfold methodCallForm
  have a3:backToKw pos (keywordEach [] env)=[]:=rfl
  rw [(List.all_eq_true.mpr fun x hx=>by rw [hst x hx];rfl),a3]
  trivial
 unfold methodCall
 rw [few]
 refine wpAny_bind (wpAny_holding ?_)
 unfold calleeOf
 refine getMethod_builtin ⟨_,g,rfl⟩ F.plainAttrs_list slot hty (fun a e=>by injection e with e;subst e;exact ⟨_,g,rfl⟩) ?_
 rw [show methodCallPos true o env apos pos=pure pos from if_pos (by rw [hl];rfl)]
 refine wpAny_bind (wpAny_pure ?_)
 refine callWith_builtin (by rw [List.any_eq_false];intro x hx;simp [hst x hx]) (jq hst (wpAny_mono (q1 pos s1 ok1 (fm.move p1)) (fun us s2 hz=> ?_) fun _ _ x=>Ex.back p1 x fun _ _ y=>y))
 obtain ⟨ds,σ2,p2,ok2,x2,q2⟩:=hz
 refine wpAny_mono (q2 s2 _ ok2 (Vs.cons (p2.v x1) x2)) (fun _ _ z=>z.back (p1.trans p2)) fun _ _ x=>Ex.back (p1.trans p2) x fun _ _ y=>y
end
section
variable {c:Cx} {A:Around} {fr:List Addr} {σ σ1 σ2:Sto} {X:Addr->Sto->Prop} {Q:D->Sto->Prop} {env:Env} {m:Vars} {N:Vars->Sto->Prop} {R:D->Sto->Prop}
theorem At1.append {a:Addr}{ds:List D}{d:D}(hsz:ds.length<=sizeLine)(h:Q .none (σ1++(a,.lst (ds++[d]))::σ2)):At1 c A fr (σ1++(a,.lst ds)::σ2) (.builtin "list.append") [.ref a,d] Q X:=.two fun s v u ok hv hu=>by
 subst hv
 obtain ⟨vs,n,g,r⟩:=ok.sto _ (by simp:(a,O.lst ds)∈σ1++(a,.lst ds)::σ2)
 have ha:a∈keys (σ1++(a,O.lst ds)::σ2):=by simp [keys]
 refine call_meets F.slot_list_append ⟨_,g,rfl⟩ F.entry_list_append (F.args_list_append_2 _ _) (list_append a vs.toArray n u (by simpa [r.length] using hsz)) ⟨g,?_⟩
 have k1:∀b ob,b≠a->s.heap.get? b=some ob->(s.heap.update a (Obj.mapSeq fun xs=>xs.push u)).get? b=some ob:=fun b ob hne e=>by exact (Heap.get?_update_ne _ _ _ _ hne ..).trans (e)
 obtain ⟨n',g'⟩:∃n',(s.heap.update a (Obj.mapSeq fun xs=>xs.push u)).get? a=some (jk (vs++[u]) n'):=by
  have e:=IsL.update (h:=s.heap) (l:=a) (items:=vs.toArray) (n:=n) g fun xs=>xs.push u
  exact ⟨_,((by simp:vs.toArray.push u=(vs++[u]).toArray)▸e)⟩
 refine ⟨.none,_,Post.put (tk:=s.toks) (o':=.lst (ds++[d])) (fun z=>(List.nodup_append.mp ok.nd).2.2 a ha a z rfl) k1 ⟨_,g'⟩,Ok.put ok k1 ⟨vs++[u],n',g',?_⟩,by rfl,h⟩
 exact Vs.move (fun b ob nb e=>k1 b ob (fun z=>nb (by simp only [z];exact List.mem_append_left _ ha)) e) (fun _ m=>.inl m) _ _ (r.snoc hu)
theorem W1.expr {e:Expr}{pos:Pos}(h:WE c A fr env m σ e (fun _ σ'=>N m σ') X)(hs:swapsWith e none pos.line env=pure false):W1 c A fr env m σ (.Expr e pos) N R X:=fun s ok fm=>by
 refine wpAny_Expr_any (wpAny_mono (h s ok fm) (fun v s1 hz=> ?_) fun _ _ x=>x.wide fm) (by unfold interactive;rw [fm.kind];rfl) hs
 obtain ⟨d,σ1,p1,ok1,x1,q1⟩:=hz
 exact ⟨.next m,σ1,p1.wide (by exact List.nil_subset _),ok1,⟨rfl,fm.move p1⟩,q1⟩
end
end Mine
namespace Mine
open PySem PySem.Calls PyProof.Rows PySem.SeqAt PySem.MeetsSeq PySem.MeetsSeq2 PySem.MeetsSeq3 PySem.SeqRoads2
noncomputable def OpAt (A:Around)(s:Shared)(op:CmpOp)(y x r:Value):Prop:=
 ∀(prog:Program) (w:World) (E:Value->Shared->Prop) (Q:Value->Shared->Prop),Q r s->wpAny (model prog w) A (richCompare op y x) Q E s
theorem US (l b:Addr)(items items2:Array Value)(n n2:Nat)(e:Nat->Bool)(r:Value):
  Meets (Builtin.«tuple.__lt__» ⟨[.ref l,.ref b],[]⟩)
   (fun A R s=>s.heap.get? l=some {cls:=.type "tuple",dict:=none,data:=.seq items n,slots:= #[]}/\s.heap.get? b=some {cls:=.type "tuple",dict:=none,data:=.seq items2 n2,slots:= #[]}/\
    (∀j (h1:j<items.size) (h2:j<items2.size),SeqAt.EqAt A.in1 s items[j] items2[j] (e j))/\
    (∀j (h1:j<items.size) (h2:j<items2.size),e j=false->(∀i,i<j->e i=true)->OpAt A.in1 s .Lt items[j] items2[j] r)/\
    ((∀i,i<min items.size items2.size->e i=true)->Builtin.Tuple.tupleCompareSizes .Lt items.size items2.size=r)/\
    R (.ok (.ret r)) s):=
 .of_wp fun prog w A R s h=>by
  obtain ⟨hp,g,d,tk,os⟩:=s;obtain ⟨hl,hb,he,ho,hz0,h⟩:=h
  have f2:=AutoSeq1.sub_tuple_tuple
  have hZ:(items.toList.zip items2.toList).length=min items.size items2.size:=by simp
  wp_walk using AutoSeq1.wpAny_loadPart' hl,AutoSeq1.wpAny_loadPart' hb,wpAny_forIn_list _ (fun rest b s'=>b.1=none/\s'=⟨hp,g,d,tk,os⟩/\∃i,rest=(items.toList.zip items2.toList).drop i/\∀j,j<i->e j=true) _
  case turn=>
   rintro ⟨y,x⟩ rest b s' ⟨hb',rfl,i,hz,hR⟩
   have hlt:i<(items.toList.zip items2.toList).length:=by
    rcases Nat.lt_or_ge i (items.toList.zip items2.toList).length with h'| h'
    ·exact h'
    ·rw [List.drop_of_length_le h'] at hz;cases hz
   have hm:i<min items.size items2.size:=hZ▸hlt
   have h1:i<items.size:=Nat.lt_of_lt_of_le hm (Nat.min_le_left _ _)
   have h2:i<items2.size:=Nat.lt_of_lt_of_le hm (Nat.min_le_right _ _)
   rw [List.drop_eq_getElem_cons hlt] at hz
   injection hz with hyx hrest
   have hy:y=items[i]:=by have:=congrArg Prod.fst hyx;simpa using this
   have hx:x=items2[i]:=by have:=congrArg Prod.snd hyx;simpa using this
   subst hy hx
   refine wpAny_bind (he i h1 h2 prog w _ _ ?_)
   cases hy:e i with
   | true=>
    wp_walk
    exact ⟨rfl,rfl,i+1,hrest,fun j hj=>by
     by_cases hji:j=i
     ·subst hji;exact hy
     ·exact hR j (z6 hj hji)⟩
   | false=>
    refine wpAny_bind (wpAny_rule ?_)
    refine wpAny_bind (ho i h1 h2 hy hR prog w _ _ ?_)
    wp_walk
    exact ⟨_,rfl,h⟩
  case fin=>
   rintro ⟨b1,b2⟩ s' ⟨hb',rfl,i,hz,hR⟩
   simp only at hb'
   subst hb'
   have hge:min items.size items2.size<=i:=by
    rcases Nat.lt_or_ge i (items.toList.zip items2.toList).length with h'| h'
    ·rw [List.drop_eq_getElem_cons h'] at hz;cases hz
    ·exact hZ▸h'
   have e2:=hz0 fun j hj=>hR j (z935 hj hge)
   wp_walk
   exact ⟨_,rfl,by rw [e2];exact h⟩
  case h=>
   exact ⟨rfl,rfl,0,rfl,fun j hj=>by lia⟩
theorem OpAt.tuple_lt {A:Around}{s:Shared}{l b:Addr}{vs us:List Value}{n n2:Nat}{e:Nat->Bool}{r:Bool}(hl:s.heap.get? l=some (yC vs n))(hb:s.heap.get? b=some (yC us n2))(hu:A.units<cLine)
  (he:∀j (h1:j<vs.toArray.size) (h2:j<us.toArray.size),SeqAt.EqAt A.in1 s vs.toArray[j] us.toArray[j] (e j))
  (ho:∀j (h1:j<vs.toArray.size) (h2:j<us.toArray.size),e j=false->(∀i,i<j->e i=true)->OpAt A.in1 s .Lt vs.toArray[j] us.toArray[j] (.bool r))
  (hz:(∀i,i<min vs.toArray.size us.toArray.size->e i=true)->Builtin.Tuple.tupleCompareSizes .Lt vs.toArray.size us.toArray.size=.bool r):OpAt A s .Lt (.ref l) (.ref b) (.bool r):=fun prog w E Q h=>
 richCompare_meets_room (op:=.Lt) ⟨_,hl,rfl⟩ ⟨_,hb,rfl⟩ F.slot_tuple_lt F.entry_tuple_lt (F.args_tuple_lt_2 _ _) (US l b vs.toArray us.toArray n n2 e (.bool r))
  ⟨hl,hb,he,ho,hz,show Value.bool r≠Value.notImplemented/\Q (.bool r) s from ⟨(fun x=>nomatch x),h⟩⟩ hu
end Mine
namespace Mine
open PySem PySem.Calls PyProof.Rows PySem.W
section
variable {n:Nat} (hn:0<n)
include hn
end
noncomputable def jZ:List Int->List Int->Bool
 | [],[]=>false
 | [],_::_=>true
 | _::_,[]=>false
 | a::r,b::t=>decide (a<b)|| (a==b&&jZ r t)
theorem yD:∀a,jZ a a=false
 | []=>rfl
 | a::r=>by simp [jZ,yD r]
theorem Y6:∀{a b c:List Int},jZ a b=true->jZ b c=true->jZ a c=true
 | [],[],_,h,_=>by simp [jZ] at h
 | [],_::_,[],_,h=>by simp [jZ] at h
 | [],_::_,_::_,_,_=>rfl
 | _::_,[],_,h,_=>by simp [jZ] at h
 | _::_,_::_,[],_,h=>by simp [jZ] at h
 | a::r,b::t,c::u,h1,h2=>by
  simp only [jZ,Bool.or_eq_true,decide_eq_true_eq,Bool.and_eq_true,beq_iff_eq] at h1 h2⊢
  rcases h1 with h1| ⟨rfl,h1⟩
  ·rcases h2 with h2| ⟨rfl,h2⟩
   ·exact .inl (z936 h1 h2)
   ·exact .inl h1
  ·rcases h2 with h2| ⟨rfl,h2⟩
   ·exact .inl h2
   ·exact .inr ⟨rfl,Y6 h1 h2⟩
theorem Y7:∀{a b:List Int},jZ a b=false->jZ b a=false->a=b
 | [],[],_,_=>rfl
 | [],_::_,h,_=>by simp [jZ] at h
 | _::_,[],_,h=>by simp [jZ] at h
 | a::r,b::t,h1,h2=>by
  simp only [jZ,Bool.or_eq_false_iff,decide_eq_false_iff_not,Bool.and_eq_false_iff] at h1 h2
  obtain rfl:a=b:=z937 h1.1 h2.1
  exact congrArg _ (Y7 (h1.2.resolve_left (by simp)) (h2.2.resolve_left (by simp)) ..)
theorem Y8:∀{xs ys:List Int} {j:Nat} {a b:Int},(∀i,i<j->xs[i]? =ys[i]?)->xs[j]? =some a->ys[j]? =some b->a≠b->jZ xs ys=decide (a<b)
 | [],_,j,a,b,_,h,_,_=>by contradiction
 | _::_,[],j,a,b,_,_,h,_=>by contradiction
 | x::xs,y::ys,0,a,b,_,hx,hy,hne=>by
  simp only [List.getElem?_cons_zero,Option.some.injEq] at hx hy
  subst hx;subst hy
  simp [jZ,hne]
 | x::xs,y::ys,j+1,a,b,h,hx,hy,hne=>by
  have e:x=y:=by simpa using h 0 z446
  subst e
  simp [jZ,(Y8 (xs:=xs) (ys:=ys) (j:=j) (fun i hi=>by simpa using h (i+1) (z938 hi)) (by simpa using hx) (by simpa using hy) hne)]
theorem uG:∀{xs ys:List Int},(∀i,i<min xs.length ys.length->xs[i]? =ys[i]?)->jZ xs ys=decide (xs.length<ys.length)
 | [],[],_=>rfl
 | [],_::_,_=>by rfl
 | _::_,[],_=>by rfl
 | x::xs,y::ys,h=>by
  have e:x=y:=by simpa using h 0 (by simp)
  subst e
  simp [jZ,(uG (xs:=xs) (ys:=ys) fun i hi=>by simpa using h (i+1) (by simp;exact hi))]
noncomputable def jE (a b:List Int):Bool:=decide (a.sum<b.sum)|| (a.sum==b.sum&&jZ a b)
theorem Jb (a:List Int):jE a a=false:=by simp [jE,yD]
theorem JT {a b c:List Int}(h1:jE a b=true)(h2:jE b c=true):jE a c=true:=by
 simp only [jE,Bool.or_eq_true,decide_eq_true_eq,Bool.and_eq_true,beq_iff_eq] at h1 h2⊢
 rcases h1 with h1| ⟨e1,h1⟩
 ·rcases h2 with h2| ⟨e2,h2⟩<;>exact .inl (by lia)
 ·rcases h2 with h2| ⟨e2,h2⟩
  ·exact .inl (z940 h2 e1)
  ·exact .inr ⟨z941 e1 e2,Y6 h1 h2⟩
theorem JU {a b:List Int}(h1:jE a b=false)(h2:jE b a=false):a=b:=by
 simp only [jE,Bool.or_eq_false_iff,decide_eq_false_iff_not,Bool.and_eq_false_iff] at h1 h2
 have e:=z937 h1.1 h2.1
 exact Y7 (h1.2.resolve_left (by simp [e])) (h2.2.resolve_left (by simp [e]))
noncomputable def yu (a b:List Int):Prop:=jE b a=false
theorem uH {α:Type}{p q:α->Bool}:∀{l:List α} {x:α},x∈l->q x=true->p x=false->(∀y∈l,p y=true->q y=true)->l.countP p<l.countP q
 | [],x,hx,_,_,_=>by cases hx
 | a::r,x,hx,hq,hp,h=>by
  rcases List.mem_cons.mp hx with rfl| hx
  ·simp [hq,hp];exact z942 (List.countP_mono_left fun y hy e=>h y (.tail _ hy) e)
  ·have:=uH hx hq hp fun y hy=>h y (.tail _ hy)
   have h0:=h a (.head _)
   cases hpa:p a<;>cases hqa:q a<;>simp [hpa,hqa] at h0⊢<;>lia
end Mine
namespace Mine
open PySem PySem.Calls PyProof.Rows PySem.W PySem.SeqAt
noncomputable abbrev row (is:List Int):D:=.tup (is.map .int)
noncomputable abbrev keyD (is:List Int):D:=.tup [.int is.sum,row is]
theorem Vs.int {K:List Addr}{h:Heap}{is:List Int}{vs:List Value}(x:Vs K h (is.map .int) vs){j:Nat}{v:Value}(e:vs[j]? =some v):∃i t,is[j]? =some i/\v=.int i t:=by
 obtain ⟨d,e1,e2⟩:=x.get e
 replace e1:=(List.getElem?_map ..).symm.trans e1
 obtain ⟨i,hi,rfl⟩:=Option.map_eq_some_iff.mp e1
 obtain ⟨t,rfl⟩:=e2.toInt
 exact ⟨i,t,hi,rfl⟩
theorem EqAt.ints {A:Around}{s:Shared}{i j:Int}{t u:Tok}(hu:A.units+5<cLine):EqAt A s (.int i t) (.int j u) (i==j):=
 eqAt_reads (.int i) (.int j) A s _ _ [] [] (.int i t) (.int j u) rfl rfl (by exact z606 hu)
theorem WV {vs:List Value}{j:Nat}(h:j<vs.toArray.size):vs[j]? =some (vs.toArray[j]):=by
 simp
theorem OpAt.rowLt {A:Around}{s:Shared}{K:List Addr}{xs ys:List Int}{v u:Value}(hu:A.units+8<cLine)(x:V K s.heap (row xs) v)(y:V K s.heap (row ys) u):OpAt A s .Lt v u (.bool (jZ xs ys)):=by
 obtain ⟨a,vs,n,rfl,_,g,r⟩:=x
 obtain ⟨b,us,k,rfl,_,g',r'⟩:=y
 have l1:vs.length=xs.length:=by simpa using r.length
 have l2:us.length=ys.length:=by simpa using r'.length
 refine OpAt.tuple_lt (e:=fun j=>xs[j]? ==ys[j]?) g g' (z606 hu) (fun j h1 h2=> ?_) (fun j h1 h2 hne hall=> ?_) fun hall=> ?_
 ·obtain ⟨i,t,e1,e2⟩:=r.int (WV h1)
  obtain ⟨i',t',e1',e2'⟩:=r'.int (WV h2)
  simp only [e2,e2',e1,e1']
  have e:(some i==some i')=(i==i'):=rfl
  exact EqAt.ints (by exact z945 hu)
 ·obtain ⟨i,t,e1,e2⟩:=r.int (WV h1)
  obtain ⟨i',t',e1',e2'⟩:=r'.int (WV h2)
  simp only [e2,e2']
  exact (Y8 (fun i hi=>by simpa using hall i hi) e1 e1' (fun e=>by simp [e1,e1',e] at hne))▸fun prog w E Q h=>PyProof.Rows.lt_int h
 ·rw [uG fun i hi=>by simpa using hall i (by simpa [l1,l2] using hi)]
  simp [Builtin.Tuple.tupleCompareSizes,l1,l2]
theorem V.key {K:List Addr}{h:Heap}{xs:List Int}{v:Value}(x:V K h (keyD xs) v):∃a n t w,v=.ref a/\h.get? a=some (yC [.int xs.sum t,w] n)/\V K h (row xs) w:=by
 obtain ⟨a,vs,n,rfl,_,g,r⟩:=x
 obtain ⟨v1,r1,rfl,x1,r⟩:=r
 obtain ⟨v2,r2,rfl,x2,r⟩:=r
 subst r
 obtain ⟨t,rfl⟩:=x1.toInt
 exact ⟨a,n,t,v2,rfl,g,x2⟩
theorem EqAt.rows {A:Around}{s:Shared}{K:List Addr}{xs ys:List Int}{v u:Value}(hu:A.units+8<cLine)(x:V K s.heap (row xs) v)(y:V K s.heap (row ys) u):EqAt A s v u (decide (xs=ys)):=by
 have p1:Py 2 (row xs) (.tuple (xs.map PyData.int)):=.tup (.map fun _ _=>.int)
 have p2:Py 2 (row ys) (.tuple (ys.map PyData.int)):=.tup (.map fun _ _=>.int)
 obtain ⟨as,ra⟩:=V.reads _ _ _ x p1.py
 obtain ⟨bs,rb⟩:=V.reads _ _ _ y p2.py
 exact ((ked_eqvAll xs ys)▸(eqAt_reads _ _ A s _ _ as bs ra rb p1.can p2.can (by exact z946 hu (p1.dep))))
theorem Y9 {prog:Program}{w:World}{A:Around}{E:Value->Shared->Prop}{s:Shared}{K:List Addr}{xs ys:List Int}{v u:Value}{Q:Bool->Shared->Prop}(hu:A.units+12<cLine)(x:V K s.heap (keyD xs) v)(y:V K s.heap (keyD ys) u)(h:Q (jE xs ys) s):
  wpAny (model prog w) A (keyLt' (tuples' true) v u) Q E s:=by
 obtain ⟨a,n,t,p,rfl,g,xp⟩:=x.key
 obtain ⟨b,k,t',q,rfl,g',xq⟩:=y.key
 refine kat_lt g rfl g' rfl ?_
 refine kat_cons (EqAt.ints (z950 hu) prog w _ _ ?_)
 by_cases e:xs.sum=ys.sum
 ·have e1:(xs.sum==ys.sum)=true:=by simpa using e
  rw [e1]
  refine kat_yes (kat_cons (EqAt.rows (z951 hu) xp xq prog w _ _ ?_))
  by_cases e2:xs=ys
  ·subst e2
   simp only
   refine kat_yes (kat_nil ?_)
   rw [Jb] at h
   trivial
  ·simp only [decide_eq_false e2]
   refine kat_no (kat_one _ _ (OpAt.rowLt (z951 hu) xp xq prog w _ _ ?_))
   have e3:jE xs ys=jZ xs ys:=by simp [jE,e]
   rw [e3] at h
   exact h
 ·have e1:(xs.sum==ys.sum)=false:=by simpa using e
  rw [e1]
  refine kat_no ?_
  refine oneLt_int ?_
  rw [(by simp [jE,e]:jE xs ys=decide (xs.sum<ys.sum))] at h
  exact h
end Mine
set_option maxHeartbeats 1000000
namespace Mine
open PySem PySem.Calls PyProof.Rows PySem.W PySem.SeqAt
theorem Ok.around {c:Cx}{A B:Around}{fr:List Addr}{σ:Sto}{h:Heap}(ok:Ok c A fr σ h)(e:B.frames=A.frames):Ok c B fr σ h:=⟨ok.base,ok.sto,ok.nd,ok.new,ok.live,by exact e▸ok.stack⟩
theorem KatTups.of {K:List Addr}{h:Heap}:∀{rows:List (List Int)} {ks:List Value},Vs K h (rows.map keyD) ks->∃fs,KatTups h ks fs/\fs.length=rows.length/\∀v∈fs,∃i t,v=.int i t
 | [],ks,x=>by
  simp only [List.map_nil] at x
  subst x
  exact ⟨[],trivial,rfl,fun v hv=>by contradiction⟩
 | r::rs,ks,x=>by
  obtain ⟨v,us,rfl,x1,x2⟩:=x
  obtain ⟨fs,h1,h2,h3⟩:=KatTups.of x2
  obtain ⟨a,n,t,w,rfl,g,_⟩:=x1.key
  refine ⟨.int r.sum t::fs,PySem.W.KatTups.cons g rfl rfl rfl h1,by simp [h2],fun v hv=> ?_⟩
  rcases List.mem_cons.mp hv with rfl| hv
  ·exact ⟨_,_,rfl⟩
  ·exact h3 v hv
section
variable {c:Cx} {A:Around} {fr:List Addr} {σ:Sto} {X:Addr->Sto->Prop} {Q:D->Sto->Prop}
theorem Uq:∀{l:List (List Int)},l.length<2->l.Pairwise yu
 | [],_=>.nil
 | [_],_=>List.pairwise_singleton _ _
theorem Vs.snocMap {K:List Addr}{h:Heap}{rows:List (List Int)}{F:List Int->D}{i:Nat}{r:List Int}{vs:List Value}{v:Value}(x:Vs K h ((rows.take i).map F) vs)(e:rows[i]? =some r)(y:V K h (F r) v):Vs K h ((rows.take (i+1)).map F) (vs++[v]):=by
 obtain ⟨hi,rfl⟩:=List.getElem?_eq_some_iff.mp e
 rw [List.take_succ_eq_append_getElem hi,List.map_append]
 exact x.append (Vs.cons y Vs.nil)
end
end Mine
set_option maxHeartbeats 1000000
namespace Mine
open PySem PySem.Calls PyProof.Rows PySem.W PySem.SeqAt
theorem Room.in2 {n:Nat}{A:Around}(r:Room (n+1) A):Room n A.in1.in1:=by
 obtain ⟨⟨h1,h2⟩,h3⟩:=r
 refine ⟨⟨?_,?_⟩,h3⟩
 ·exact z963 h1
 ·exact z964 h2
theorem uI {env:Env}{scope sc:Scope}(h:env.scope=sc)(e:yd scope sc=true):yd scope env.scope=true:=by rw [h];exact e
theorem jl {cenv env:Env}{scope sc:Scope}(h:cenv.scope=UP scope env.scope)(e:env.scope=sc):cenv.scope=UP scope sc:=by rw [h,e]
section
variable {c:Cx} {A:Around} {fr:List Addr} {σ:Sto} {X:Addr->Sto->Prop} {Q:D->Sto->Prop} {env:Env} {m:Vars}
theorem WU.notB {b:Bool}(h:Q (.bool (!b)) σ):WU c A fr σ (unaryOp .Not) (.bool b) Q X:=fun v s ok x=>by
 subst x
 exact not_value (wpAny_truthy_bool ⟨_,σ,Post.refl ..,ok,V.ofBool,h⟩)
end
theorem jP {a b:Int}(h:a.natAbs<2^64):IntMulOk a b:=IntMulOk.of_left (intBits_le h)
theorem JV {a b:Int}(h:b.natAbs<2^64):IntMulOk a b:=IntMulOk.of_right (intBits_le h)
theorem j0Y (xs:List Int):∀ys:List Int,PyData.eqvAll (xs.map .int) (ys.map .int)=decide (xs=ys):=by
 induction xs with
 | nil=>intro ys;cases ys<;>rfl
 | cons x xs ih=>
  intro ys
  cases ys with
  | nil=>rfl
  | cons y ys=>
   simp only [List.map_cons,PyData.eqvAll,ih ys,PyData.eqv]
   by_cases h1:x=y<;>by_cases h2:xs=ys<;>simp [h1]
theorem Py.row {xs:List Int}{n:Nat}:Py (n+2) (row xs) (.tuple (xs.map .int)):=.tup (.map fun _ _=>.int)
theorem PyAll.rows {xs:List (List Int)}{n:Nat}:PyAll (n+2) (xs.map row) (xs.map fun r=>.tuple (r.map .int)):=.map fun _ _=>Py.row
section
variable {c:Cx} {A:Around} {fr:List Addr} {σ:Sto} {X:Addr->Sto->Prop} {Q:D->Sto->Prop} {env:Env} {m:Vars} {N:Vars->Sto->Prop} {R:D->Sto->Prop}
theorem Jc {x:Str}{d:D}(h:env.kindOf x=some .local\/env.kindOf x=some .cell):∀y∈[(x,d)],env.kindOf y.1=some .local\/env.kindOf y.1=some .cell:=fun y hy=>by
 rw [List.mem_singleton] at hy;subst hy;exact h
theorem kinds2 {x z:Str}{d e:D}(h:env.kindOf x=some .local\/env.kindOf x=some .cell)(h2:env.kindOf z=some .local\/env.kindOf z=some .cell):∀y∈[(x,d),(z,e)],env.kindOf y.1=some .local\/env.kindOf y.1=some .cell:=fun y hy=>by
 rcases List.mem_cons.mp hy with rfl| hy
 ·exact h
 ·exact Jc h2 y hy
theorem Loop.of {α:Type}{l:List α}{g:α->Vars}{Inv:Sto->Prop}{body:List Stmt}(L:Nat->Vars->Sto->Prop)(hk:∀i∈l,∀y∈g i,env.kindOf y.1=some .local\/env.kindOf y.1=some .cell)(h0:L 0 m σ)(hinv:∀k m' σ',L k m' σ'->Inv σ')
  (step:∀k i m' σ',l[k]? =some i->L k m' σ'->∀fr',WS c A fr' env (g i++m') σ' body (fun m'' σ''=>L (k+1) m'' σ'') R X) (fin:∀m' σ',L l.length m' σ'->N m' σ'):Loop c A env m body N R X (l.map g) Inv σ:=by
 refine ⟨fun x hx=> ?_,L,h0,hinv,fun k x m' σ' hx hL fr'=> ?_,fun m' σ' hL=>fin m' σ' (by rwa [List.length_map] at hL)⟩
 ·obtain ⟨i,hi,rfl⟩:=List.mem_map.mp hx
  exact hk i hi
 ·rw [List.getElem?_map] at hx
  obtain ⟨i,hi,rfl⟩:=Option.map_eq_some_iff.mp hx
  exact step k i m' σ' hi hL fr'
theorem W1.forL {tg iter:Expr}{body:List Stmt}{pos:Pos}{sc:Scope}(fe:Fe A env sc)(h:WIt c A fr env m σ iter tg (Loop c A env m body N R X) X)(hs:∀x,foldedSetIterable iter env x=pure x:=by intro _;rfl):W1 c A fr env m σ (.For tg iter body [] pos) N R X:=
 W1.for_ fe.stack fe.frame h hs
end
theorem j0Z {P Q:Prop}(h:P):if true=true then P else Q:=by rw [if_pos rfl];exact h
theorem U9 {P Q:Prop}(h:Q):if false=true then P else Q:=by rw [if_neg (by simp)];exact h
section
variable {c:Cx} {A:Around} {fr:List Addr} {σ:Sto} {X:Addr->Sto->Prop} {Q:D->Sto->Prop} {a b:Int}
theorem WB.modE (hb:0<b)(hs:b.natAbs<2^64)(h:Q (.int (a % b)) σ):WB c A fr σ (binaryOp .Mod) (.int a) (.int b) Q X:=
 WB.mod (z775 hb) hs (by exact (Int.fmod_eq_emod_of_nonneg a (z275 hb))▸h)
theorem WB.fdivE (hb:0<b)(hs:b.natAbs<2^64)(h:Q (.int (a/b)) σ):WB c A fr σ (binaryOp .FloorDiv) (.int a) (.int b) Q X:=
 WB.fdiv (z775 hb) hs (by exact (Int.fdiv_eq_ediv_of_nonneg a (z275 hb))▸h)
end
section
variable {c:Cx} {A:Around} {fr:List Addr} {σ:Sto} {X:Addr->Sto->Prop} {Q:D->Sto->Prop}
theorem WSb.at {value slice:Expr}{sd:SD}{i:Int}{k:Nat}{d:D}(e:i=(k:Int))(inv:sd.inv σ)(hk:sd.ds[k]? =some d)(hk2:k<2^60)(h:Q d σ)
  (hs:∀l u,subscripted slice false (.ref l) (.int i u)=operate [.ref l,.int i u] (getItem (.ref l) (.int i u)):=by intro _ _;with_unfolding_all rfl):WSb c A fr σ value slice sd.d (.int i) Q X:=by
 subst e
 refine WSb.item inv z967 (z968 hk2) z969 ?_ h hs
 have:¬((k:Int)<0):=z619
 exact hk
end
section
variable {c:Cx} {A:Around} {fr:List Addr} {σ:Sto} {X:Addr->Sto->Prop} {Q:D->Sto->Prop} {env:Env} {m:Vars} {N:Vars->Sto->Prop} {R:D->Sto->Prop}
theorem QO.mono {J N:Vars->Sto->Prop}{R:D->Sto->Prop}(k:∀m' σ',J m' σ'->N m' σ'){b:Out}{σ:Sto}(h:QO J R b σ):QO N R b σ:=by
 cases b with
 | next m=>exact k _ _ h
 | ret d=>exact h
theorem W1.join {st:Stmt}(J:Vars->Sto->Prop)(h:W1 c A fr env m σ st J R X)(k:∀m' σ',J m' σ'->N m' σ'):W1 c A fr env m σ st N R X:=fun s ok fm=>
 (h s ok fm).mono (fun b σ' q=>QO.mono k q) fun _ _ x=>x
end
theorem Vs.ofWell {P:Params}{h:Heap}:∀{S:List Int} {vs:List Value},WellAll P h vs (S.map WData.int)->Vs [] h (S.map D.int) vs
 | [],vs,x=>by
  cases x
  exact Vs.nil
 | i::S,vs,x=>by
  cases x with
  | cons x1 x2=>
   cases x1
   exact Vs.cons V.ofInt (Vs.ofWell x2)
theorem V.ofWell {P:Params}{h:Heap}{S:List Int}{v:Value}(x:Well P h v (.list (S.map WData.int))):V [] h (.lst (S.map .int)) v:=by
 cases x with
 | list g x=>exact ⟨_,_,0,rfl,by simp,g,Vs.ofWell x⟩
theorem ofPys_ints:∀S:List Int,ofPys (S.map PyData.int)=S.map WData.int
 | []=>rfl
 | i::S=>by simp only [List.map_cons,ofPys,ofPy,ofPys_ints S]
noncomputable def bnOk (view:Program)(loose:List Str)(x:Str):Bool:=
 !startupNames.contains x&& !loose.contains x&& !((recsOf view).map (·.name)).contains x&& !((litsOf view).map (·.1)).contains x&& !((clssOf view loose).map (·.name)).contains x&&x !=("__name__":Str)
theorem Tp.ofTop {view:Program}{loose:List Str}{mean:ExcName->Option Value}{c:Cx}{B:List Stmt}{bs:List (Str × Value)}(T:Top view loose mean c.mg c.mb c.h0)(hp:recsOf view=B.filterMap jT)(hb:(bs.all fun p=>bnOk view loose p.1)=true)(hv:bs.map (fun p=>bootBuiltins p.1)=bs.map fun p=>some p.2):Tp c B bs where
 good:=⟨T.g,T.b⟩
 nolimit:=T.nolimit
 fn:=fun d hd=>by exact T.fn d (hp▸hd)
 bn:=fun x v hx=>by
  have hm:(x,v)∈bs:=by
   clear hb hv
   induction bs with
   | nil=>contradiction
   | cons q r ih=>
    obtain ⟨y,u⟩:=q
    dsimp only [List.lookup_cons] at hx
    by_cases e:x=y
    ·subst e
     have:u=v:=by simpa using hx
     subst this;exact .head _
    ·have e':(x==y)=false:=by simpa using e
     rw [e'] at hx
     exact .tail _ (ih hx)
  have h1:=List.all_eq_true.mp hb _ hm
  simp only [bnOk,Bool.and_eq_true,Bool.not_eq_true',bne_iff_ne,ne_eq,List.contains_eq_mem,decide_eq_false_iff_not] at h1
  obtain ⟨⟨⟨⟨⟨a1,a2⟩,a3⟩,a4⟩,a5⟩,a6⟩:=h1
  refine ⟨T.free x a1 a2 a3 a4 a5,?_⟩
  rw [T.builtins x a6]
  obtain ⟨i,hi,e⟩:=List.mem_iff_getElem.mp hm
  have:=congrArg (fun l=>l[i]?) hv
  simp only [List.getElem?_map,List.getElem?_eq_getElem hi,e] at this
  simpa using this
theorem last {c:Cx}{claim:ClaimW}{cl:Str->Option Addr}{mean:ExcName->Option Value}{args:List WData}{name:Str}{fa:Addr}{l:Value}{S:List Int}{s₁:Shared}{k:Nat}(hw:WF c (Room k) name [.lst (S.map .int)] [] (fun d _=>d=.bool true) NoX)(hk:k<=600)(hmg:c.mg name=some (.ref fa))(hV:V [] s₁.heap (.lst (S.map .int)) l)(h0:c.h0=s₁.heap)(hg:s₁.gens= #[])
  (hpost:claim.post args (.bool true) args=true) (hr:∀cls,claim.raises args cls=false):wpAny (model c.prog c.w) callerA (call (.ref fa) [l]) (fun v s'=>GoodWG claim cl mean args s₁ (.ok (.ret v)) s') (fun e s'=>GoodWG claim cl mean args s₁ (.error e) s') s₁:=by
 have room:Room k callerA:=by
  refine ⟨⟨?_,?_⟩,rfl⟩
  ·exact z970 hk
  ·exact z971 hk
 refine wpAny_mono (hw fa hmg callerA [] s₁ [l] room (⟨fun b o e=>by exact (h0▸e),fun p hp=>(by contradiction),(by simp [keys]),fun a ha=>(by simp [keys] at ha),fun a ha=>(by contradiction),⟨[],rfl,trivial,fun b hb=>(by simp at hb),fun b hb=>(by simp at hb)⟩⟩) (Vs.cons hV Vs.nil)) (fun v s' hz=> ?_) fun _ _ x=>(Ex.no x).elim
 obtain ⟨d,σ,p,ok',x,e⟩:=hz
 subst e
 subst x
 refine GoodW.toG ⟨.inl ⟨_,.bool true,[],rfl,hr,.bool true,hpost,fun _=>⟨List.nodup_nil,fun a ha=>by contradiction⟩⟩,fun b o e=>p.kept b o (by simp [keys]) e,?_,?_⟩
 ·obtain ⟨h,tk,rfl⟩:=p.shape;rfl
 ·obtain ⟨h,tk,rfl⟩:=p.shape;exact hg
theorem post_ok (l:OpenLaw)(args ds:List WData):l.row.claim.post args (.bool true) ds=true:=by
 dsimp only [RowW.claim,OpenLaw.row]
 simp only [Bool.and_eq_true]
 constructor
 ·rfl
 ·unfold WTm.holds
  simp [WTm.value,same]
theorem raises_ok (l:OpenLaw)(args:List WData)(cls:ExcName):l.row.claim.raises args cls=false:=rfl
end Mine
set_option maxHeartbeats 1000000
namespace Mine
open PySem PySem.Calls PyProof.Rows PySem.W
theorem uJ {o:Obj}{es:Array DictEntry}{ep:Nat}{mA:Str->Option Value}(hd:o.data=.dict es ep)(hk:StrKeys es)(hf:∀n,nsFind es n=mA n)(x:Str):lookIn x o=some (mA x):=by
 unfold lookIn
 rw [hd]
 dsimp only
 rw [<-hf x]
 delta nsFind findBy
 obtain ⟨l⟩:=es
 rw [List.find?_toArray]
 cases h:l.find? (fun e=>e.key.isStr x) with
 | some e=>rfl
 | none=>
  have:l.any (·.refKey)=false:=by
   rw [List.any_eq_false];intro e he
   obtain ⟨n,t,q⟩:=hk e (by simpa using he)
   unfold DictEntry.refKey;rw [q];simp
  simp [this]
structure Ks (c:Cx)(K:Frag)(C:Addr)(cn:Str)(Bd:List Stmt):Prop where
 inn:K.In c.h0
 name:c.mg cn=some (.ref C)
 get:findIn K (.ref C) "__getattribute__"=some (some (.builtin "object.__getattribute__"))
 geta:findIn K (.ref C) "__getattr__"=some none
 dict:hasDictIn K C=true
 makes:makesIn K C=true
 keep:keepIn K (.ref C)=true
 over:plainOver K C=true
 seta:findIn K (.ref C) "__setattr__"=some (some (.builtin "object.__setattr__"))
 size:findIn K (.ref C) "size"=some none
 rules:findIn K (.ref C) "rules"=some none
 meth:∀d∈Bd.filterMap jT,∃f o pm code doc qual,findIn K (.ref C) d.name=some (some (.ref f))/\typeIn K (.ref f)=some (.type "function")/\keepIn K (.ref f)=true/\c.h0.get? f=some o/\
  o.data=.func {docDef d.name d.params d.body d.scope pm code doc with qualname:=qual}/\c.h0.CodeRec code qual
section
variable {c:Cx} {K:Frag} {C:Addr} {cn:Str} {Bd:List Stmt}
noncomputable def WM (c:Cx)(K:Frag)(C:Addr)(P:Around->Prop)(name:Str)(ds:List D)(σ:Sto)(Q:D->Sto->Prop)(X:Addr->Sto->Prop):Prop:=
 ∀f,findIn K (.ref C) name=some (some (.ref f))->WD c P (.ref f) ds σ Q X
noncomputable def Mth (K:Frag)(C:Addr)(name:Str):Prop:=∃f,findIn K (.ref C) name=some (some (.ref f))/\typeIn K (.ref f)=some (.type "function")/\keepIn K (.ref f)=true
variable {A:Around} {fr:List Addr} {σ:Sto} {X:Addr->Sto->Prop} {Q:D->Sto->Prop} {env:Env} {m:Vars} {B:List Stmt} {bs:List (Str × Value)}
theorem WM.by {name:Str}{params:Arguments}{body:List Stmt}{scope:Scope}{dpos:Pos}(i:Nat){ps:List Str}{n:Nat}{ds:List D}(T:Tp c B bs)(S:Ks c K C cn Bd)(hd:(Bd[i]?).bind jT=some ⟨name,params,body,scope,dpos⟩)
  (hb:∀pm code doc qual vals,vals.length=ps.length->bindArgs {docDef name params body scope pm code doc with qualname:=qual} ⟨vals,[]⟩=pure (ps.zip vals)) (hok:fnOk scope ps=true) (hl:ds.length=ps.length)
  (h:∀A fr env,Room n A->A.handled=none->env.scope=scope->Fe A env scope->WS c A (Fa env++fr) env (ps.zip ds) σ body (fun _ σ'=>Q .none σ') Q X):WM c K C (Room (n+1)) name ds σ Q X:=fun f hf=>by
 obtain ⟨f',o,pm,code,doc,qual,h1,_,_,h2,h3,h4⟩:=S.meth _ (Jy hd)
 replace hf:=(h1 ..).symm.trans hf;cases hf
 simp only [fnOk,Bool.and_eq_true,decide_eq_true_eq,List.all_eq_true,Bool.or_eq_true,beq_iff_eq,bne_iff_ne,Bool.not_eq_true'] at hok
 obtain ⟨⟨⟨⟨⟨⟨k1,k2⟩,k3⟩,k4⟩,k5⟩,k6⟩,k7⟩:=hok
 refine WD.of (P':=Room n) (ps:=ps) (body:=body) (scope:=scope) ⟨⟨o,_,h2,h3,rfl,rfl,rfl,rfl,rfl,h4,hb pm code doc qual⟩,T.nolimit,k1,k2,k3,fun x e=> ?_,k5,k6,k7⟩ (fun A env r=>⟨?_,r.deeper⟩) hl fun A fr env r fe=>h A fr env r r.2 fe.scope fe
 ·obtain ⟨y,hy⟩:=Jq e
  exact k4 _ hy rfl
 ·exact z870 (r.1.1) (rfl)
theorem mbind1 {name x:Str}{params:Arguments}{body:List Stmt}{scope:Scope}(h:∀pm code doc qual a,bindArgs {docDef name params body scope pm code doc with qualname:=qual} ⟨[a],[]⟩=pure ([x].zip [a])):∀pm code doc qual vals,vals.length=[x].length->bindArgs {docDef name params body scope pm code doc with qualname:=qual} ⟨vals,[]⟩=pure ([x].zip vals):=fun pm code doc qual vals e=>by
 obtain ⟨a,rfl⟩:=List.length_eq_one_iff.mp e
 exact h pm code doc qual a
theorem mbind2 {name x y:Str}{params:Arguments}{body:List Stmt}{scope:Scope}(h:∀pm code doc qual a b,bindArgs {docDef name params body scope pm code doc with qualname:=qual} ⟨[a,b],[]⟩=pure ([x,y].zip [a,b])):∀pm code doc qual vals,vals.length=[x,y].length->bindArgs {docDef name params body scope pm code doc with qualname:=qual} ⟨vals,[]⟩=pure ([x,y].zip vals):=fun pm code doc qual vals e=>by
 obtain ⟨a,b,rfl⟩:=len2 e
 exact h pm code doc qual a b
theorem mbind3 {name x y z:Str}{params:Arguments}{body:List Stmt}{scope:Scope}(h:∀pm code doc qual a b d,bindArgs {docDef name params body scope pm code doc with qualname:=qual} ⟨[a,b,d],[]⟩=pure ([x,y,z].zip [a,b,d])):∀pm code doc qual vals,vals.length=[x,y,z].length->bindArgs {docDef name params body scope pm code doc with qualname:=qual} ⟨vals,[]⟩=pure ([x,y,z].zip vals):=fun pm code doc qual vals e=>by
 obtain ⟨a,b,d,rfl⟩:=len3 e
 exact h pm code doc qual a b d
theorem Mth.by {name:Str}{params:Arguments}{body:List Stmt}{scope:Scope}{dpos:Pos}(i:Nat)(S:Ks c K C cn Bd)(hd:(Bd[i]?).bind jT=some ⟨name,params,body,scope,dpos⟩):Mth K C name:=by
 obtain ⟨f,o,pm,code,doc,qual,h1,h2,h3,_⟩:=S.meth _ (Jy hd)
 exact ⟨f,h1,h2,h3⟩
theorem WM.at {k n:Nat}{f:Str}{ds:List D}(h:WM c K C (Room k) f ds σ Q X)(hk:k<=n):WM c K C (Room n) f ds σ Q X:=fun a ha A fr s vals hA ok hv=>h a ha A fr s vals (hA.mono hk) ok hv
theorem V.inst {Kk:List Addr}{h:Heap}{sz ru:D}{v:Value}(x:V Kk h (.sys C sz ru) v):∃(a:Addr) (ox od:Obj) (v1 v2:Value) (mA:Str->Option Value),v=.ref a/\InstAt h a ox C (some od)/\(∀x,lookIn x od=some (mA x))/\mA "size"=some v1/\mA "rules"=some v2/\(∀x:Str,x≠"size"->x≠"rules"->mA x=none)/\V Kk h sz v1/\V Kk h ru v2:=by
 obtain ⟨a,dx,v1,v2,mA,rfl,nk,nd,g,⟨od,es,ep,gd,hd,hk,hf⟩,f1,f2,f3,r1,r2⟩:=x
 exact ⟨a,_,od,v1,v2,mA,rfl,⟨g,rfl,rfl,gd⟩,uJ hd hk hf,f1,f2,f3,r1,r2⟩
theorem Ur {Kk:List Addr}{h:Heap}{d:D}{v:Value}(x:V Kk h d v):handedIn v=true:=by
 cases d<;>skip
 case none=>subst x;rfl
 case bool=>subst x;rfl
 case int=>obtain ⟨t,rfl⟩:=x;rfl
 case str=>obtain ⟨t,rfl⟩:=x;rfl
 case tup=>obtain ⟨a,vs,n,rfl,_⟩:=x;rfl
 case lst=>obtain ⟨a,vs,n,rfl,_⟩:=x;rfl
 case sys=>obtain ⟨a,dx,v1,v2,mA,rfl,_⟩:=x;rfl
 case own=>obtain ⟨a,rfl,_⟩:=x;rfl
 case exc=>obtain ⟨a,o,vs,rfl,_⟩:=x;rfl
 case typ=>subst x;rfl
 case ref=>subst x;rfl
theorem WE.attr (S:Ks c K C cn Bd){o:Expr}{name:Str}{pos:Pos}(h:WE c A fr env m σ o (fun d σ1=>∃sz ru,d=.sys C sz ru/\((name="size"/\Q sz σ1)\/(name="rules"/\Q ru σ1))) X)(hb:∀w,attributeBase o name env w=w:=by intro _;rfl):
  WE c A fr env m σ (.Attribute o name pos) Q X:=fun s ok fm=>by
 rw [arm_eval_Attribute,hb]
 refine wpAny_bind (wpAny_mono (h s ok fm) (fun ov s1 hz=> ?_) fun _ _ x=>x)
 obtain ⟨d,σ1,p1,ok1,x1,sz,ru,hd,q1⟩:=hz
 subst hd
 refine wpAny_bind (wpAny_standAt (wpAny_bind (wpAny_holding ?_)))
 obtain ⟨a,ox,od,v1,v2,mA,rfl,I,hl,f1,f2,f3,r1,r2⟩:=x1.inst
 have X1:=S.inn.keeps ok1.base
 rcases q1 with ⟨rfl,q1⟩| ⟨rfl,q1⟩
 ·refine get_value X1 I S.get (findObj_own S.dict S.size rfl (by rw [hl,f1])) (Ur r1) ?_
  refine wpAny_bind (wpAny_letTemporaryGo (wpAny_pure ⟨sz,σ1,p1.trans (Post.tok ..),ok1,r1,q1⟩))
 ·refine get_value X1 I S.get (findObj_own S.dict S.rules rfl (by rw [hl,f2])) (Ur r2) ?_
  refine wpAny_bind (wpAny_letTemporaryGo (wpAny_pure ⟨ru,σ1,p1.trans (Post.tok ..),ok1,r2,q1⟩))
theorem WE.callM (S:Ks c K C cn Bd){o:Expr}{name:Str}{apos pos:Pos}{args:List Expr}{n:Nat}(r:Room n A)(hf:Mth K C name)
  (h:WE c A fr env m σ o (fun d σ1=>∃sz ru,d=.sys C sz ru/\WA c A fr env m σ1 args (fun ds σ2=>WM c K C (Room n) name (d::ds) σ2 Q X) X) X) (h1:name≠"size":=by decide) (h2:name≠"rules":=by decide)
  (hp:jc args=true:=by rfl) (hb:∀w,attributeBase o name env w=w:=by intro _;rfl) (hl:(apos.endLine==pos.line)=true:=by rfl) (hn:decide (args.length<30)=true:=by rfl):
  WE c A fr env m σ (.Call (.Attribute o name apos) args [] pos) Q X:=fun s ok fm=>by
 have hst:=jd (env:=env) (pos:=pos) hp
 show wpAny _ A (do let ov<-attributeBase o name env (eval o env);standAt apos.atName;methodCall o name apos pos env ov (args.length+([]:List Keyword).length) (backTo pos (starEach args env)) (backToKw pos (keywordEach [] env))) _ _ s
 rw [hb]
 refine wpAny_bind (wpAny_mono (h s ok fm) (fun ov s1 hz=> ?_) fun _ _ x=>x)
 obtain ⟨d,σ1,p1,ok1,x1,sz,ru,hd,q1⟩:=hz
 subst hd
 refine wpAny_bind (wpAny_standAt ?_)
 obtain ⟨a,ox,od,v1,v2,mA,rfl,I,hlk,f1,f2,f3,r1,r2⟩:=x1.inst
 obtain ⟨f,g1,g2,g6⟩:=hf
 have few:methodCallForm (args.length+([]:List Keyword).length) (backTo pos (starEach args env)) (backToKw pos (keywordEach [] env))=true:=by
  unfold methodCallForm
  have a3:backToKw pos (keywordEach [] env)=[]:=rfl
  rw [(List.all_eq_true.mpr fun x hx=>by rw [hst x hx];rfl),a3]
  trivial
 unfold methodCall
 rw [few]
 refine wpAny_bind (wpAny_holding ?_)
 unfold calleeOf
 refine method_fn (S.inn.keeps ok1.base) I S.get S.geta g1 g2 (by show (lookIn name od).map _=_;rw [hlk,f3 name h1 h2];rfl) ?_
 rw [show methodCallPos true o env apos pos=pure pos from if_pos (by rw [hl];rfl)]
 refine wpAny_bind (wpAny_pure ?_)
 refine callWith_of (P:=K.In) (by
  have:(backTo pos (starEach args env)).any (·.1)=false:=by rw [List.any_eq_false];intro x hx;simp [hst x hx]
  rw [this];rfl) (keeps_K g6) (jq hst (wpAny_mono (q1 pos s1 ok1 (fm.move p1)) (fun us s2 ⟨ds,σ2,p2,ok2,x2,q2⟩=>⟨S.inn.keeps ok2.base,?_⟩) fun _ _ x=>Ex.back p1 x fun _ _ y=>y))
 refine wpAny_mono ((q2 f g1).wc A fr s2 _ r ok2 (Vs.cons (p2.v x1) x2)) (fun _ _ z=>z.back (p1.trans p2)) fun _ _ x=>Ex.back (p1.trans p2) x fun _ _ y=>y
end
end Mine
set_option maxHeartbeats 1000000
namespace Mine
open PySem PySem.Calls PyProof.Rows PySem.W
theorem Yb {σa σb:Sto}{a b:Addr}{o:O}(h:b∈keys (σa++σb)):b∈keys (σa++(a,o)::σb):=by
 rw [keys,List.map_append,List.map_cons,List.mem_append,List.mem_cons] at*
 rcases h with h| h
 ·exact .inl h
 ·exact .inr (.inr h)
theorem Jr {σa σb:Sto}{a:Addr}{o:O}{fr:List Addr}(h:Heap):Less (keys (σa++(a,o)::σb)++fr) (keys (σa++σb)++fr) h:=fun b m=>.inl (by
 rcases List.mem_append.mp m with z| z
 ·exact List.mem_append_left _ (Yb z)
 ·exact List.mem_append_right _ z)
theorem Stay.refl {K:List Addr}{h:Heap}:Stay K h h:=fun _ _ _ e=>e
section
variable {c:Cx} {A:Around} {fr:List Addr} {σ σa σb:Sto} {a:Addr} {o:O}
theorem Ok.forget {h:Heap}(ok:Ok c A fr (σa++(a,o)::σb) h):Ok c A fr (σa++σb) h where
 base:=ok.base
 sto:=fun p hp=>IsO.move Stay.refl (Jr h) (fun _ e=>e) (ok.sto p (by
  rcases List.mem_append.mp hp with z| z
  ·exact List.mem_append_left _ z
  ·exact List.mem_append_right _ (List.mem_cons_of_mem _ z)))
 nd:=by
  refine List.Nodup.sublist ?_ ok.nd
  refine List.Sublist.append ?_ (List.Sublist.refl _)
  simp only [keys,List.map_append]
  exact List.Sublist.append (List.Sublist.refl _) (List.sublist_cons_self _ _)
 new:=fun b m=>ok.new b (by
  rcases List.mem_append.mp m with z| z
  ·exact List.mem_append_left _ (Yb z)
  ·exact List.mem_append_right _ z)
 live:=ok.live
 stack:=ok.stack
theorem Post.forget {F:List Addr}{s s':Shared}(p:Post F fr σ s s' (σa++(a,o)::σb)):Post F fr σ s s' (σa++σb):=
 ⟨p.shape,p.kept,p.slots,p.alive,fun b m=>p.grow b (Yb m)⟩
theorem Ok.gone {h:Heap}(ok:Ok c A fr (σa++(a,o)::σb) h):a∉keys (σa++σb)++fr:=by
 have nd:=ok.nd
 simp only [keys,List.map_append,List.append_assoc] at nd⊢
 exact (List.nodup_cons.mp ((List.perm_middle.nodup_iff.mp nd))).1
theorem Ok.at {A':Around}{h:Heap}(ok:Ok c A fr σ h)(e:A'.frames=A.frames):Ok c A' fr σ h:=⟨ok.base,ok.sto,ok.nd,ok.new,ok.live,by exact e▸ok.stack⟩
theorem Ok.add {h h':Heap}(ok:Ok c A fr σ h)(k:∀b ob,h.get? b=some ob->h'.get? b=some ob)(hn:h.objs.size<=a)(x:IsO c.prog c.w (keys ((a,o)::σ)++fr) h' a o):Ok c A fr ((a,o)::σ) h':=by
 have ha:=jg hn
 exact {
  base:=fun b o e=>k _ _ (ok.base b o e)
  sto:=fun p hp=>by
   rcases List.mem_cons.mp hp with rfl| hp
   ·exact x
   ·refine IsO.move (fun b o _ e=>k b o e) (fun b m=> ?_) (fun x e=>k _ x e) (ok.sto p hp)
    rcases List.mem_append.mp m with z| z
    ·rcases List.mem_cons.mp z with z| z
     ·exact .inr (z▸ha)
     ·exact .inl (List.mem_append_left _ z)
    ·exact .inl (List.mem_append_right _ z)
  nd:=List.nodup_cons.mpr ⟨(fun z=>Nat.lt_irrefl _ (Nat.lt_of_lt_of_le (ok.lt z) hn)),ok.nd⟩
  new:=fun b m=>by
   rcases List.mem_cons.mp (show b∈a::(keys σ++fr) from m) with z| z
   ·cases hg:c.h0.get? b with
    | none=>rfl
    | some o=>have:=ok.base _ o hg;simp only [z,ha] at this;contradiction
   ·exact ok.new b z
  live:=fun b m=>by obtain ⟨o,e⟩:=ok.live b m;exact ⟨o,k _ _ e⟩
  stack:=(ok.keeps k).stack}
theorem Post.add {F:List Addr}{s:Shared}{h':Heap}{tk:Nat}(k:∀b ob,s.heap.get? b=some ob->h'.get? b=some ob)(hn:s.heap.objs.size<=a):Post F fr σ s {s with heap:=h',toks:=tk} ((a,o)::σ):=
 ⟨⟨h',tk,rfl⟩,fun b o _ e=>k b o e,fun b o _ _ e=>⟨o.slots,k b o e,fun _=>rfl⟩,fun b o e=>⟨o,k b o e⟩,fun b m=>by
  rcases List.mem_cons.mp (show b∈a::keys σ from m) with z| z
  ·exact .inr (z▸jg hn)
  ·exact .inl z⟩
end
theorem yL {A:Around}{C:Addr}{rest:List Value}{kw:List (Str × Value)}:(A.under (.builtin "type.__call__" ⟨.ref C::rest,kw⟩)).frames=A.frames/\(A.under (.builtin "type.__call__" ⟨.ref C::rest,kw⟩)).handled=A.handled/\(A.under (.builtin "type.__call__" ⟨.ref C::rest,kw⟩)).depth=A.depth+1/\(A.under (.builtin "type.__call__" ⟨.ref C::rest,kw⟩)).units=A.units+1:=by
 refine ⟨rfl,rfl,?_,rfl⟩
 have:(Code.builtin "type.__call__" ⟨.ref C::rest,kw⟩).weight=1:=by kernel_rfl
 show A.depth+_=_
 exact congrArg _ (this ..)
section
variable {c:Cx} {K:Frag} {C:Addr} {cn:Str} {Bd:List Stmt} {A:Around} {fr:List Addr} {σ:Sto} {X:Addr->Sto->Prop} {Q:D->Sto->Prop} {env:Env} {m:Vars} {B:List Stmt} {bs:List (Str × Value)} {N:Vars->Sto->Prop} {R:D->Sto->Prop}
theorem Room.tc {n:Nat}{rest:List Value}{kw:List (Str × Value)}(r:Room (n+1) A):Room n (A.under (.builtin "type.__call__" ⟨.ref C::rest,kw⟩)):=by
 obtain ⟨⟨h1,h2⟩,h3⟩:=r
 obtain ⟨e1,e2,e3,e4⟩:=yL (A:=A) (C:=C) (rest:=rest) (kw:=kw)
 exact ⟨⟨z972 h1 e3,z973 h2 e4⟩,e2.trans h3⟩
theorem W1.attrS (S:Ks c K C cn Bd){x:Expr}{name:Str}{pos' pos:Pos}{value:Expr}
  (h:WE c A fr env m σ value (fun dv σ1=>WE c A fr env m σ1 x (fun d σ2=>∃dx σa σb fs,d=.own C dx/\σ2=σa++(dx,.flds fs)::σb/\fs.length<=100/\N m (σa++(dx,.flds ((name,dv)::fs))::σb)) X) X) (hn:name="size"\/name="rules")
  (hs:swapsWith value (some (.Attribute x name pos')) pos.line env=pure false):W1 c A fr env m σ (.Assign [.Attribute x name pos'] value pos) N R X:=fun s ok fm=>by
 refine plainObj_wpAny_Assign_Attribute (wpAny_mono (h s ok fm) (fun v s1 hz=> ?_) fun _ _ x=>x.wide fm) hs
 obtain ⟨dv,σ1,p1,ok1,x1,q1⟩:=hz
 refine wpAny_mono (q1 s1 ok1 (fm.move p1)) (fun ov s2 hz=> ?_) fun _ _ x=>(Ex.back (G:=none) p1 x fun _ _ y=>y).wide fm
 obtain ⟨d,σ2,p2,ok2,x2,dx,σa,σb,fs,hd,hσ,hfl,q2⟩:=hz
 subst hd hσ
 obtain ⟨a,rfl,nk,g⟩:=x2
 have X2:=S.inn.keeps ok2.base
 obtain ⟨mA,hns,hA1,hA2⟩:=ok2.sto _ (by simp:(dx,O.flds fs)∈σa++(dx,O.flds fs)::σb)
 obtain ⟨od,es,ep,gd,hdd,hk,hu,hf⟩:=_root_.id hns
 have I:InstAt s2.heap a _ C (some od):=⟨g,rfl,rfl,gd⟩
 obtain ⟨cd,hc,hd'⟩:=any_some S.dict
 have ht:takerIn K C name=some none:=by
  unfold takerIn
  rcases hn with rfl| rfl
  ·rw [S.size];rfl
  ·rw [S.rules];rfl
 refine set_plain X2 I S.seta (osa_open (s:={s2 with toks:=s2.toks+1}) X2 I S.over ht fun b=> ?_)
 refine wpAny_bind (wpAny_pure (wpAny_bind (wpAny_bind (wpAny_loadPart g (wpAny_bind (Looks.here (s:={s2 with toks:=s2.toks+1}) (looks_clsIn X2 hc) ?_))))))
 rw [hd']
 refine wpAny_pure (a:=some dx) (wpAny_bind (wpAny_pure (wpAny_bind ?_)))
 refine wpAny_nsSet1 (s:={s2 with toks:=s2.toks+1}) hns fun h' hn' sb=> ?_
 obtain ⟨oD,esD,epD,hoD,hdD,hcD⟩:=hn'.count (Within.cons name v (fun x hx=>by
  cases e:fs.lookup x with
  | none=>exact absurd (hA2 x e) hx
  | some d=>exact List.mem_map_of_mem (f:=(·.1)) (mem_of_lookup e)))
 refine wpAny_bind (wpAny_lookBehind hoD (by exact (congrArg _ (hdD ..)).trans (pastItsLine_dict (Nat.le_trans hcD (by simp only [List.length_cons,List.length_map];exact z974 hfl)))) ?_)
 refine wpAny_pure ?_
 have hfr:dx∉fr:=fun z=>ok2.gone (List.mem_append_right _ z)
 obtain ⟨od',es',ep',gd',_⟩:=_root_.id hn'
 have pp:Post [] fr (σa++(dx,.flds fs)::σb) s2 {s2 with heap:=h',toks:=s2.toks+1+1} (σa++(dx,.flds ((name,dv)::fs))::σb):=Post.put hfr (fun b ob nb e=>(sb.2 b nb).trans e) ⟨_,gd'⟩
 have st:Stay (keys (σa++(dx,O.flds fs)::σb)++fr) s2.heap h':=fun b o n e=>(sb.2 b fun q=>n (q▸(by simp [keys]))).trans e
 refine ⟨.next m,_,((p1.trans p2).trans pp).wide (by simp),ok2.put (fun b ob nb e=>(sb.2 b nb).trans e) ⟨_,hn',fun x d e=> ?_,fun x e=> ?_⟩,⟨rfl,((fm.move p1).move p2).move pp⟩,q2⟩
 ·rw [jb] at e
  by_cases q:x=name
  ·rw [if_pos q] at e;cases e
   exact ⟨v,by simp [q],V.move st (fun _ m=>.inl m) _ _ (p2.v x1)⟩
  ·rw [if_neg q] at e
   obtain ⟨u,hu,hV⟩:=hA1 x d e
   exact ⟨u,by simp [q,hu],V.move st (fun _ m=>.inl m) _ _ hV⟩
 ·rw [jb] at e
  by_cases q:x=name
  ·rw [if_pos q] at e;cases e
  ·rw [if_neg q] at e
   simp [q,hA2 x e]
noncomputable def NewQ (C dx:Addr)(Q:D->Sto->Prop):D->Sto->Prop:=fun d σ2=>d=.none/\∃σa σb fs sz ru,σ2=σa++(dx,.flds fs)::σb/\fs.lookup (Str.ofString "size")=some sz/\fs.lookup (Str.ofString "rules")=some ru/\(∀x:Str,x≠"size"->x≠"rules"->fs.lookup x=none)/\Q (.sys C sz ru) (σa++σb)
noncomputable def NewX (dx:Addr)(X:Addr->Sto->Prop):Addr->Sto->Prop:=fun E σ2=>∃σa σb o,σ2=σa++(dx,o)::σb/\X E (σa++σb)
theorem WE.callC (S:Ks c K C cn Bd)(T:Tp c B bs){fp pos:Pos}{args:List Expr}{n:Nat}(r:Room (n+1) A)(hk:env.kindOf cn=some .globalImplicit)(hm:Mth K C "__init__")
  (h:WA c A fr env m σ args (fun ds σ1=>∀dx,dx∉keys σ1->WM c K C (Room n) "__init__" (.own C dx::ds) ((dx,.flds [])::σ1) (NewQ C dx Q) (NewX dx X)) X) (hp:jc args=true:=by rfl) (hdb:(cn==("__debug__":Str))=false:=by decide):
  WE c A fr env m σ (.Call (.Name cn fp) args [] pos) Q X:=fun s ok fm=>by
 have hst:=jd (env:=env) (pos:=pos) hp
 obtain ⟨f,g1,g2,g6⟩:=hm
 refine wpAny_bind (Name_function_global fm.kind hk (loadGlobal_global (by exact fm.glob▸T.good.g.keeps ok.base) S.name ?_) hdb)
 refine callWith_of (P:=K.In) (by
  have:(backTo pos (starEach args env)).any (·.1)=false:=by rw [List.any_eq_false];intro x hx;simp [hst x hx]
  rw [this];rfl) (keeps_K S.keep) (jq hst (wpAny_mono (h pos s ok fm) (fun us s1 ⟨ds,σ1,p1,ok1,x1,q1⟩=>⟨S.inn.keeps ok1.base,?_⟩) fun _ _ x=>x))
 have X1:=S.inn.keeps ok1.base
 obtain ⟨hh,g,d,t,os⟩:=s1
 refine wpAny_call (make_core (makes_of X1 S.makes) (looks_findIn X1 g1) (fun self=>bind_fn X1 self g2) (.inl rfl) ?_)
 have kp:∀b o,hh.get? b=some o->((hh.push emptyDict).push (instObj C hh.objs.size)).get? b=some o:=fun b o e=>Heap.get?_push_of_some _ (Heap.get?_push_of_some _ e)
 have hgx:((hh.push emptyDict).push (instObj C hh.objs.size)).get? (hh.objs.size+1)=some (instObj C hh.objs.size):=by heap_get
 have ok2:Ok c (A.under (.builtin "type.__call__" ⟨.ref C::([]++us),[]⟩)) fr ((hh.objs.size,.flds [])::σ1) ((hh.push emptyDict).push (instObj C hh.objs.size)):=
  (Ok.add (o:=.flds []) ok1 kp (Nat.le_refl _) ⟨_,(Heap.Ns1.of_empty ⟨_, #[],_,(by heap_get),rfl,fun e he=>absurd he (by simp),fun _=>rfl⟩),fun x d e=>(by contradiction),fun _ _=>rfl⟩).at yL.1
 have p2:Post [] fr σ1 ⟨hh,g,d,t,os⟩ ⟨(hh.push emptyDict).push (instObj C hh.objs.size),g,d,t,os⟩ ((hh.objs.size,.flds [])::σ1):=Post.add (tk:=t) kp (Nat.le_refl _)
 have hxn:hh.objs.size+1∉keys ((hh.objs.size,O.flds [])::σ1)++fr:=fun z=>by
  rcases List.mem_cons.mp (show hh.objs.size+1∈hh.objs.size::(keys σ1++fr) from z) with z| z
  ·exact absurd z (Nat.succ_ne_self _)
  ·exact absurd (ok1.lt z) (Nat.not_lt.mpr (Nat.le_succ _))
 have hv:Vs (keys ((hh.objs.size,O.flds [])::σ1)++fr) ((hh.push emptyDict).push (instObj C hh.objs.size)) (.own C hh.objs.size::ds) (.ref (hh.objs.size+1)::([]++us)):=
  Vs.cons (by exact ⟨_,rfl,hxn,hgx⟩) (p2.vs x1)
 refine codeAny_mono (q1 _ (fun z=>by
  exact Nat.lt_irrefl _ (ok1.lt (List.mem_append_left _ z))) f g1 _ fr ⟨_,g,d,t,os⟩ _ r.tc ok2 hv) fun res s' z=> ?_
 match res,z with
 | .error e,z=>
  obtain ⟨e',C',σ',ex,rfl,p3,ok3,hn,he,hFx,σa,σb,o',rfl,hX⟩:=z
  exact ⟨e',C',σa++σb,ex,rfl,((p1.trans p2).trans p3).forget,(ok3.at yL.1.symm).forget,fun a ha=>jF (p1.trans p2) (hn a ha),he,trivial,hX⟩
 | .ok (.ret v),z=>
  obtain ⟨b,σ',p3,ok3,hV,hb,σa,σb,fs,sz,ru,rfl,l1,l2,l3,q⟩:=z
  subst hb
  refine ⟨hV.toNone,.sys C sz ru,σa++σb,((p1.trans p2).trans p3).forget,(ok3.at yL.1.symm).forget,?_,q⟩
  obtain ⟨mA,hns',hA1,hA2⟩:=ok3.sto (hh.objs.size,O.flds fs) (by simp)
  obtain ⟨v1,e1,x1'⟩:=hA1 _ _ l1
  obtain ⟨v2,e2,x2'⟩:=hA1 _ _ l2
  exact ⟨hh.objs.size+1,hh.objs.size,v1,v2,mA,rfl,(Jr s'.heap).nin (p3.less.nin hxn hgx) (p3.kept _ _ hxn hgx),ok3.gone,p3.kept _ _ hxn hgx,hns'.ns,e1,e2,fun x n1 n2=>hA2 x (l3 x n1 n2),V.move Stay.refl (Jr _) _ _ x1',V.move Stay.refl (Jr _) _ _ x2'⟩
 | .ok .next,z=>exact z.elim
 | .ok .brk,z=>exact z.elim
 | .ok .cont,z=>exact z.elim
end
end Mine
set_option maxHeartbeats 1000000
namespace Mine
open PySem PySem.Calls PyProof.Rows PySem.W
section
variable {c:Cx} {A:Around} {fr:List Addr} {σ σ' σa σb:Sto} {X:Addr->Sto->Prop} {Q:D->Sto->Prop} {env:Env} {m:Vars} {N:Vars->Sto->Prop} {R:D->Sto->Prop}
theorem yf (hs:σ'.Sublist σ){b:Addr}(h:b∈keys σ'):b∈keys σ:=(List.Sublist.map (·.1) hs).subset h
theorem JG (hs:σ'.Sublist σ)(h:Heap):Less (keys σ++fr) (keys σ'++fr) h:=fun b m=>.inl (by
 rcases List.mem_append.mp m with z| z
 ·exact List.mem_append_left _ (yf hs z)
 ·exact List.mem_append_right _ z)
theorem Ok.sub {h:Heap}(ok:Ok c A fr σ h)(hs:σ'.Sublist σ):Ok c A fr σ' h where
 base:=ok.base
 sto:=fun p hp=>IsO.move Stay.refl (JG hs h) (fun _ e=>e) (ok.sto p (hs.subset hp))
 nd:=List.Nodup.sublist (List.Sublist.append (List.Sublist.map _ hs) (List.Sublist.refl _)) ok.nd
 new:=fun b m=>ok.new b (by
  rcases List.mem_append.mp m with z| z
  ·exact List.mem_append_left _ (yf hs z)
  ·exact List.mem_append_right _ z)
 live:=ok.live
 stack:=ok.stack
theorem Post.from {F:List Addr}{σ2:Sto}{s s':Shared}(p:Post F fr σ' s s' σ2)(hs:σ'.Sublist σ):Post F fr σ s s' σ2:=
 ⟨p.shape,fun b o n e=>p.kept b o (fun z=>n (by
  rcases List.mem_append.mp z with z| z
  ·exact List.mem_append_left _ (yf hs z)
  ·exact List.mem_append_right _ z)) e,p.slots,p.alive,fun b m=>(p.grow b m).imp (yf hs) id⟩
theorem Post.to {F:List Addr}{σ2:Sto}{s s':Shared}(p:Post F fr σ2 s s' σ)(hs:σ'.Sublist σ):Post F fr σ2 s s' σ':=
 ⟨p.shape,p.kept,p.slots,p.alive,fun b m=>p.grow b (yf hs m)⟩
theorem Ex.from {G:Option Env}{t:Bool}{s s':Shared}{v:Value}(x:Ex c A G fr σ' s t X v s')(hs:σ'.Sublist σ):Ex c A G fr σ s t X v s':=by
 obtain ⟨e,C,σ2,ex,rfl,q,ok,n,r,f,hx⟩:=x
 exact ⟨e,C,σ2,ex,rfl,q.from hs,ok,n,r,f,hx⟩
theorem W.from {α β:Type}{G:Option Env}{t:Sem α}{R:List Addr->Heap->β->α->Prop}{Q:β->Sto->Prop}{s:Shared}(h:W c A G fr σ' t R Q X s)(hs:σ'.Sublist σ):W c A G fr σ t R Q X s:=
 wpAny_mono h (fun _ _ ⟨b,σ2,p,ok,r,q⟩=>⟨b,σ2,p.from hs,ok,r,q⟩) fun _ _ x=>x.from hs
theorem Fm.turn {m':Vars}{K K':List Addr}{h:Heap}(f:Fm env m fr K h)(hV:∀x d',m'.lookup x=some d'->∃d,m.lookup x=some d/\∀v,V K h d v->V K' h d' v):Fm env m' fr K' h where
 kind:=f.kind
 glob:=f.glob
 bui:=f.bui
 ns:=by
  obtain ⟨mv,hn,r⟩:=f.ns
  refine ⟨mv,hn,fun x d' e k=> ?_⟩
  obtain ⟨d,e1,e2⟩:=hV x d' e
  obtain ⟨v,a,b⟩:=r x d e1 k
  exact ⟨v,a,e2 v b⟩
 cell:=fun x cc e=>by
  obtain ⟨ov,hc,r⟩:=f.cell x cc e
  refine ⟨ov,hc,fun d' e' k=> ?_⟩
  obtain ⟨d,e1,e2⟩:=hV x d' e'
  obtain ⟨v,a,b⟩:=r d e1 k
  exact ⟨v,a,e2 v b⟩
 has:=f.has
 inn:=f.inn
 apart:=f.apart
theorem WS.forget {ss:List Stmt}(hs:σ'.Sublist σ)(h:WS c A fr env m σ' ss N R X):WS c A fr env m σ ss N R X:=fun s ok fm=>
 W.from (h s (ok.sub hs) (fm.turn fun x d e=>⟨d,e,fun v hv=>V.move Stay.refl (JG hs _) _ _ hv⟩)) hs
noncomputable def WW (a:Addr):D->Bool
 | .ref b=>b==a
 | _=>false
noncomputable def fzD (a:Addr)(ds:List D)(d:D):D:=if WW a d then .lst ds else d
noncomputable def fz (a:Addr)(ds:List D):Vars->Vars
 | []=>[]
 | (x,d)::r=>(x,fzD a ds d)::fz a ds r
theorem Yc {a:Addr}{ds:List D}{x:Str}{d':D}:∀{m:Vars},(fz a ds m).lookup x=some d'->∃d,m.lookup x=some d/\d'=fzD a ds d
 | [],h=>by contradiction
 | (y,d)::r,h=>by
  simp only [fz,jb] at h
  rw [jb]
  by_cases q:x=y
  ·rw [if_pos q] at h⊢;obtain rfl:=Option.some.inj h;exact ⟨d,rfl,rfl⟩
  ·rw [if_neg q] at h⊢;exact Yc h
theorem JH {a:Addr}{o:O}:(σa++σb).Sublist (σa++(a,o)::σb):=List.Sublist.append (List.Sublist.refl _) (List.sublist_cons_self _ _)
theorem fz_v {a:Addr}{ds:List D}{h:Heap}{d:D}{v:Value}(ok:Ok c A fr (σa++(a,.lst ds)::σb) h)(x:V (keys (σa++(a,.lst ds)::σb)++fr) h d v):V (keys (σa++σb)++fr) h (fzD a ds d) v:=by
 unfold fzD
 split
 ·rename_i hr
  cases d<;>simp [WW] at hr
  subst hr
  obtain ⟨vs,n,g,r⟩:=ok.sto _ (List.mem_append_right σa List.mem_cons_self)
  exact ⟨_,vs,n,x,ok.gone,g,Vs.move Stay.refl (JG JH _) _ _ r⟩
 ·exact V.move Stay.refl (JG JH _) _ _ x
theorem WS.freeze {ss:List Stmt}{a:Addr}{ds:List D}(h:WS c A fr env (fz a ds m) (σa++σb) ss N R X):WS c A fr env m (σa++(a,.lst ds)::σb) ss N R X:=fun s ok fm=>
 W.from (h s (ok.sub JH) (fm.turn fun x d' e=>by
  obtain ⟨d,e1,e2⟩:=Yc e
  exact ⟨d,e1,fun v hv=>e2▸fz_v ok hv⟩)) JH
theorem WE.freeze {e:Expr}(h:WE c A fr env m σ e (fun d σ1=>∃a ds σa σb,d=.ref a/\σ1=σa++(a,.lst ds)::σb/\Q (.lst ds) (σa++σb)) X):WE c A fr env m σ e Q X:=fun s ok fm=>
 wpAny_mono (h s ok fm) (fun v s1 hz=>by
  obtain ⟨d,σ1,p1,ok1,x1,a,ds,σa,σb,hd,hσ,q⟩:=hz
  subst hd hσ
  have:=fz_v ok1 x1
  simp only [fzD,WW,beq_self_eq_true] at this
  exact ⟨.lst ds,σa++σb,p1.to JH,ok1.sub JH,this,q⟩) fun _ _ x=>x
end
end Mine
set_option maxHeartbeats 1000000
namespace Mine
open PySem PySem.Calls PyProof.Rows PySem.W
noncomputable def Gi (c:Cx)(gs:List (Str × Int)):Prop:=∀x i,gs.lookup x=some i->∃t,c.mg x=some (.int i t)
noncomputable def bodyOf:Stmt->List Stmt
 | .ClassDef _ _ _ body _ _ _ _ _ _ _=>body
 | _=>[]
section
variable {c:Cx} {A:Around} {fr:List Addr} {σ:Sto} {X:Addr->Sto->Prop} {Q:D->Sto->Prop} {env:Env} {m:Vars} {B:List Stmt} {bs:List (Str × Value)} {gs:List (Str × Int)}
theorem WE.gInt (T:Tp c B bs)(G:Gi c gs){f:Str}{fp:Pos}{i:Int}(hk:env.kindOf f=some .globalImplicit)(hg:gs.lookup f=some i)(h:Q (.int i) σ)(hdb:(f==("__debug__":Str))=false:=by decide):WE c A fr env m σ (.Name f fp) Q X:=by
 refine Exists.elim (G f i hg) fun t e=> ?_
 exact WE.nInt T.good hk e h hdb
theorem WB.addTs {ds es:List D}(hsz:ds.length+es.length<=sizeLine)(h:Q (.tup (ds++es)) σ):WB c A fr σ (binaryOp .Add) (.tup ds) (.tup es) Q X:=by
 by_cases h1:ds=[]
 ·subst h1
  intro v1 v2 s ok x1 x2
  obtain ⟨l,rfl,z⟩:=SD.of_v (sd:=.tup []) x1
  obtain ⟨b,rfl,y⟩:=SD.of_v (sd:=.tup es) x2
  obtain ⟨vs,n,g,r⟩:=z.tuple rfl
  obtain ⟨us,k,g',r'⟩:=y.tuple rfl
  have hv:vs=[]:=List.eq_nil_of_length_eq_zero r.length
  exact concat_meets ⟨_,g,rfl⟩ ⟨_,g',rfl⟩ noFill_tuple_add seq_tuple_add PySem.F.slot_tuple_add PySem.F.entry_tuple_add (PySem.F.args_tuple_add_2 _ _)
   (tuple_addW0 l b vs.toArray us.toArray n k _ _ _ _ (by simp [hv])) ⟨g,g',.tup es,σ,Post.refl ..,ok,x2,h⟩
 ·by_cases h2:es=[]
  ·subst h2
   intro v1 v2 s ok x1 x2
   obtain ⟨l,rfl,z⟩:=SD.of_v (sd:=.tup ds) x1
   obtain ⟨b,rfl,y⟩:=SD.of_v (sd:=.tup []) x2
   obtain ⟨vs,n,g,r⟩:=z.tuple rfl
   obtain ⟨us,k,g',r'⟩:=y.tuple rfl
   have e1:vs≠[]:=fun e=>h1 (by subst e;exact List.eq_nil_of_length_eq_zero (r.length).symm)
   rw [List.append_nil] at h
   exact concat_meets ⟨_,g,rfl⟩ ⟨_,g',rfl⟩ noFill_tuple_add seq_tuple_add PySem.F.slot_tuple_add PySem.F.entry_tuple_add (PySem.F.args_tuple_add_2 _ _)
    (tuple_addW1 l b vs.toArray us.toArray n k _ _ _ _ (by simpa using e1) (by simp [(List.eq_nil_of_length_eq_zero r'.length)])) ⟨g,g',.tup ds,σ,Post.refl ..,ok,x1,h⟩
  ·exact WB.addT h1 h2 hsz h
end
noncomputable def AtSys (C:Addr)(d:D)(P:D->D->Prop):Prop:=∃sz ru,d=.sys C sz ru/\P sz ru
noncomputable def AtFld (name:Str)(sz ru:D)(P:D->Prop):Prop:=(name="size"/\P sz)\/(name="rules"/\P ru)
theorem AtSys.mk {C:Addr}{sz ru:D}{P:D->D->Prop}(h:P sz ru):AtSys C (.sys C sz ru) P:=⟨sz,ru,rfl,h⟩
theorem AtFld.size {sz ru:D}{P:D->Prop}(h:P sz):AtFld (Str.ofString "size") sz ru P:=.inl ⟨rfl,h⟩
theorem AtFld.rules {sz ru:D}{P:D->Prop}(h:P ru):AtFld (Str.ofString "rules") sz ru P:=.inr ⟨rfl,h⟩
section
variable {c:Cx} {K:Frag} {C:Addr} {cn:Str} {Bd:List Stmt} {A:Around} {fr:List Addr} {σ:Sto} {X:Addr->Sto->Prop} {Q:D->Sto->Prop} {env:Env} {m:Vars}
theorem WE.fld (S:Ks c K C cn Bd){o:Expr}{name:Str}{pos:Pos}(h:WE c A fr env m σ o (fun d σ1=>AtSys C d fun sz ru=>AtFld name sz ru fun e=>Q e σ1) X)(hb:∀w,attributeBase o name env w=w:=by intro _;rfl):WE c A fr env m σ (.Attribute o name pos) Q X:=
 WE.attr S h hb
theorem WE.mth (S:Ks c K C cn Bd){o:Expr}{name:Str}{apos pos:Pos}{args:List Expr}{n:Nat}(r:Room n A)(hf:Mth K C name)
  (h:WE c A fr env m σ o (fun d σ1=>AtSys C d fun _ _=>WA c A fr env m σ1 args (fun ds σ2=>WM c K C (Room n) name (d::ds) σ2 Q X) X) X) (h1:name≠"size":=by decide) (h2:name≠"rules":=by decide)
  (hp:jc args=true:=by rfl) (hb:∀w,attributeBase o name env w=w:=by intro _;rfl) (hl:(apos.endLine==pos.line)=true:=by rfl) (hn:decide (args.length<30)=true:=by rfl):
  WE c A fr env m σ (.Call (.Attribute o name apos) args [] pos) Q X:=WE.callM S r hf h h1 h2 hp hb hl hn
end
section
variable {c:Cx} {A:Around} {fr:List Addr} {σ:Sto} {X:Addr->Sto->Prop} {Q:D->Sto->Prop}
theorem At1.isiL {sd:SD}(hL:sd.isL=true)(inv:sd.inv σ)(h:Q (.bool true) σ):At1 c A fr σ (.builtin "isinstance") [sd.d,.typ "list"] Q X:=.two fun s v u ok hv hu=>by
 subst hu
 obtain ⟨l,rfl,z⟩:=SD.of_v hv
 obtain ⟨vs,n,g,r⟩:=z.list ok inv hL
 exact call_isinstance (isinstance_true (Up (by decide)) (wz (t:="list") (T:="list") (by decide) (by decide))) ⟨⟨_,g,rfl⟩,⟨_,σ,Post.refl ..,ok,V.ofBool,h⟩⟩
end
end Mine
set_option maxHeartbeats 1000000
namespace Mine
open PySem PySem.Calls PyProof.Rows PySem.W
noncomputable def wD (sc scope:Scope)(x:Str)(p cpos:Pos):Bool:=sc.kind==.function&&sc.names.lookup x==some .local&&p.line==cpos.line&& !(scope.names.any fun (n,k)=>n==x&&(k==.local|| k==.cell))
section
variable {c:Cx} {A:Around} {fr:List Addr} {σ:Sto} {X:Addr->Sto->Prop} {Q:D->Sto->Prop} {env:Env} {m:Vars} {N:Vars->Sto->Prop} {R:D->Sto->Prop}
theorem UT {sc scope:Scope}{x:Str}{p cpos:Pos}{elt:Expr}{gs:List Comprehension}{line:Nat}(hsc:env.scope=sc)(h:wD sc scope x p cpos=true):swapsWith (.ListComp elt gs scope cpos) (some (.Name x p)) line env=pure true:=by
 simp only [wD,Bool.and_eq_true,beq_iff_eq] at h
 obtain ⟨⟨⟨h1,h2⟩,h3⟩,h4⟩:=h
 have e3:(Expr.ListComp elt gs scope cpos).pos.line=cpos.line:=rfl
 unfold swapsWith
 dsimp only
 simp only [(by unfold Env.blockKind;rw [hsc,h1];rfl:env.blockKind=.function),(ja hsc h2),h3,e3,h4]
 simp
theorem UU {sc scope:Scope}{x:Str}{p cpos:Pos}{elt:Expr}{gs:List Comprehension}{line:Nat}(hsc:env.scope=sc)(h:sc.names.lookup x=some .cell):swapsWith (.ListComp elt gs scope cpos) (some (.Name x p)) line env=pure false:=by
 unfold swapsWith
 dsimp only
 simp only [(ja hsc h),show (some NameKind.cell==some NameKind.local)=false from rfl,Bool.and_false,Bool.false_and]
theorem WIt.zipX {B:List Stmt}{bs:List (Str × Value)}(T:Tp c B bs)(hh:A.handled=none){f:Str}{fp pos px py tp:Pos}{k:Nat}{e1 e2:Expr}{x y:Str}{Q:List Vars->(Sto->Prop)->Sto->Prop}(hk:env.kindOf f=some .globalImplicit)(hb:bs.lookup f=some (.type "zip"))
  (h:WE c A fr env m σ e1 (fun d1 σ1=>WE c A fr env m σ1 e2 (fun d2 σ2=>∃(α β:Type) (sd1 sd2:SD) (is:List α) (js:List β) (f1:α->D) (f2:β->D),d1=sd1.d/\d2=sd2.d/\sd1.ds=is.map f1/\sd2.ds=js.map f2/\sd1.inv σ2/\sd2.inv σ2/\Q ((is.zip js).map fun p=>[(y,f2 p.2),(x,f1 p.1)]) (fun σ'=>sd1.inv σ'/\sd2.inv σ') σ2) X) X) (hp:jc [e1,e2]=true:=by rfl) (hdb:(f==("__debug__":Str))=false:=by decide):
  WIt c A fr env m σ (.Call (.Name f fp) [e1,e2] [] pos) (.Tuple [.Name x px,.Name y py] k tp) Q X:=by
 refine WIt.zip T.good hh hk (T.bn _ _ hb).1 (T.bn _ _ hb).2 (h.mono (fun d1 σ1 h1=>h1.mono (fun d2 σ2 h2=> ?_) fun _ _ x=>x) fun _ _ x=>x) hp hdb
 obtain ⟨α,β,sd1,sd2,is,js,f1,f2,a1,a2,a3,a4,a5,a6,a7⟩:=h2
 refine ⟨sd1,sd2,a1,a2,a5,a6,?_⟩
 have e:(sd1.ds.zip sd2.ds).map (fun p=>[(y,p.2),(x,p.1)])=(is.zip js).map fun p=>[(y,f2 p.2),(x,f1 p.1)]:=by
  simp only [a3,a4,List.zip_map,List.map_map];rfl
 rw [e];exact a7
theorem W1.assignC {sc:Scope}{x:Str}{pos' pos:Pos}{tg iter elt:Expr}{ifs:List Expr}{scope:Scope}{cpos:Pos}(hsc:env.scope=sc)(h:WIt c A fr env m σ iter tg (Turns c A env m scope ifs elt (QL fun d σ'=>N ((x,d)::m) σ')) X)(h1:Y0 scope=true)(h2:yd scope sc=true)
  (h3:wD sc scope x pos' cpos=true) (hs:∀x,foldedSetIterable iter env x=pure x:=by intro _;rfl):
  W1 c A fr env m σ (.Assign [.Name x pos'] (.ListComp elt [⟨tg,iter,ifs,0⟩] scope cpos) pos) N R X:=by
 refine W1.assignComp h h1 (uI hsc h2) ?_ (UT hsc h3) hs
 simp only [wD,Bool.and_eq_true,beq_iff_eq] at h3
 exact ja hsc h3.1.1.2
theorem W1.assignK {sc:Scope}{x:Str}{pos' pos:Pos}{elt:Expr}{gs:List Comprehension}{scope:Scope}{cpos:Pos}(hsc:env.scope=sc)(h:WE c A fr env m σ (.ListComp elt gs scope cpos) (fun d σ'=>N ((x,d)::m) σ') X)(hk:sc.names.lookup x=some .cell):
  W1 c A fr env m σ (.Assign [.Name x pos'] (.ListComp elt gs scope cpos) pos) N R X:=W1.assign h (.inr (ja hsc hk)) (UU hsc hk)
end
end Mine
set_option maxHeartbeats 1000000
namespace Mine
open PySem PySem.Calls PyProof.Rows PySem.W
theorem yg {h:Heap}{a:Addr}{o:Obj}:∀{K:Frag},(∀p∈K,h.get? p.1=some p.2)->(a,o)∈K->K.lookup a=some o
 | [],_,m=>by cases m
 | (b,q)::r,hK,m=>by
  rw [List.lookup_cons]
  by_cases e:(a==b)=true
  ·rw [e]
   have e':=beq_iff_eq.mp e
   have h1:=hK (b,q) List.mem_cons_self
   have h2:=hK _ m
   dsimp only at h1 h2
   rw [e',h1] at h2
   exact h2
  ·have e':(a==b)=false:=by simpa using e
   rw [e']
   rcases List.mem_cons.mp m with z| z
   ·cases z;simp at e
   ·exact yg (fun p hp=>hK p (List.mem_cons_of_mem _ hp)) z
theorem uK {h:Heap}{K:Frag}(hK:∀p∈K,h.get? p.1=some p.2):K.In h:=fun a o e=>hK (a,o) (jG e)
 where jG {a:Addr} {o:Obj}:∀{K:Frag},K.lookup a=some o->(a,o)∈K
 | [],h=>by cases h
 | (b,q)::r,h=>by
  rw [List.lookup_cons] at h
  by_cases e:(a==b)=true
  ·rw [e] at h;cases h;rw [beq_iff_eq.mp e];exact List.mem_cons_self
  ·have e':(a==b)=false:=by simpa using e
   rw [e'] at h;exact List.mem_cons_of_mem _ (jG h)
theorem gather {h:Heap}{c:ClsRec}{C N:Addr}{mN:Str->Option Value}(P:PlainAt h c C N mN):∃fs:Frag,(∀p∈fs,h.get? p.1=some p.2)/\∀m∈c.meths,∃f o pm cd doc,mN m.name=some (.ref f)/\(f,o)∈fs/\o.cls=.type "function"/\
  o.data=.func (methDef m.name (c.name++"."++m.name) m.params m.body m.scope pm cd doc)/\h.CodeRec cd (c.name++"."++m.name):=by
 have:∀l:List MethRec,(∀m∈l,m∈c.meths)->∃fs:Frag,(∀p∈fs,h.get? p.1=some p.2)/\∀m∈l,∃f o pm cd doc,mN m.name=some (.ref f)/\(f,o)∈fs/\o.cls=.type "function"/\
   o.data=.func (methDef m.name (c.name++"."++m.name) m.params m.body m.scope pm cd doc)/\h.CodeRec cd (c.name++"."++m.name):=by
  intro l
  induction l with
  | nil=>exact fun _=>⟨[],(fun _ h=>by cases h),(fun _ h=>by cases h)⟩
  | cons m l ih=>
   intro hl
   obtain ⟨fs,h1,h2⟩:=ih fun x hx=>hl x (List.mem_cons_of_mem _ hx)
   obtain ⟨f,o,pm,cd,doc,g1,g2,g3,g4,g5⟩:=P.meths m (hl m List.mem_cons_self)
   refine ⟨(f,o)::fs,fun p hp=> ?_,fun x hx=> ?_⟩
   ·rcases List.mem_cons.mp hp with rfl| hp
    ·exact g2
    ·exact h1 p hp
   ·rcases List.mem_cons.mp hx with rfl| hx
    ·exact ⟨f,o,pm,cd,doc,g1,List.mem_cons_self,g3,g4,g5⟩
    ·obtain ⟨f',o',pm',cd',doc',k1,k2,k3⟩:=h2 x hx
     exact ⟨f',o',pm',cd',doc',k1,List.mem_cons_of_mem _ k2,k3⟩
 exact this c.meths fun _ h=>h
noncomputable def Us (m:MethRec):Str × Arguments × List Stmt × Scope:=(m.name,m.params,m.body,m.scope)
noncomputable def Ut (d:PySem.DefRec):Str × Arguments × List Stmt × Scope:=(d.name,d.params,d.body,d.scope)
theorem Ks.ofPlain {c:Cx}{cr:ClsRec}{C N:Addr}{mN:Str->Option Value}{cn:Str}{Bd:List Stmt}(P:PlainAt c.h0 cr C N mN)(hname:c.mg cn=some (.ref C))(hst:(cr.statics.contains ("size":Str)&&cr.statics.contains ("rules":Str))=true)
  (hm:cr.meths.map Us=(Bd.filterMap jT).map Ut):∃K,Ks c K C cn Bd:=by
 obtain ⟨nm,q,bs,sn,sub,col,dd,k0,k1,k2,k3,k5,hC⟩:=P.cls.obj
 obtain ⟨oN,es,ep,gN,hdN,hkN,hfN⟩:=P.cls.ns
 obtain ⟨fs,hfs,hmeth⟩:=gather P
 let K:Frag:=(C,excClassObj nm q C N bs [.type "object"] true sn sub false col dd k0 k1 k2 k3 k5 "object.__new__")::(N,oN)::fs
 have hK:∀p∈K,c.h0.get? p.1=some p.2:=fun p hp=>by
  rcases List.mem_cons.mp hp with rfl| hp
  ·exact hC
  ·rcases List.mem_cons.mp hp with rfl| hp
   ·exact gN
   ·exact hfs p hp
 have lC:K.lookup C=some (excClassObj nm q C N bs [.type "object"] true sn sub false col dd k0 k1 k2 k3 k5 "object.__new__"):=yg hK List.mem_cons_self
 have lN:K.lookup N=some oN:=yg hK (List.mem_cons_of_mem _ List.mem_cons_self)
 have hns:∀x,nsIn K N x=some (mN x):=fun x=>by
  have:=uJ hdN hkN hfN x
  unfold nsIn
  rw [lN]
  obtain ⟨oc,od,odt,osl⟩:=oN
  dsimp only at hdN
  subst hdN
  exact this
 have hown:∀x,ownIn K x (.ref C)=some (mN x):=fun x=>by
  show (match K.lookup C with
   | some ⟨_,_,.cls cd,_⟩=>nsIn K cd.ns x
   | _=>none)=_
  rw [lC]
  exact hns x
 have hfind:∀x,findIn K (.ref C) x=match mN x with
   | some v=>some (some v)
   | none=>some (fastBuiltinOwn "object" x):=fun x=>by
  show (match K.lookup C with
   | some ⟨_,_,.cls cd,_⟩=>alongIn K x cd.mro
   | _=>none)=_
  rw [lC]
  show alongIn K x [.ref C,.type "object"]=_
  unfold alongIn
  rw [hown]
  cases mN x with
  | some v=>rfl
  | none=>
   show alongIn K x [.type "object"]=_
   unfold alongIn ownIn
   dsimp only
   cases fastBuiltinOwn "object" x<;>rfl
 have quiet:∀x∈cr.quiet,findIn K (.ref C) x=some (fastBuiltinOwn "object" x):=fun x hx=>by rw [hfind,P.quiet x hx]
 have hst':=Bool.and_eq_true_iff.mp hst
 have inQ:∀x,cr.statics.contains x=true->x∈cr.quiet:=fun x hx=>List.mem_append_right _ (by simpa using hx)
 obtain ⟨cd,hcls,hcd1,hcd2⟩:∃cd,clsIn K C=some cd/\cd.hasDict=true/\onlyObject cd.mro=true:=⟨_,by unfold clsIn;rw [lC],rfl,rfl⟩
 have htype:typeIn K (.ref C)=some (.type "type"):=by show (K.lookup C).map (·.cls)=_;rw [lC];rfl
 refine ⟨K,uK hK,hname,?_,?_,?_,?_,?_,?_,?_,?_,?_,fun d hd=> ?_⟩
 ·rw [quiet _ (List.mem_append_left _ (by decide))];kernel_rfl
 ·rw [quiet _ (List.mem_append_left _ (by decide))];kernel_rfl
 ·unfold hasDictIn;rw [hcls];exact hcd1
 ·unfold makesIn
  rw [lC]
  have e1:specialIn K (.ref C) "__call__"=some (some (.builtin "type.__call__")):=by
   unfold specialIn;rw [htype];kernel_rfl
  have e2:instIn K (.ref C) (.type "type")=some true:=by
   unfold instIn;rw [htype];kernel_rfl
  show (!false&& !false&&_&&_&&_&&_&&(specialIn K (.ref C) "__call__"==some (some (.builtin "type.__call__")))&&(instIn K (.ref C) (.type "type")==some true))=true
  rw [e1,e2]
  simp
 ·unfold keepIn
  dsimp only
  rw [lC]
  show (specialIn K (.ref C) "__call__"==some (some (.builtin "type.__call__")))=true
  unfold specialIn;rw [htype];kernel_rfl
 ·unfold plainOver;rw [hcls];exact hcd2
 ·rw [quiet _ (List.mem_append_left _ (by decide))];kernel_rfl
 ·rw [quiet _ (inQ _ hst'.1)];kernel_rfl
 ·rw [quiet _ (inQ _ hst'.2)];kernel_rfl
 ·have:Ut d∈cr.meths.map Us:=by rw [hm];exact List.mem_map_of_mem hd
  obtain ⟨m,hm1,hm2⟩:=List.mem_map.mp this
  obtain ⟨f,o,pm,cd,doc,g1,g2,g3,g4,g5⟩:=hmeth m hm1
  obtain ⟨mn,mp,mb,ms⟩:=m
  obtain ⟨dn,dp,db,ds,dpos⟩:=d
  simp only [Us,Ut,Prod.mk.injEq] at hm2
  obtain ⟨rfl,rfl,rfl,rfl⟩:=hm2
  have lf:K.lookup f=some o:=yg hK (List.mem_cons_of_mem _ (List.mem_cons_of_mem _ g2))
  refine ⟨f,o,pm,cd,doc,_,by rw [hfind];dsimp only at g1⊢;rw [g1],?_,?_,hfs _ g2,g4,g5⟩
  ·show (K.lookup f).map (·.cls)=_;rw [lf];exact congrArg some g3
  ·unfold keepIn;dsimp only;rw [lf]
   obtain ⟨oc,od,odt,osl⟩:=o
   dsimp only at g4
   subst g4
   rfl
theorem Gi.ofTop {c:Cx}{p:Program}{loose:List Str}{mean:ExcName->Option Value}{gs:List (Str × Int)}(T:Top p loose mean c.mg c.mb c.h0)(h:gs.map (fun q=>valOf p q.1)=gs.map fun q=>some (.int q.2)):Gi c gs:=fun x i e=>by
 have hm:=mem_of_lookup e
 have:=List.map_inj_left.mp h (x,i) hm
 obtain ⟨v,h1,h2⟩:=T.const x _ this
 have r:=h2 c.h0
 cases r
 exact ⟨_,h1⟩
noncomputable def j0w (cr:ClsRec):Str × Bool × List (Str × Arguments × List Stmt × Scope):=(cr.name,cr.withCmp.statics.contains ("size":Str)&&cr.withCmp.statics.contains ("rules":Str),cr.withCmp.meths.map Us)
theorem Ks.ofTop {c:Cx}{view:Program}{loose:List Str}{cn:Str}{Bd:List Stmt}(TE:TopE view loose c.mg c.h0)(i:Nat)(h:((plainsOf view loose)[i]?).map j0w=some (cn,true,(Bd.filterMap jT).map Ut)):∃K C,Ks c K C cn Bd:=by
 obtain ⟨cr,h1,h2⟩:=Option.map_eq_some_iff.mp h
 simp only [j0w,Prod.mk.injEq] at h2
 obtain ⟨rfl,h4,h5⟩:=h2
 obtain ⟨C,N,mN,hC,P⟩:=TE cr (List.mem_of_getElem? h1)
 obtain ⟨K,S⟩:=Ks.ofPlain P hC h4 h5
 exact ⟨K,C,S⟩
end Mine
set_option maxHeartbeats 1000000
namespace Mine
open PySem PySem.Calls PyProof.Rows PySem.W
section
variable {c:Cx} {A:Around} {fr:List Addr} {σ:Sto} {X:Addr->Sto->Prop} {Q:D->Sto->Prop} {env:Env} {m:Vars} {N:Vars->Sto->Prop} {R:D->Sto->Prop}
theorem Ex.made {s s':Shared}{h':Heap}{e C:Addr}{vs:List Value}{σ':Sto}(fm:Fm env m fr (keys σ++fr) s.heap)(p:Post [] fr σ s s' σ')(ok:Ok c A fr σ' s'.heap)(x:Heap.MadeExcOf s'.heap h' e (.ref C) vs)(hX:X C σ'):
  Ex c A (some env) fr σ s false X (.ref e) {s' with heap:=h'}:=by
 obtain ⟨t,he,_,_⟩:=x.there
 have pk:Post [] fr σ' s' {s' with heap:=h'} σ':=Post.keeps (tk:=s'.toks) x.keeps
 have pp:=p.trans pk
 refine ⟨e,C,σ',[e],rfl,pp.wide (by simp),ok.more x.keeps (fun a ha=>by rw [List.mem_singleton.mp ha];exact x.new) (fun a ha=>by rw [List.mem_singleton.mp ha];exact ⟨_,he⟩) (by simp),fun a ha=> ?_,⟨_,_,he,⟨rfl,rfl⟩,rfl,by simp,.inl ⟨rfl,rfl,rfl⟩⟩,(fm.move pp).forget,hX⟩
 rw [List.mem_singleton.mp ha]
 exact jF p x.new
theorem W1.raise {x:Str}{C:Addr}{bm:List Value}{B newId initId:String}{np cpos pos:Pos}{args:List Expr}(g:c.Good)(O:OwnCls x C bm newId c.mg c.h0)(FB:ExcBaseFacts B newId initId bm)(hh:A.handled=none)(hk:env.kindOf x=some .globalImplicit)
  (h:WA c A fr env m σ args (fun ds σ1=>ds.length<=sizeLine/\X C σ1) X) (hp:jc args=true:=by rfl) (hdb:(x==("__debug__":Str))=false:=by decide):
  W1 c A fr env m σ (.Raise (some (.Call (.Name x np) args [] cpos)) none pos) N R X:=fun s ok fm=>by
 have hst:=jd (env:=env) (pos:=cpos) hp
 obtain ⟨tl,N,nm,q,bs,hdct,sn,sub,ab,col,dd,k0,k1,k2,k3,k5,mN,hC,hN,hni,T⟩:=O.obj
 refine wpAny_Raise_call_subT (C:=C) (nm:=nm) (q:=q) (N:=N) (bs:=bs) (bm:=tl) (hdct:=hdct) (sn:=sn) (sub:=sub) (ab:=ab) (col:=col) (dd:=dd) (k0:=k0) (k1:=k1) (k2:=k2) (k3:=k3) (k5:=k5)
  FB (mN:=mN) (T.hasType FB.hasBase) hh (by rw [List.any_eq_false];intro y hy;simp [hst y hy]) hni ?_
 refine Name_function_global fm.kind hk (loadGlobal_global (by rw [fm.glob];exact g.g.keeps ok.base) O.bound ⟨rfl,?_⟩) hdb
 refine jq hst (wpAny_mono (h cpos s ok fm) (fun us s1 hx=> ?_) fun _ _ x=>x.wide fm)
 obtain ⟨ds,σ1,p1,ok1,x1,hl,hX⟩:=hx
 exact ⟨rfl,by rw [x1.length];exact hl,ok1.base _ _ hC,hN.keeps ok1.base,T.keeps ok1.base,fun h' e hm=>Ex.made fm p1 ok1 hm hX⟩
end
end Mine
set_option maxHeartbeats 1000000
set_option maxRecDepth 100000
namespace Mine
open PySem PySem.Calls PyProof.Rows PySem.W
structure Xd (M:Model)(h:Heap)(D:Addr):Prop where
 cls:Looks M h (typeLookup (.ref D) "__class__") (some (.builtin "object.__class__"))
 ga:Looks M h (typeLookup (.ref D) "__getattribute__") (some (.builtin "BaseException.__getattribute__"))
 geta:Looks M h (typeLookup (.ref D) "__getattr__") none
 subB:Looks M h (isSubtype (.ref D) (.type "BaseException")) true
 subO:Looks M h (isSubtype (.ref D) (.type "object")) true
 isT:Looks M h (isType (.ref D)) true
section
variable {prog:Program} {w:World} {A:Around} {E:Value->Shared->Prop} {h:Heap} {g:Array GenState} {d:Drawn} {t:Nat} {os:OsState} {a D:Addr} {o:Obj}
theorem xc_get {R:Result->Shared->Prop}(S:Xd (model prog w) h D)(hx:h.get? a=some o)(hc:o.cls=.ref D)(hq:R (.ok (.ret (.ref D))) ⟨h,g,d,t,os⟩):
  codeAny (model prog w) A (.call (.builtin "getset_descriptor.__get__") ⟨[.builtin "object.__class__",.ref a,.ref D],[]⟩) R ⟨h,g,d,t,os⟩:=by
 have hT5:(⟨h,g,d,t,os⟩:Shared).TypeIs (.builtin "object.__class__") "getset_descriptor":=F.typeOf_object_class
 have L:Looks (model prog w) h (isSubtype (.ref D) (.type (".".intercalate ("object.__class__".cutAt '.').dropLast))) true:=by rw [F.owner_object_class];exact S.subO
 refine codeAny_call_builtin F.slot_gs_get.plain F.entry_gs_get (F.slot_gs_get.check _ _ _ _ _ _ _ _ hT5 (F.args_gs_get _ _ _) ?_)
 repeat (any_goals (first| assumption| (with_reducible refine wpAny_loadPart_at hx ?_;rw [hc])| with_reducible refine L.at ?_| wp_step))
 refine ⟨Code.quiet_builtin _ (by decide+kernel),codeAny_builtin F.entry_object_class ?_⟩
 repeat (any_goals (first| assumption| (with_reducible refine wpAny_loadPart_at hx ?_;rw [hc])| wp_step))
theorem WX {nameV:Value}{Q:Unit->Shared->Prop}(S:Xd (model prog w) h D)(hx:h.get? a=some o)(hc:o.cls=.ref D)(hq:Q () ⟨h,g,d,t,os⟩):wpAny (model prog w) A (checkBuiltinCall "BaseException.__getattribute__" ⟨[.ref a,nameV],[]⟩) Q E ⟨h,g,d,t,os⟩:=by
 have hk:builtinKind "BaseException.__getattribute__"=some .slot:=by decide+kernel
 have hsplit:splitId "BaseException.__getattribute__"=some ("BaseException","__getattribute__"):=by decide+kernel
 have ha:=F.args_bexc_ga (.ref a) nameV
 have L:=S.subB
 simp only [checkBuiltinCall,hk,hsplit]
 refine wpAny_bind ?_
 ·unfold isInstance
  repeat (first| (with_reducible refine wpAny_loadPart_at hx ?_;rw [hc])| with_reducible refine L.at ?_| wp_step)
  exact hq
theorem WY {tk:Tok}{Q:Fin->Shared->Prop}(S:Xd (model prog w) h D)(hx:h.get? a=some o)(hc:o.cls=.ref D)(hq:Q (.done (.ret (.ref D))) ⟨h,g,d,t,os⟩):
  wpAny (model prog w) A (Builtin.«object.__getattribute__» ⟨[.ref a,.str "__class__" tk],[]⟩) Q E ⟨h,g,d,t,os⟩:=by
 have hT5:(⟨h,g,d,t,os⟩:Shared).TypeIs (.builtin "object.__class__") "getset_descriptor":=F.typeOf_object_class
 have f5:=F.typeOf_object_class
 have f6:=F.slot_gs_get.lookup
 have f7:=F.slot_gs_set.lookup
 have L:=S.cls
 repeat (any_goals (first| assumption| (with_reducible refine wpAny_loadPart_at hx ?_;rw [hc])| with_reducible refine L.at ?_| wp_step))
 refine xc_get S hx hc ?_
 repeat (any_goals (first| assumption| wp_step))
theorem j10 {tk:Tok}{R:Result->Shared->Prop}(S:Xd (model prog w) h D)(hx:h.get? a=some o)(hc:o.cls=.ref D)(hq:R (.ok (.ret (.ref D))) ⟨h,g,d,t,os⟩):
  codeAny (model prog w) A (.call (.builtin "BaseException.__getattribute__") ⟨[.ref a,.str "__class__" tk],[]⟩) R ⟨h,g,d,t,os⟩:=
 codeAny_call_builtin F.attrBase_ValueError.ga.plain F.entry_bexc_ga (WX S hx hc (WY S hx hc hq))
theorem xc_by {tk:Tok}{Q:Value->Shared->Prop}(S:Xd (model prog w) h D)(hx:h.get? a=some o)(hc:o.cls=.ref D)(hq:Q (.ref D) ⟨h,g,d,t,os⟩):
  wpAny (model prog w) A (getAttrBy (.ref a) (.str "__class__" tk) false) Q E ⟨h,g,d,t,os⟩:=by
 have f3:=F.attrBase_ValueError.ga.bind (.ref a)
 have hx2:(Value.builtin "BaseException.__getattribute__"==Value.builtin "object.__getattribute__")=false:=by decide+kernel
 have hx1:(onTheHeap (Value.ref D)&&Value.builtin "BaseException.__getattribute__"==Value.builtin "object.__getattribute__")=false:=by rw [hx2];rfl
 have L1:=S.ga
 have L2:=S.geta
 repeat (any_goals (first| assumption| (with_reducible refine wpAny_loadPart_at hx ?_;rw [hc])| with_reducible refine L1.at ?_| with_reducible refine L2.at ?_| wp_step))
 refine j10 S hx hc ?_
 repeat (any_goals (first| assumption| wp_step))
theorem j11 {Q:Option Value->Shared->Prop}(S:Xd (model prog w) h D)(hx:h.get? a=some o)(hc:o.cls=.ref D)(hq:Q (some (.ref D)) ⟨h,g,d,t+1,os⟩):wpAny (model prog w) A (getAttr? (.ref a) "__class__") Q E ⟨h,g,d,t,os⟩:=by
 unfold getAttr? getAttrBy?
 repeat (any_goals (first| assumption| with_reducible apply xc_by S hx hc| wp_step))
theorem wE {cv:Value}{dep:Int}{tk:Tok}{Q:Fin->Shared->Prop}(S:Xd (model prog w) h D)(hx:h.get? a=some o)(hc:o.cls=.ref D)(hty:Looks (model prog w) h (typeOf cv) (.type "type"))(his:Looks (model prog w) h (isType cv) true)
  (hne:(Value.ref D==cv)=false) (hsub:Looks (model prog w) h (isSubtype (.ref D) cv) false) (hq:Q (.done (.ret (.bool false))) ⟨h,g,d,t+1,os⟩):
  wpAny (model prog w) A (Builtin.«isinstance.nested» ⟨[.ref a,cv,.int dep tk],[]⟩) Q E ⟨h,g,d,t,os⟩:=by
 have L0:Looks (model prog w) h (typeOf (.ref a)) (.ref D):=by
  intro A' Q' E' s' k q
  exact wpAny_bind (wpAny_loadPart (k _ _ hx) (wpAny_pure (by rw [hc];exact q)))
 have LI:Looks (model prog w) h (isInstance (.ref a) cv) false:=L0.andThen hsub
 unfold Builtin.«isinstance.nested»
 refine wpAny_bind (L0.at ?_)
 rw [if_neg (fun q=>by rw [hne] at q;exact Bool.noConfusion q)]
 refine wpAny_bind (hty.at ?_)
 rw [if_pos (by decide)]
 k_delta "plainIsInstance"
 refine wpAny_bind (wpAny_bind (his.at ?_))
 simp only [Bool.not_true,Bool.false_eq_true,if_false]
 refine wpAny_bind (LI.at ?_)
 simp only [Bool.false_eq_true,if_false]
 refine wpAny_bind (j11 S hx hc ?_)
 refine wpAny_bind (S.isT.at ?_)
 simp only [Bool.not_true,Bool.false_eq_true,if_false]
 refine wpAny_bind (wpAny_rule ?_)
 refine hsub.at ?_
 first
  | exact wpAny_pure hq
  | exact wpAny_pure (wpAny_pure hq)
  | exact wpAny_bind (wpAny_pure (wpAny_pure hq))
end
end Mine
set_option maxHeartbeats 1000000
set_option maxRecDepth 100000
namespace Mine
open PySem PySem.Calls PyProof.Rows PySem.W
section
variable {prog:Program} {w:World} {A:Around} {E:Value->Shared->Prop} {h:Heap} {g:Array GenState} {d:Drawn} {t:Nat} {os:OsState} {a D:Addr} {o:Obj}
theorem wF {M:Model}(hx:h.get? a=some o)(hc:o.cls=.ref D):Looks M h (typeOf (.ref a)) (.ref D):=by
 intro A' Q' E' s' k q
 exact wpAny_bind (wpAny_loadPart (k _ _ hx) (wpAny_pure (by rw [hc];exact q)))
theorem UV {cv:Value}{dep:Int}{tk:Tok}{Q:Fin->Shared->Prop}(hx:h.get? a=some o)(hc:o.cls=.ref D)(hty:Looks (model prog w) h (typeOf cv) (.type "type"))(his:Looks (model prog w) h (isType cv) true)
  (hsub:Looks (model prog w) h (isSubtype (.ref D) cv) true) (hq:Q (.done (.ret (.bool true))) ⟨h,g,d,t,os⟩):
  wpAny (model prog w) A (Builtin.«isinstance.nested» ⟨[.ref a,cv,.int dep tk],[]⟩) Q E ⟨h,g,d,t,os⟩:=by
 have L0:=wF (M:=model prog w) hx hc
 have LI:Looks (model prog w) h (isInstance (.ref a) cv) true:=L0.andThen hsub
 unfold Builtin.«isinstance.nested»
 refine wpAny_bind (L0.at ?_)
 by_cases q:(Value.ref D==cv)=true
 ·rw [if_pos q]
  exact wpAny_bind (wpAny_rule (wpAny_bind (wpAny_pure (wpAny_pure hq))))
 ·rw [if_neg q]
  refine wpAny_bind (hty.at ?_)
  rw [if_pos (by decide)]
  k_delta "plainIsInstance"
  refine wpAny_bind (wpAny_bind (his.at ?_))
  simp only [Bool.not_true,Bool.false_eq_true,if_false]
  refine wpAny_bind (LI.at ?_)
  simp only [if_true]
  exact wpAny_pure (wpAny_pure hq)
end
structure Xs (c:Cx)(K:Frag)(es:List (Str × Addr × List Value)):Prop where
 inn:K.In c.h0
 good:c.Good
 ok:es.all (xOne K)=true
structure X1 (c:Cx)(K:Frag)(x:Str)(C:Addr)(mro:List Value):Prop where
 inn:K.In c.h0
 name:c.mg x=some (.ref C)
 cls:∃cd,clsIn K C=some cd/\cd.mro=mro
 typ:typeIn K (.ref C)=some (.type "type")
 fc:findIn K (.ref C) "__class__"=some (some (.builtin "object.__class__"))
 fg:findIn K (.ref C) "__getattribute__"=some (some (.builtin "BaseException.__getattribute__"))
 fa:findIn K (.ref C) "__getattr__"=some none
 mB:mro.contains (.type "BaseException")=true
 mO:mro.contains (.type "object")=true
 ne:mro.isEmpty=false
theorem Xs.at {c:Cx}{K:Frag}{es:List (Str × Addr × List Value)}{x:Str}{C:Addr}{mro:List Value}(S:Xs c K es)(h:es.lookup x=some (C,mro)):X1 c K x C mro:=by
 have:=List.all_eq_true.mp S.ok _ (mem_of_lookup h)
 simp only [xOne,Bool.and_eq_true,beq_iff_eq,Bool.not_eq_true'] at this
 obtain ⟨⟨⟨⟨⟨⟨⟨⟨h1,h2⟩,h3⟩,h4⟩,h5⟩,h6⟩,h7⟩,h8⟩,h9⟩:=this
 obtain ⟨cd,hc,he⟩:=any_some h2
 exact ⟨S.inn,mg_of S.inn S.good.g h1,⟨cd,hc,beq_iff_eq.mp he⟩,h3,h4,h5,h6,h7,h8,h9⟩
section
variable {c:Cx} {K:Frag} {x:Str} {C:Addr} {mro:List Value} {M:Model} {h:Heap}
theorem X1.sub (S:X1 c K x C mro)(k:K.In h)(v:Value):Looks M h (isSubtype (.ref C) v) (mro.contains v):=by
 obtain ⟨cd,hc,he⟩:=S.cls
 refine looks_mroIn k ?_
 unfold mroIn
 rw [hc,Option.bind_some,he,if_neg (by rw [S.ne];decide)]
theorem X1.isT (S:X1 c K x C mro)(k:K.In h):Looks M h (isType (.ref C)) true:=by
 obtain ⟨cd,hc,_⟩:=S.cls
 unfold clsIn at hc
 split at hc
 ·rename_i ho
  intro A' Q' E' s' k' q
  unfold isType loadHead
  exact wpAny_bind (wpAny_loadPart (k' _ _ (k _ _ ho)) (wpAny_pure q))
 ·cases hc
theorem X1.type (S:X1 c K x C mro)(k:K.In h):Looks M h (typeOf (.ref C)) (.type "type"):=looks_typeIn k S.typ
theorem X1.xd (S:X1 c K x C mro)(k:K.In h):Xd M h C where
 cls:=looks_findIn k S.fc
 ga:=looks_findIn k S.fg
 geta:=looks_findIn k S.fa
 subB:=by have:=S.sub (M:=M) k (.type "BaseException");rwa [S.mB] at this
 subO:=by have:=S.sub (M:=M) k (.type "object");rwa [S.mO] at this
 isT:=S.isT k
end
section
variable {c:Cx} {K:Frag} {A:Around} {fr:List Addr} {σ:Sto} {X:Addr->Sto->Prop} {Q:D->Sto->Prop} {env:Env} {m:Vars} {es:List (Str × Addr × List Value)}
theorem WE.nX (S:Xs c K es){f:Str}{fp:Pos}{C:Addr}{mro:List Value}(hk:env.kindOf f=some .globalImplicit)(he:es.lookup f=some (C,mro))(h:Q (.ref C) σ)(hdb:(f==("__debug__":Str))=false:=by decide):WE c A fr env m σ (.Name f fp) Q X:=fun s ok fm=>
 Name_function_global fm.kind hk (loadGlobal_global (by rw [fm.glob];exact S.good.g.keeps ok.base) (S.at he).name ⟨_,σ,Post.refl ..,ok,by unfold V;rfl,h⟩) hdb
structure IsiX (h:Heap)(a C:Addr)(cv:Value)(b:Bool):Prop where
 obj:∃o,h.get? a=some o/\o.cls=.ref C
 xd:∀M:Model,Xd M h C
 ty:∀M:Model,Looks M h (typeOf cv) (.type "type")
 is_:∀M:Model,Looks M h (isType cv) true
 sub:∀M:Model,Looks M h (isSubtype (.ref C) cv) b
 ne:b=false->(Value.ref C==cv)=false
theorem wG {prog:Program}{w:World}{E:Value->Shared->Prop}{s:Shared}{a C:Addr}{cv:Value}{b:Bool}{P:Value->Shared->Prop}(x:IsiX s.heap a C cv b)(h:∀tk,P (.bool b) {s with toks:=tk}):
  wpAny (model prog w) A (call (.builtin "isinstance") [.ref a,cv]) P E s:=by
 refine call_isinstance (S:=fun _ R s=>IsiX s.heap a C cv b/\∀tk,R (.ok (.ret (.bool b))) {s with toks:=tk}) (fun prog' w' A' R' s' hs=>isinstance_outer ?_ (by intro q;cases q)) ⟨x,h⟩
 obtain ⟨⟨⟨o,hx,hc⟩,S,hty,his,hsub,hne⟩,hR⟩:=hs
 obtain ⟨hh,g,d,t,os⟩:=s'
 cases b with
 | true=>exact UV hx hc (hty _) (his _) (hsub _) (hR t)
 | false=>exact wE (S _) hx hc (hty _) (his _) (hne rfl) (hsub _) (hR (t+1))
theorem V.excAt {Kk:List Addr}{h:Heap}{C:Addr}{v:Value}(x:V Kk h (.exc C) v):∃a o,v=.ref a/\h.get? a=some o/\o.cls=.ref C:=by
 unfold V at x
 obtain ⟨a,o,vs,e,_,g,hc,_⟩:=x
 exact ⟨a,o,e,g,hc⟩
theorem At1.isiX (S:Xs c K es){x y:Str}{C C':Addr}{mro mro':List Value}{b:Bool}(hx:es.lookup x=some (C,mro))(hy:es.lookup y=some (C',mro'))(hb:mro.contains (.ref C')=b)(hself:mro.contains (.ref C)=true)(h:Q (.bool b) σ):
  At1 c A fr σ (.builtin "isinstance") [.exc C,.ref C'] Q X:=.two fun s v u ok hv hu=>by
 obtain ⟨a,o,rfl,g,hc⟩:=hv.excAt
 unfold V at hu;subst hu
 have k:K.In s.heap:=S.inn.keeps ok.base
 refine wG (C:=C) (b:=b) ⟨⟨o,g,hc⟩,fun M=>(S.at hx).xd k,fun M=>(S.at hy).type k,fun M=>(S.at hy).isT k,fun M=>hb▸(S.at hx).sub k _,fun e=> ?_⟩ fun tk=>⟨_,σ,Post.tok ..,ok,V.ofBool,h⟩
 subst e
 rw [beq_eq_false_iff_ne]
 intro q
 rw [<-q,hself] at hb
 cases hb
theorem At1.isiV (S:Xs c K es){x:Str}{C:Addr}{mro:List Value}{T:String}{b:Bool}(hx:es.lookup x=some (C,mro))(hb:mro.contains (.type T)=b)(hty:typeOf (.type T)=pure (.type "type"))(his:isType (.type T)=pure true)(h:Q (.bool b) σ):
  At1 c A fr σ (.builtin "isinstance") [.exc C,.typ T] Q X:=.two fun s v u ok hv hu=>by
 obtain ⟨a,o,rfl,g,hc⟩:=hv.excAt
 unfold V at hu;subst hu
 have k:K.In s.heap:=S.inn.keeps ok.base
 exact wG (C:=C) (b:=b) ⟨⟨o,g,hc⟩,fun M=>(S.at hx).xd k,fun M=>Looks.of_pure hty,fun M=>Looks.of_pure his,fun M=>hb▸(S.at hx).sub k _,fun e=>rfl⟩ fun tk=>⟨_,σ,Post.tok ..,ok,V.ofBool,h⟩
end
end Mine
set_option maxHeartbeats 1000000
set_option maxRecDepth 100000
namespace Mine
open PySem PySem.Calls PyProof.Rows PySem.W
section
variable {c:Cx} {K:Frag} {A:Around} {fr:List Addr} {σ:Sto} {X:Addr->Sto->Prop} {Q:D->Sto->Prop} {env:Env} {m:Vars} {es:List (Str × Addr × List Value)} {N:Vars->Sto->Prop} {R:D->Sto->Prop}
theorem WZ {M:Model}{h:Heap}{x y:Str}{C C' e:Addr}{mro mro':List Value}{o:Obj}(S:X1 c K x C mro)(S':X1 c K y C' mro')(k:K.In h)(he:h.get? e=some o)(hc:o.cls=.ref C)(hb:mro.contains (.ref C')=true):
  Looks M h (excMatches (.ref e) (.ref C')) true:=by
 intro A Q E s ks q
 have L1:Looks M s.heap (isInstance (.ref C') (.type "tuple")) false:=((S'.type k).keeps ks).andThen (Looks.of_pure tc_notTuple)
 have L2:Looks M s.heap (isExcClass (.ref C')) true:=by
  have a:=(S'.isT (M:=M) k).keeps ks
  have b:=(S'.sub (M:=M) k (.type "BaseException")).keeps ks
  rw [S'.mB] at b
  exact a.andThen b
 have L3:Looks M s.heap (typeOf (.ref e)) (.ref C):=(wF he hc).keeps ks
 have L4:Looks M s.heap (isSubtype (.ref C) (.ref C')) true:=by
  have:=(S.sub (M:=M) k (.ref C')).keeps ks
  rwa [hb] at this
 unfold excMatches
 refine wpAny_bind (L1.here ?_)
 simp only [Bool.false_eq_true,if_false]
 refine wpAny_bind (wpAny_pure ?_)
 simp only [List.forIn_cons,List.forIn_nil]
 refine wpAny_bind (wpAny_bind (wpAny_bind (L2.here ?_)))
 simp only [Bool.not_true,Bool.false_eq_true,if_false]
 refine wpAny_pure (wpAny_pure (wpAny_bind (L3.here (wpAny_bind (wpAny_bind (wpAny_bind (L4.here ?_)))))))
 simp only [if_true]
 exact wpAny_pure (wpAny_pure (wpAny_pure q))
theorem Ex.at {A':Around}{G:Option Env}{s s':Shared}{t:Bool}{v:Value}(x:Ex c A G fr σ s t X v s')(e:A'.frames=A.frames):Ex c A' G fr σ s t X v s':=by
 obtain ⟨e',C,σ2,ex,rfl,q,ok,n,r,f,hx⟩:=x
 exact ⟨e',C,σ2,ex,rfl,q,ok.at e,n,r,f,hx⟩
theorem W1.tryAs {sc:Scope}{body suite:List Stmt}{b₀:Stmt}{T n:Str}{np hpos pos:Pos}{CE:Addr}{mroE:List Value}{Xb:Addr->Sto->Prop}(fe:Fe A env sc)(S:Xs c K es)(hT:env.kindOf T=some .globalImplicit)(heT:es.lookup T=some (CE,mroE))(hn:env.kindOf n=some .local)
  (h:WS c A fr env m σ body N R Xb)
  (k:∀C σ',Xb C σ'->∃x mro,es.lookup x=some (C,mro)/\mro.contains (.ref CE)=true/\∀e,WS c (A.mark (some (.ref e))) fr env [(n,.exc C)] σ' (b₀::suite) (fun _ _=>False) R NoX) (hdb:(T==("__debug__":Str))=false:=by decide):
  W1 c A fr env m σ (.Try body [.ExceptHandler (some (.Name T np)) (some n) (b₀::suite) hpos] [] [] pos) N R X:=fun s ok fm=>by
 obtain ⟨l,hst⟩:=fe.stack
 refine wpAny_Try_except (wpAny_mono (h s ok fm) (fun f s1 hx=> ?_) fun v s1 hx=> ?_)
 ·obtain ⟨o,σ1,p1,ok1,r1,q1⟩:=hx
  cases o with
  | next m'=>obtain ⟨rfl,fm1⟩:=r1;exact wpAny_execs_nil ⟨.next m',σ1,p1,ok1,⟨rfl,fm1⟩,q1⟩
  | ret d=>obtain ⟨v,rfl,hv⟩:=r1;exact ⟨.ret d,σ1,p1,ok1,⟨v,rfl,hv⟩,q1⟩
 refine wpAny_mono (Ex.noted hx hst fe.frame) (fun _ s2 hx2=> ?_) fun _ _ f=>f
 refine wpAny_mono (Ex.flight (f? :=none) hx2) (fun _ s3 hx3=> ?_) fun _ _ f=>f
 have hx3':=hx3
 obtain ⟨e,C,σ',ex,rfl,p,ok2,hnew,⟨oe,vs,ge,⟨gc,gd⟩,gf,gs,gt⟩,hF,hX⟩:=hx3
 obtain ⟨x,mro,hex,hmro,hsuite⟩:=k C σ' hX
 have kk:K.In s3.heap:=S.inn.keeps ok2.base
 have fm3:Fm env [] fr (keys σ'++fr) s3.heap:=hF
 have hmk:(A.mark (some (.ref e))).frames=A.frames:=rfl
 refine wpAny_handleBy_cons (codeAny_handlers_test ?_) (by intro q;cases q)
 refine Name_function_global fm3.kind hT (loadGlobal_global (by rw [fm3.glob];exact S.good.g.keeps ok2.base) (S.at heT).name ?_) hdb
 refine (WZ (S.at hex) (S.at heT) kk ge gc hmro).here ?_
 simp only [if_true]
 refine codeAny_handlers_suite_as ?_
 refine wpAny_mono (Ex.flight (f? :=none) (hx3'.at hmk)) (fun _ s4 hx4=> ?_) fun _ _ f=>f
 obtain ⟨e',C',σ'',ex',he',p4,ok4,hnew4,⟨oe4,vs4,ge4,⟨gc4,gd4⟩,gf4,gs4,gt4⟩,hF4,hX4⟩:=hx4
 obtain rfl:e=e':=by injection he'
 obtain ⟨x',mro',hex',hmro',hsuite'⟩:=k C' σ'' hX4
 have hin:∀l,(A.mark (some (.ref e))).frames=some l->∀b∈l.filterMap (·.frame),b∈fr:=ok.frames_in
 have ok5:Ok c (A.mark (some (.ref e))) fr σ'' s4.heap:=Ok.less (ex:=[]) (wr:=ex') ok4 hin
 have hee:e∈ex':=by
  rcases gt4 with ⟨_,h,_⟩| ⟨T',_,_,h,_⟩<;>rw [h]<;>simp
 have hV:V (keys σ''++fr) s4.heap (.exc C') (.ref e):=by unfold V;exact ⟨e,oe4,vs4,rfl,ok4.apart.1 e hee,ge4,gc4,gf4,gd4⟩
 refine wpAny_mono (W.store (X:=NoX) ok5 (show Fm env [] fr (keys σ''++fr) s4.heap from hF4) hV (.inl hn)) (fun _ s5 hx5=> ?_) fun _ _ f=>(Ex.no f).elim
 obtain ⟨_,σ5,p5,ok5',fm5,hσ5⟩:=hx5
 subst hσ5
 refine wpAny_mono (hsuite' e s5 ok5' fm5) (fun f s6 hx6=> ?_) fun v s6 hx6=>(Ex.no hx6).elim
 obtain ⟨o,σ6,p6,ok6,r6,q6⟩:=hx6
 cases o with
 | next m'=>exact q6.elim
 | ret d=>
  obtain ⟨v,rfl,hv,fv⟩:=r6
  obtain ⟨mv,hns,_⟩:=fv.ns
  refine wpAny_nameGoes hn hns (by rw [fv.kind];rfl) fun h' m' hn' sb=> ?_
  obtain ⟨oL,esL,epL,eL,hdL,_⟩:=_root_.id hn'
  have pt:Post (Fa env) fr σ6 s6 {s6 with heap:=h',toks:=s6.toks+1} σ6:=Post.turn List.mem_cons_self fv.fa sb eL
  have okt:Ok c A fr σ6 h':=(ok6.turn fv.inn.1 sb eL (fun vs=>by rw [hdL];intro q;cases q) (fun _=>⟨oL,esL,epL,eL,hdL⟩)).at rfl
  have st:Stay (keys σ6++fr) s6.heap h':=fun b o' nb e=>(sb.2 b fun q=>nb (q▸List.mem_append_right _ fv.inn.1)).trans e
  refine ⟨.ret d,σ6,(p4.trans p5).trans (p6.trans pt),okt,⟨v,rfl,V.move st (fun _ z=>.inl z) _ _ hv,?_⟩,q6⟩
  exact {
   kind:=fv.kind
   glob:=fv.glob
   bui:=fv.bui
   ns:=⟨m',hn',fun x d e=>by cases e⟩
   cell:=fun x cc e=>by
    obtain ⟨ov,hc,_⟩:=fv.cell x cc e
    exact ⟨ov,hc.sameBut sb (fv.apart.2 _ (mem_of_lookup e)),fun d e=>by cases e⟩
   has:=fv.has
   inn:=fv.inn
   apart:=fv.apart}
end
end Mine
set_option maxHeartbeats 1000000
set_option maxRecDepth 100000
namespace Mine
open PySem PySem.Calls PyProof.Rows PySem.W
section
variable {c:Cx} {K:Frag} {A:Around} {fr:List Addr} {σ σ1 σ2:Sto} {X:Addr->Sto->Prop} {Q:D->Sto->Prop} {env:Env} {m:Vars} {es:List (Str × Addr × List Value)} {N:Vars->Sto->Prop} {R:D->Sto->Prop}
theorem WB.addS {x y:Str}(hsz:x.length+y.length<=sizeLine)(h:Q (.str (x++y)) σ):WB c A fr σ (binaryOp .Add) (.str x) (.str y) Q X:=fun v1 v2 s ok x1 x2=>by
 obtain ⟨t,rfl⟩:=x1.toStr
 obtain ⟨u,rfl⟩:=x2.toStr
 exact SB.add (fun t' k=>⟨_,σ,Post.tok ..,ok,V.ofStr,h⟩) hsz
theorem WE.rstrip {o:Expr}{apos pos:Pos}(h:WE c A fr env m σ o (fun d σ1=>∃x:Str,d=.str x/\x.length<=sizeLine/\Q (.str (Txt.rstrip x)) σ1) X)(hb:attributeBase o (Str.ofString "rstrip") env (eval o env)=eval o env)(hl:(apos.endLine==pos.line)=true:=by rfl):
  WE c A fr env m σ (.Call (.Attribute o (Str.ofString "rstrip") apos) [] [] pos) Q X:=fun s ok fm=>
 Call_method0 hb hl (wpAny_mono (h s ok fm) (fun v s1 hx=>by
  obtain ⟨d,σ1,p1,ok1,x1,x,rfl,hsz,q⟩:=hx
  obtain ⟨t,rfl⟩:=x1.toStr
  exact SB.rstrip (fun t' k=>⟨_,σ1,p1.trans (Post.tok ..),ok1,V.ofStr,q⟩) hsz) fun _ _ x=>x)
noncomputable def Rai (c:Cx)(x:Str):Prop:=∃(C:Addr) (bm:List Value) (B newId initId:String),OwnCls x C bm newId c.mg c.h0/\ExcBaseFacts B newId initId bm
theorem W1.raiseX {x:Str}{C:Addr}{mro:List Value}{np cpos pos:Pos}{args:List Expr}(S:Xs c K es)(he:es.lookup x=some (C,mro))(O:Rai c x)(hh:A.handled=none)(hk:env.kindOf x=some .globalImplicit)
  (h:WA c A fr env m σ args (fun ds σ1=>ds.length<=sizeLine/\X C σ1) X) (hp:jc args=true:=by rfl) (hdb:(x==("__debug__":Str))=false:=by decide):
  W1 c A fr env m σ (.Raise (some (.Call (.Name x np) args [] cpos)) none pos) N R X:=by
 obtain ⟨C',bm,B,newId,initId,o,f⟩:=O
 obtain rfl:C'=C:=by
  have h1:=o.bound
  rw [(S.at he).name] at h1
  injection h1 with h1;injection h1 with h1;exact h1.symm
 exact W1.raise S.good o f hh hk h hp hdb
theorem Rai.ofTop {p:Program}{loose:List Str}{mean:ExcName->Option Value}{x:Str}(T:Top p loose mean c.mg c.mb c.h0)(h:(((ownsOf p).find? fun e=>e.name==x).map fun o=>(o.name,o.newId,o.bm))=some (x,"ValueError.__new__",[.type "ValueError",.type "Exception",.type "BaseException",.type "object"])):Rai c x:=by
 obtain ⟨o,h1,h2⟩:=Option.map_eq_some_iff.mp h
 simp only [Prod.mk.injEq] at h2
 obtain ⟨rfl,h3,h4⟩:=h2
 obtain ⟨C,O,_⟩:=T.own o (List.mem_of_find?_eq_some h1)
 rw [h3,h4] at O
 exact ⟨C,_,_,_,_,O.own,F.excBase_ValueError⟩
end
end Mine
set_option maxHeartbeats 1000000
namespace Mine
open PySem PySem.Calls PyProof.Rows PySem.W
theorem wH {h:Heap}{as:List Addr}:(YA h as).In h:=uK fun p hp=>by
 obtain ⟨a,ha,e⟩:=List.mem_filterMap.mp hp
 obtain ⟨o,h1,h2⟩:=Option.map_eq_some_iff.mp e
 rw [<-h2];exact h1
theorem Xs.ofHook {c:Cx}{w:World}{as:List Addr}{es:List (Str × Addr × List Value)}(Y:(xHook as es).says w c.h0)(g:c.Good):Xs c (YA c.h0 as) es:=
 ⟨wH,g,(Bool.and_eq_true_iff.mp (show xAll as es c.h0=true from Y)).2⟩
end Mine
set_option maxHeartbeats 1000000
namespace Mine
open PySem PySem.Calls PyProof.Rows PySem.W
theorem Room'.mark {n:Nat}{A:Around}{v:Option Value}(r:Room' n A):Room' n (A.mark v):=r
section
variable {c:Cx} {A:Around} {fr:List Addr} {σ:Sto} {X:Addr->Sto->Prop} {Q:D->Sto->Prop} {env:Env} {m:Vars} {B:List Stmt} {bs:List (Str × Value)}
theorem WF.byH {name:Str}{params:Arguments}{body:List Stmt}{scope:Scope}{dpos:Pos}(i:Nat){ps:List Str}{n:Nat}{ds:List D}(T:Tp c B bs)(hd:(B[i]?).bind jT=some ⟨name,params,body,scope,dpos⟩)
  (hb:∀pm code doc vals,vals.length=ps.length->bindArgs (docDef name params body scope pm code doc) ⟨vals,[]⟩=pure (ps.zip vals)) (hok:fnOk scope ps=true) (hl:ds.length=ps.length)
  (h:∀A fr env,Room' n A->env.scope=scope->Fe A env scope->WS c A (Fa env++fr) env (ps.zip ds) σ body (fun _ σ'=>Q .none σ') Q X):WF c (Room' (n+1)) name ds σ Q X:=fun a ha=>by
 obtain ⟨a',o,pm,code,doc,h1,h2,h3,h4⟩:=T.fn _ (Jy hd)
 obtain rfl:a'=a:=by dsimp only at h1;rw [h1] at ha;injection ha with ha;injection ha
 simp only [fnOk,Bool.and_eq_true,decide_eq_true_eq,List.all_eq_true,Bool.or_eq_true,beq_iff_eq,bne_iff_ne,Bool.not_eq_true'] at hok
 obtain ⟨⟨⟨⟨⟨⟨k1,k2⟩,k3⟩,k4⟩,k5⟩,k6⟩,k7⟩:=hok
 refine WC.of (P':=Room' n) (ps:=ps) (body:=body) (scope:=scope) ⟨⟨o,_,h2,h3,rfl,rfl,rfl,rfl,rfl,h4,hb pm code doc⟩,T.nolimit,k1,k2,k3,fun x e=> ?_,k5,k6,k7⟩ (fun A env r=>⟨?_,r.deeper⟩) hl fun A fr env r fe=>h A fr env r fe.scope fe
 ·obtain ⟨y,hy⟩:=Jq e
  exact k4 _ hy rfl
 ·have:=r.1
  have e:recursionLimit=1000:=rfl
  exact z870 this e
theorem WE.callP (T:Tp c B bs){P:Around->Prop}{f:Str}{fp pos:Pos}{args:List Expr}(hP:P A)(hk:env.kindOf f=some .globalImplicit)(hf:Dfn c f)
  (h:WA c A fr env m σ args (fun ds σ1=>WF c P f ds σ1 Q X) X) (hp:jc args=true:=by rfl) (hdb:(f==("__debug__":Str))=false:=by decide):WE c A fr env m σ (.Call (.Name f fp) args [] pos) Q X:=by
 obtain ⟨a,o,fd,h1,h2,h3⟩:=hf
 exact WE.callF T.good (P:=P) hP hk h1 h2 h3 (fun p s ok fm=>(h p s ok fm).mono (fun ds σ1 w=>w a h1) fun _ _ x=>x) hp hdb
end
end Mine
namespace Mine
theorem ln2 {α:Type}{l:List α}(h:l.length=2):∃a b,l=[a,b]:=by
 obtain ⟨a,t,rfl⟩:=List.exists_cons_of_length_eq_add_one h
 obtain ⟨b,rfl⟩:=List.length_eq_one_iff.mp (Nat.succ.inj h)
 exact ⟨a,b,rfl⟩
theorem ln3 {α:Type}{l:List α}(h:l.length=3):∃a b c,l=[a,b,c]:=by
 obtain ⟨a,t,rfl⟩:=List.exists_cons_of_length_eq_add_one h
 obtain ⟨b,c,rfl⟩:=ln2 (Nat.succ.inj h)
 exact ⟨a,b,c,rfl⟩
theorem nabs {t:Int}{m:Nat}(h:t.natAbs<=m): -(m:Int)<=t/\t<=m:=
 ⟨Int.neg_le_of_neg_le (Int.le_trans Int.le_natAbs (Int.ofNat_le.mpr ((Int.natAbs_neg t).symm▸h))),Int.le_trans Int.le_natAbs (Int.ofNat_le.mpr h)⟩
noncomputable def dot (ws xs:List Int):Int:=((ws.zip xs).map fun q=>q.1*q.2).sum
noncomputable def wor (E:List (List Int))(v:List Int):List Int:=E.map fun e=>dot e v
noncomputable def addR (a b:List Int):List Int:=(a.zip b).map fun q=>q.1+q.2
noncomputable def jj (n:Nat)(p:Int):List Int:=(List.range n).map fun (i:Nat)=>if ((i:Int)==p)=true then (1:Int) else 0
noncomputable def inR (a b:List Int):Bool:=(a.zip b).all fun q=>decide (q.1<=q.2)
noncomputable def subR (a b:List Int):List Int:=(a.zip b).map fun q=>q.1-q.2
theorem jU (x:List Int):dot [] x=0:=rfl
theorem Jk (x:List Int):dot x []=0:=by cases x<;>rfl
theorem je (a b:Int)(x y:List Int):dot (a::x) (b::y)=a*b+dot x y:=by rfl
theorem yM {a b:List Int}{n:Nat}(ha:a.length=n)(hb:b.length=n):(addR a b).length=n:=by simp [addR,ha,hb]
theorem yN {a b:List Int}{n:Nat}(ha:a.length=n)(hb:b.length=n):(subR a b).length=n:=by simp [subR,ha,hb]
theorem jx (n:Nat)(p:Int):(jj n p).length=n:=by simp [jj]
theorem JI {a b:List Int}(h:a.length=b.length)(i:Nat):(addR a b).getD i 0=a.getD i 0+b.getD i 0:=by
 induction a generalizing b i with
 | nil=>cases b<;>simp [addR] at h⊢
 | cons x a ih=>
  cases b with
  | nil=>contradiction
  | cons y b=>
   cases i with
   | zero=>rfl
   | succ i=>simpa [addR] using ih (by simpa using h) i
theorem yh {a b:List Int}(h:a.length=b.length)(i:Nat):(subR a b).getD i 0=a.getD i 0-b.getD i 0:=by
 induction a generalizing b i with
 | nil=>cases b<;>simp [subR] at h⊢
 | cons x a ih=>
  cases b with
  | nil=>contradiction
  | cons y b=>
   cases i with
   | zero=>rfl
   | succ i=>simpa [subR] using ih (by simpa using h) i
theorem jr (n:Nat)(p:Nat)(i:Nat)(hi:i<n):(jj n p).getD i 0=if i=p then 1 else 0:=by
 simp [jj,hi,Int.ofNat_inj]
theorem YW {a b:List Int}(h:a.length=b.length)(e:∀i,i<a.length->a.getD i 0=b.getD i 0):a=b:=by
 apply List.ext_getElem h
 intro i h1 h2
 simpa [List.getD_eq_getElem?_getD,h1,h2] using (e i h1)
theorem YX {a:List Int}{x:Int}(h:x∈a):∃i,i<a.length/\a.getD i 0=x:=by
 obtain ⟨i,hi,e⟩:=List.mem_iff_getElem.mp h
 exact ⟨i,hi,by simp [hi,e]⟩
theorem jX {a:List Int}{i:Nat}(h:i<a.length):a.getD i 0∈a:=by
 simp [h]
theorem j12 {a b:List Int}(h:a.length=b.length):inR a b=true↔∀i,a.getD i 0<=b.getD i 0:=by
 induction a generalizing b with
 | nil=>cases b<;>simp [inR] at h⊢
 | cons x a ih=>
  cases b with
  | nil=>contradiction
  | cons y b=>
   have ih:=ih (b:=b) (by simpa using h)
   simp only [inR,List.zip_cons_cons,List.all_cons,Bool.and_eq_true,decide_eq_true_eq] at ih⊢
   rw [ih]
   constructor
   ·intro ⟨h1,h2⟩ i
    cases i with
    | zero=>trivial
    | succ i=>exact h2 i
   ·intro h
    exact ⟨by exact h 0,fun i=>by exact h (i+1)⟩
noncomputable def sumN (n:Nat)(f:Nat->Int):Int:=((List.range n).map f).sum
theorem yi (f:Nat->Int):sumN 0 f=0:=rfl
theorem jm (n:Nat)(f:Nat->Int):sumN (n+1) f=sumN n f+f n:=by
 simp [sumN,List.range_succ]
theorem YF (n:Nat)(f:Nat->Int):sumN (n+1) f=f 0+sumN n (fun i=>f (i+1)):=by
 simp [sumN,List.range_succ_eq_map,Function.comp_def]
theorem jo {n:Nat}{f g:Nat->Int}(h:∀i,i<n->f i=g i):sumN n f=sumN n g:=by
 induction n with
 | zero=>rfl
 | succ n ih=>simp only [jm,jm,ih fun i hi=>h i (z0 hi),h n (by simp)]
theorem yj (n:Nat)(f g:Nat->Int):sumN n (fun i=>f i+g i)=sumN n f+sumN n g:=by
 induction n with
 | zero=>rfl
 | succ n ih=>simp only [jm,ih];exact z1
theorem YY (n:Nat)(a:Int)(f:Nat->Int):sumN n (fun i=>a*f i)=a*sumN n f:=by
 induction n with
 | zero=>simp [sumN]
 | succ n ih=>simp only [jm,ih,Int.mul_add]
theorem ju (n:Nat):sumN n (fun _=>0)=0:=by
 induction n with
 | zero=>rfl
 | succ n ih=>rw [jm,ih];decide
theorem yk {n:Nat}{f:Nat->Int}(h:sumN n f<0):∃i,i<n/\f i<0:=by
 induction n with
 | zero=>simp [sumN] at h
 | succ n ih=>
  rw [jm] at h
  by_cases h1:f n<0
  ·exact ⟨n,by simp,h1⟩
  ·obtain ⟨i,hi,e⟩:=ih (z2 h h1);exact ⟨i,z0 hi,e⟩
theorem jJ {n:Nat}{f g:Nat->Int}(h:∀i,i<n->f i<=g i):sumN n f<=sumN n g:=by
 induction n with
 | zero=>simp [sumN]
 | succ n ih=>simp only [jm,jm];have:=ih fun i hi=>h i (z0 hi);have:=h n (by simp);exact z3 this ‹_›
theorem YZ {n:Nat}{f g:Nat->Int}(h:∀i,i<n->f i<=g i)(e:sumN n g<=sumN n f):∀i,i<n->f i=g i:=by
 induction n with
 | zero=>intro i hi;exact (z4 hi).elim
 | succ n ih=>
  simp only [jm,jm] at e
  have h1:=jJ (n:=n) fun i hi=>h i (z0 hi)
  have h2:=h n (by simp)
  intro i hi
  by_cases q:i=n
  ·lia
  ·exact ih (fun i hi=>h i (z0 hi)) (z5 e h2) i (z6 hi q)
theorem Yd (v:List Int):v.sum=sumN v.length (fun i=>v.getD i 0):=by
 induction v with
 | nil=>rfl
 | cons x v ih=>simp only [List.length_cons,YF,List.sum_cons,ih];rfl
theorem Js {e v:List Int}(h:e.length=v.length):dot e v=sumN v.length (fun i=>e.getD i 0*v.getD i 0):=by
 induction v generalizing e with
 | nil=>rw [Jk];rfl
 | cons x v ih=>
  cases e with
  | nil=>contradiction
  | cons y e=>simp only [je,ih (by simpa using h),List.length_cons,YF];rfl
theorem yO {e a b:List Int}(h:a.length=b.length):dot e (addR a b)=dot e a+dot e b:=by
 induction a generalizing e b with
 | nil=>cases b<;>simp [addR,Jk] at h⊢
 | cons x a ih=>
  cases b with
  | nil=>contradiction
  | cons y b=>
   cases e with
   | nil=>rfl
   | cons z e=>
    have:addR (x::a) (y::b)=(x+y)::addR a b:=by rfl
    simp only [this,je,je,je,ih (by simpa using h),Int.mul_add];exact z1
theorem uc {e a b:List Int}(h:a.length=b.length):dot e (subR a b)=dot e a-dot e b:=by
 induction a generalizing e b with
 | nil=>cases b<;>simp [subR,Jk] at h⊢
 | cons x a ih=>
  cases b with
  | nil=>contradiction
  | cons y b=>
   cases e with
   | nil=>rfl
   | cons z e=>
    have:subR (x::a) (y::b)=(x-y)::subR a b:=by rfl
    simp only [this,je,je,je,ih (by simpa using h),Int.mul_sub];exact z7
theorem j00 {a b:List Int}(h:a.length=b.length):(addR a b).sum=a.sum+b.sum:=by
 induction a generalizing b with
 | nil=>cases b<;>simp [addR] at h⊢
 | cons x a ih=>
  cases b with
  | nil=>contradiction
  | cons y b=>
   have:addR (x::a) (y::b)=(x+y)::addR a b:=by rfl
   simp only [this,ih (by simpa using h),List.sum_cons];exact z1
theorem ud {a b:List Int}(h:a.length=b.length):(subR a b).sum=a.sum-b.sum:=by
 induction a generalizing b with
 | nil=>cases b<;>simp [subR] at h⊢
 | cons x a ih=>
  cases b with
  | nil=>contradiction
  | cons y b=>
   have:subR (x::a) (y::b)=(x-y)::subR a b:=by rfl
   simp only [this,ih (by simpa using h),List.sum_cons];exact z7
theorem Jt {n p:Nat}(hp:p<n)(f:Nat->Int):sumN n (fun i=>f i*if i=p then 1 else 0)=f p:=by
 induction n with
 | zero=>exact (z4 hp).elim
 | succ n ih=>
  rw [jm]
  by_cases q:p=n
  ·subst q
   have:sumN p (fun i=>f i*if i=p then 1 else 0)=0:=by
    exact (jo fun i hi=>by rw [if_neg (z8 hi),Int.mul_zero]).trans (ju p)
   lia
  ·rw [ih (z6 hp q),if_neg (fun h=>q h.symm),Int.mul_zero,Int.add_zero]
theorem JJ {e:List Int}{n p:Nat}(he:e.length=n)(hp:p<n):dot e (jj n p)=e.getD p 0:=by
 rw [Js (by exact (he ..).trans (jx ..).symm),jx]
 simp only [<-Jt hp (fun i=>e.getD i 0)]
 exact jo fun i hi=>by exact congrArg _ (jr n p i hi ..)
theorem yP {n p:Nat}(hp:p<n):(jj n p).sum=1:=by
 rw [Yd,jx]
 rw [<-Jt hp (fun _=>(1:Int))]
 exact jo fun i hi=>by rw [jr n p i hi];simp
theorem Ua {E:List (List Int)}{n:Nat}(hE:∀e∈E,e.length=n){d:List Int}(hd:d.length=n)(w:List Int):dot w (wor E d)=sumN n (fun j=>d.getD j 0*dot w (wor E (jj n j))):=by
 induction E generalizing w with
 | nil=>
  have:∀x:List Int,dot w (wor [] x)=0:=fun x=>Jk w
  rw [this]
  exact (ju n ..).symm.trans (jo fun i hi=>by rw [this,Int.mul_zero])
 | cons e E ih=>
  cases w with
  | nil=>
   rw [jU,<-ju n]
   exact jo fun i hi=>by simp only [jU,Int.mul_zero]
  | cons a w=>
   have step:∀x,dot (a::w) (wor (e::E) x)=a*dot e x+dot w (wor E x):=fun x=>je _ _ _ _
   have he:=hE e (.head _)
   rw [step,ih (fun e h=>hE e (.tail _ h)),Js (by exact (he ..).trans (hd ..).symm),hd,<-YY,<-yj]
   refine jo fun j hj=> ?_
   simp only [step,JJ he hj,Int.mul_add]
   congr 1
   exact (Int.mul_assoc ..).symm.trans (Int.mul_comm _ (d.getD j 0) ..)
theorem j01 {E:List (List Int)}{a b:List Int}(h:a.length=b.length):wor E (addR a b)=addR (wor E a) (wor E b):=by
 induction E with
 | nil=>rfl
 | cons e E ih=>
  simp only [wor,List.map_cons] at ih⊢
  rw [ih,yO h]
  rfl
theorem Uu {E:List (List Int)}{a b:List Int}(h:a.length=b.length):wor E (subR a b)=subR (wor E a) (wor E b):=by
 induction E with
 | nil=>rfl
 | cons e E ih=>
  simp only [wor,List.map_cons] at ih⊢
  rw [ih,uc h]
  rfl
theorem ue (E:List (List Int))(v:List Int):(wor E v).length=E.length:=by simp [wor]
theorem ji (a:Int):0<=a*a:=by
 rcases Int.le_total 0 a with h| h
 ·exact Int.mul_nonneg h h
 ·have:=Int.mul_nonneg (Int.neg_nonneg_of_nonpos h) (Int.neg_nonneg_of_nonpos h);rwa [Int.neg_mul_neg] at this
theorem jn (w:List Int):0<=dot w w:=by
 induction w with
 | nil=>exact Int.le_refl _
 | cons a w ih=>rw [je];have:=ji a;exact z9 ih this
theorem jK {w:List Int}(h:dot w w<=0):∀x∈w,x=0:=by
 induction w with
 | nil=>intro x hx;cases hx
 | cons a w ih=>
  rw [je] at h
  have h1:=ji a
  have h2:=jn w
  intro x hx
  rcases List.mem_cons.mp hx with rfl| hx
  ·have:x*x=0:=z10 h2 h1 h
   rcases Int.mul_eq_zero.mp this with h| h<;>exact h
  ·exact ih (z11 h1 h) x hx
theorem jR (a b:List Int):dot a b=dot b a:=by
 induction a generalizing b with
 | nil=>exact (jU ..).trans (Jk ..).symm
 | cons x a ih=>
  cases b with
  | nil=>rfl
  | cons y b=>simp only [je,je,ih,Int.mul_comm]
structure Row (n:Nat)(v:List Int):Prop where
 len:v.length=n
 pos:∀i,0<=v.getD i 0
noncomputable def Even (E:List (List Int))(v:List Int):Prop:=∀x∈wor E v,x=0
theorem Row.of {n:Nat}{v:List Int}(h:v.length=n)(p:∀x∈v,0<=x):Row n v:=⟨h,fun i=>by
 by_cases q:i<v.length
 ·exact p _ (jX q)
 ·rw [List.getD_eq_getElem?_getD,List.getElem?_eq_none (z12 q)];exact Int.le_refl _⟩
theorem Row.mem {n:Nat}{v:List Int}(r:Row n v):∀x∈v,0<=x:=fun x hx=>by
 obtain ⟨i,_,e⟩:=YX hx;exact e▸r.pos i
theorem Row.sum {n:Nat}{v:List Int}(r:Row n v):v.sum=sumN n (fun i=>v.getD i 0):=by rw [Yd,r.len]
theorem Row.sum_nonneg {n:Nat}{v:List Int}(r:Row n v):0<=v.sum:=by
 have h:=jJ (n:=n) (f:=fun _=>0) fun i _=>r.pos i
 rw [ju] at h
 rw [r.sum];exact h
theorem Row.add {n:Nat}{a b:List Int}(x:Row n a)(y:Row n b):Row n (addR a b):=⟨yM x.len y.len,fun i=>by
 rw [JI (by exact (x.len ..).trans (y.len ..).symm)];have:=x.pos i;have:=y.pos i;exact z9 this ‹_›⟩
theorem Row.unit {n p:Nat}:Row n (jj n p):=.of (jx n p) fun x hx=>by
 rw [jj,List.mem_map] at hx
 obtain ⟨i,_,rfl⟩:=hx
 split<;>decide
noncomputable def Le (a b:List Int):Prop:=∀i,a.getD i 0<=b.getD i 0
theorem Row.inR {n:Nat}{a b:List Int}(x:Row n a)(y:Row n b):Mine.inR a b=true↔Le a b:=j12 (by exact (x.len ..).trans (y.len ..).symm)
theorem Le.refl (a:List Int):Le a a:=fun _=>Int.le_refl _
theorem Le.trans {a b c:List Int}(x:Le a b)(y:Le b c):Le a c:=fun i=>Int.le_trans (x i) (y i)
theorem Le.sum {n:Nat}{a b:List Int}(x:Row n a)(y:Row n b)(h:Le a b):a.sum<=b.sum:=by simp only [x.sum,y.sum];exact jJ fun i _=>h i
theorem Le.eq {n:Nat}{a b:List Int}(x:Row n a)(y:Row n b)(h:Le a b)(e:b.sum<=a.sum):a=b:=by
 simp only [x.sum,y.sum] at e
 exact YW (by exact (x.len ..).trans (y.len ..).symm) fun i hi=>(YZ (fun i _=>h i) e) i (by exact x.len▸hi)
theorem Row.sub {n:Nat}{a b:List Int}(x:Row n a)(y:Row n b)(h:Le b a):Row n (subR a b):=⟨yN x.len y.len,fun i=>by
 rw [yh (by exact (x.len ..).trans (y.len ..).symm)];have:=h i;exact z13 this⟩
theorem Le.sub {n:Nat}{a b:List Int}(x:Row n a)(y:Row n b):Le (subR a b) a:=fun i=>by
 rw [yh (by exact (x.len ..).trans (y.len ..).symm)];have:=y.pos i;exact z14 this
theorem Even.sub {E:List (List Int)}{a b:List Int}(h:a.length=b.length)(e:wor E a=wor E b):Even E (subR a b):=fun x hx=>by
 rw [Uu h,e] at hx
 rw [subR,List.mem_map] at hx
 obtain ⟨q,hq,rfl⟩:=hx
 have:∀(l:List Int) (q:Int × Int),q∈l.zip l->q.1-q.2=0:=by
  intro l
  induction l with
  | nil=>intro q hq;contradiction
  | cons a l ih=>
   intro q hq
   rcases List.mem_cons.mp hq with rfl| hq
   ·simp
   ·exact ih q hq
 exact this _ q hq
theorem Even.iff {E:List (List Int)}{v:List Int}:Even E v↔∀e∈E,dot e v=0:=by
 simp [Even,wor]
theorem j02 {E:List (List Int)}{v:List Int}(h:¬Even E v):0<dot (wor E v) (wor E v):=by
 by_cases h2:dot (wor E v) (wor E v)<=0
 ·exact absurd (jK h2) h
 ·exact z15 h2
structure Least (E:List (List Int))(n:Nat)(s:List Int):Prop where
 row:Row n s
 even:Even E s
 pos:0<s.sum
 least:∀g,Row n g->Even E g->0<g.sum->Le g s->g=s
theorem Ju {E:List (List Int)}{n:Nat}:∀(k:Nat) {g:List Int},g.sum.toNat<=k->Row n g->Even E g->0<g.sum->∃s,Least E n s/\Le s g
 | 0,g,hk,r,e,p=>by lia
 | k+1,g,hk,r,e,p=>by
  by_cases h:∃g',Row n g'/\Even E g'/\0<g'.sum/\Le g' g/\g'≠g
  ·obtain ⟨g',r',e',p',l,ne⟩:=h
   have hlt:g'.sum<g.sum:=by
    by_cases q:g.sum<=g'.sum
    ·exact absurd (l.eq r' r q) ne
    ·exact z15 q
   obtain ⟨s,hs,hl⟩:=Ju k (g:=g') (z16 hk hlt) r' e' p'
   exact ⟨s,hs,hl.trans l⟩
  ·refine ⟨g,⟨r,e,p,fun g' r' e' p' l=> ?_⟩,.refl _⟩
   by_cases q:g'=g
   ·exact q
   ·exact absurd ⟨g',r',e',p',l,q⟩ h
theorem j13 {E:List (List Int)}{n:Nat}(hE:∀e∈E,e.length=n){v s:List Int}(rv:Row n v)(rs:Row n s)(es:Even E s)(ne:¬Even E v)(l:Le v s):
  ∃j,j<n/\v.getD j 0<s.getD j 0/\dot (wor E v) (wor E (jj n j))<0:=by
 have h1:dot (wor E v) (wor E (subR s v))= -dot (wor E v) (wor E v):=by
  rw [Uu (by exact (rs.len ..).trans (rv.len ..).symm),uc (by exact (ue ..).trans (ue ..).symm)]
  have:dot (wor E v) (wor E s)=0:=by
   have hz:∀(w z:List Int),(∀x∈z,x=0)->dot w z=0:=by
    intro w z
    induction w generalizing z with
    | nil=>intro _;rfl
    | cons a w ih=>
     intro h
     cases z with
     | nil=>rfl
     | cons b z=>simp only [je,ih z fun x hx=>h x (.tail _ hx),h b (.head _)];simp
   exact hz _ _ es
  exact z17 this
 rw [Ua hE (yN rs.len rv.len)] at h1
 have h2:=j02 ne
 obtain ⟨j,hj,e⟩:=yk (n:=n) (f:=fun j=>(subR s v).getD j 0*dot (wor E v) (wor E (jj n j))) (z18 h2 h1)
 have hs:=yh (a:=s) (b:=v) (by exact (rs.len ..).trans (rv.len ..).symm) j
 have hn:=l j
 refine ⟨j,hj,?_,?_⟩
 ·by_cases q:v.getD j 0<s.getD j 0
  ·exact q
  ·have:(subR s v).getD j 0=0:=z19 hs hn q
   lia
 ·by_cases q:dot (wor E v) (wor E (jj n j))<0
  ·exact q
  ·have:0<=(subR s v).getD j 0*dot (wor E v) (wor E (jj n j)):=Int.mul_nonneg (z20 hs hn) (z21 q)
   exact (z22 e this).elim
noncomputable def jA (E:List (List Int))(r:List Int):Bool:=(wor E r).any (· !=0)
noncomputable def ins (l:List (List Int))(f:List Int):List (List Int):=if f∈l then l else l++[f]
noncomputable def cand (E:List (List Int))(n:Nat)(once:Bool)(found:List (List Int))(r:List Int)(p:Nat):Option (List Int):=
 if dot (wor E r) (wor E (jj n p))<0/\(once=true->(addR r (jj n p)).getD (n-1) 0<2)/\(found.any fun g=>inR g (addR r (jj n p)))=false then some (addR r (jj n p)) else none
noncomputable def JQ (E:List (List Int))(n:Nat)(once:Bool)(found rows:List (List Int)):List (List Int):=
 rows.flatMap fun r=>(List.range n).filterMap fun p=>cand E n once found r p
noncomputable def J7 (E:List (List Int))(found front:List (List Int)):List (List Int):=found++front.filter fun r=> !jA E r
noncomputable def YG (E:List (List Int))(n:Nat)(once:Bool)(found front:List (List Int)):List (List Int):=(JQ E n once (J7 E found front) (front.filter (jA E))).foldl ins []
noncomputable def stF (E:List (List Int))(n:Nat)(once:Bool):Nat->List (List Int) × List (List Int)
 | 0=>([],(List.range n).map fun (p:Nat)=>jj n p)
 | k+1=>(J7 E (stF E n once k).1 (stF E n once k).2,YG E n once (stF E n once k).1 (stF E n once k).2)
theorem isOpen_iff {E:List (List Int)}{r:List Int}:jA E r=true↔¬Even E r:=by
 delta jA Even
 rw [List.any_eq_true]
 constructor
 ·intro ⟨x,hx,e⟩ h
  have:=h x hx
  subst this;contradiction
 ·intro h
  apply Classical.byContradiction
  intro h2
  apply h
  intro x hx
  apply Classical.byContradiction
  intro h3
  exact h2 ⟨x,hx,by simpa using h3⟩
theorem isOpen_false {E:List (List Int)}{r:List Int}:jA E r=false↔Even E r:=by
 constructor
 ·intro h;apply Classical.byContradiction;intro h2;replace h:=(isOpen_iff.mpr h2 ..).symm.trans h;contradiction
 ·intro h;cases e:jA E r with
  | false=>rfl
  | true=>exact absurd h (isOpen_iff.mp e)
theorem j14 {l:List (List Int)}{f x:List Int}:x∈ins l f↔x∈l\/x=f:=by
 unfold ins
 split
 ·constructor
  ·exact .inl
  ·rintro (h| rfl)
   ·exact h
   ·assumption
 ·simp
theorem wI {l:List (List Int)}{f:List Int}(h:l.Nodup):(ins l f).Nodup:=by
 unfold ins
 split
 ·exact h
 ·rename_i q
  rw [List.nodup_append]
  exact ⟨h,by simp,fun a ha b hb=>by simp at hb;subst hb;exact fun e=>q (e▸ha)⟩
theorem yl {x:List Int}:∀(fs l:List (List Int)),x∈fs.foldl ins l↔x∈l\/x∈fs
 | [],l=>by simp
 | f::fs,l=>by simp only [List.foldl_cons,yl fs,j14];simp [or_assoc]
theorem Jz:∀(fs l:List (List Int)),l.Nodup->(fs.foldl ins l).Nodup
 | [],l,h=>h
 | f::fs,l,h=>by exact Jz fs _ (wI h)
theorem frontN_mem {E:List (List Int)}{n:Nat}{once:Bool}{found front:List (List Int)}{f:List Int}:
  f∈YG E n once found front↔∃r∈front,¬Even E r/\∃p,p<n/\f=addR r (jj n p)/\dot (wor E r) (wor E (jj n p))<0/\(once=true->f.getD (n-1) 0<2)/\∀g∈J7 E found front,inR g f=false:=by
 unfold YG
 rw [yl]
 simp only [JQ,List.mem_flatMap,List.mem_filterMap,List.mem_filter,List.mem_range,List.not_mem_nil,false_or]
 constructor
 ·rintro ⟨r,⟨h1,h2⟩,p,hp,h⟩
  unfold cand at h
  split at h
  ·rename_i c
   obtain rfl:=Option.some.inj h
   refine ⟨r,h1,isOpen_iff.mp h2,p,hp,rfl,c.1,c.2.1,fun g hg=> ?_⟩
   have:=c.2.2
   rw [List.any_eq_false] at this
   simpa using this g hg
  ·contradiction
 ·rintro ⟨r,h1,h2,p,hp,rfl,h3,h4,h5⟩
  refine ⟨r,⟨h1,isOpen_iff.mpr h2⟩,p,hp,?_⟩
  unfold cand
  have h6:((J7 E found front).any fun g=>inR g (addR r (jj n p)))=false:=by
   rw [List.any_eq_false]
   intro g hg
   simp [h5 g hg]
  exact (if_pos ⟨h3,h4,h6⟩ ..)
inductive Reach (E:List (List Int))(n:Nat)(once:Bool):List (List Int)->List Int->Prop
 | unit {p:Nat} (hp:p<n):Reach E n once [] (jj n p)
 | step {R:List (List Int)} {v:List Int} {p:Nat} (x:Reach E n once R v) (ne:¬Even E v) (hp:p<n) (h:dot (wor E v) (wor E (jj n p))<0) (ho:once=true->(addR v (jj n p)).getD (n-1) 0<2):
   Reach E n once (v::R) (addR v (jj n p))
section
variable {E:List (List Int)} {n:Nat} {once:Bool} {R:List (List Int)} {v:List Int}
theorem Reach.row (x:Reach E n once R v):Row n v:=by
 induction x with
 | unit hp=>exact Row.unit
 | step x ne hp h ho ih=>exact ih.add Row.unit
theorem Reach.last (x:Reach E n once R v)(o:once=true):v.getD (n-1) 0<2:=by
 cases x with
 | unit hp=>rw [jr _ _ _ (z114 hp)];split<;>decide
 | step x ne hp h ho=>exact ho o
theorem Ye {p:Nat}(r:Row n v):Le v (addR v (jj n p)):=fun i=>by
 rw [JI (by exact (r.len ..).trans (jx ..).symm)]
 have:=(Row.unit (n:=n) (p:=p)).pos i
 exact z115 this
theorem Jd {p:Nat}(r:Row n v)(hp:p<n):(addR v (jj n p)).sum=v.sum+1:=by
 rw [j00 (by exact (r.len ..).trans (jx ..).symm),yP hp]
theorem Reach.len (x:Reach E n once R v):v.sum=R.length+1:=by
 induction x with
 | unit hp=>rw [yP hp];rfl
 | step x ne hp h ho ih=>rw [Jd x.row hp,ih];rfl
theorem Reach.back (x:Reach E n once R v):∀r∈R,Row n r/\Le r v/\r.sum<v.sum/\¬Even E r:=by
 induction x with
 | unit hp=>intro r hr;contradiction
 | step x ne hp h ho ih=>
  intro r hr
  have h1:=Jd x.row hp
  rcases List.mem_cons.mp hr with rfl| hr
  ·exact ⟨x.row,Ye x.row,z116 h1,ne⟩
  ·obtain ⟨a,b,c,d⟩:=ih r hr
   exact ⟨a,b.trans (Ye x.row),z117 c h1,d⟩
theorem Reach.chain (x:Reach E n once R v):R.Pairwise fun a b=>Le b a/\b.sum<a.sum:=by
 induction x with
 | unit hp=>exact .nil
 | step x ne hp h ho ih=>
  refine List.Pairwise.cons (fun b hb=> ?_) ih
  obtain ⟨_,h1,h2,_⟩:=x.back b hb
  exact ⟨h1,h2⟩
theorem Reach.inv {P:List Int->Prop}(x:Reach E n once R v)(h0:∀p,p<n->P (jj n p))(h1:∀R v p,Reach E n once R v->P v->¬Even E v->p<n->dot (wor E v) (wor E (jj n p))<0->(once=true->(addR v (jj n p)).getD (n-1) 0<2)->P (addR v (jj n p))):P v/\∀r∈R,P r:=by
 induction x with
 | unit hp=>exact ⟨h0 _ hp,fun r hr=>by cases hr⟩
 | step x ne hp h ho ih=>
  refine ⟨h1 _ _ _ x ih.1 ne hp h ho,fun r hr=> ?_⟩
  rcases List.mem_cons.mp hr with rfl| hr
  ·exact ih.1
  ·exact ih.2 r hr
end
structure Alive (E:List (List Int))(n:Nat)(once:Bool)(R:List (List Int))(v:List Int):Prop where
 reach:Reach E n once R v
 bare:∀g,Row n g->Even E g->0<g.sum->Le g v->g=v
theorem Alive.nodup {E:List (List Int)}{n:Nat}{once:Bool}{R:List (List Int)}{v:List Int}(x:Alive E n once R v):(R.map (wor E)).Nodup:=by
 have hb:=x.reach.back
 rw [List.Nodup,List.pairwise_map]
 refine List.Pairwise.imp_of_mem (fun {a b} ha hb' hab e=> ?_) (x.reach.chain)
 obtain ⟨ra,la,sa,_⟩:=hb a ha
 obtain ⟨rb,lb,sb,_⟩:=hb b hb'
 have hl:a.length=b.length:=by exact (ra.len ..).trans (rb.len ..).symm
 have h2:(subR a b).sum=v.sum:=by exact congrArg _ ((x.bare (subR a b) (ra.sub rb hab.1) (Even.sub hl e) (by rw [ud hl];exact z118 hab.2) ((Le.sub ra rb).trans la)) ..)
 rw [ud hl] at h2
 have:=rb.sum_nonneg
 exact z119 this h2 sa
theorem jp {α:Type} [DecidableEq α]:∀{l F:List α},l.Nodup->(∀x∈l,x∈F)->l.length<=F.length
 | [],F,_,_=>Nat.zero_le _
 | a::l,F,nd,h=>by
  rw [List.nodup_cons] at nd
  have ha:a∈F:=h a (.head _)
  have:=jp (l:=l) (F:=F.erase a) nd.2 fun x hx=>by
   exact (List.mem_erase_of_ne (fun e:x=a=>nd.1 (e▸hx))).mpr (h x (.tail _ hx))
  have hl:=List.length_erase_of_mem ha
  have:0<F.length:=List.length_pos_of_mem ha
  simp only [List.length_cons]
  exact z120 this hl ‹_›
theorem Alive.level {E:List (List Int)}{n:Nat}{once:Bool}{R:List (List Int)}{v:List Int}{F:List (List Int)}(x:Alive E n once R v)(hF:∀r∈R,wor E r∈F):v.sum<=F.length+1:=by
 rw [x.reach.len]
 have:=jp x.nodup (F:=F) fun y hy=>by
  obtain ⟨r,hr,rfl⟩:=List.mem_map.mp hy;exact hF r hr
 rw [List.length_map] at this
 exact z121 this
structure Inv (E:List (List Int))(n:Nat)(once:Bool)(k:Nat)(found front:List (List Int)):Prop where
 nd:front.Nodup
 reach:∀v∈front,(∃R,Reach E n once R v)/\v.sum=k+1
 bare:∀v∈front,∀f∈found,¬Le f v
 least:∀f∈found,Least E n f/\(once=true->f.getD (n-1) 0<2)/\f.sum<=k
 ndf:found.Nodup
 all:∀s,Least E n s->(once=true->s.getD (n-1) 0<2)->(s.sum<=k->s∈found)/\(k+1<=s.sum->∃v∈front,Le v s)
section
variable {E:List (List Int)} {n:Nat} {once:Bool} {k:Nat} {found front:List (List Int)}
theorem Inv.only (I:Inv E n once k found front){v:List Int}(hv:v∈front):∀g,Row n g->Even E g->0<g.sum->Le g v->g=v:=fun g rg eg pg lg=>by
 obtain ⟨⟨R,x⟩,hs⟩:=I.reach v hv
 obtain ⟨s,ls,hl⟩:=Ju g.sum.toNat (Nat.le_refl _) rg eg pg
 have hl2:=hl.trans lg
 by_cases q:s.sum<=k
 ·exact absurd hl2 (I.bare v hv s ((I.all s ls (fun o=>by have:=x.last o;have:=hl2 (n-1);exact z122 ‹_› this)).1 q))
 ·have h1:=Le.eq ls.row x.row hl2 (z123 hs q)
  subst h1
  exact Le.eq rg x.row lg (hl.sum ls.row rg)
theorem Inv.alive (I:Inv E n once k found front){v:List Int}(hv:v∈front):∃R,Alive E n once R v:=by
 obtain ⟨⟨R,x⟩,_⟩:=I.reach v hv
 exact ⟨R,x,I.only hv⟩
theorem Inv.mem_found (I:Inv E n once k found front){f:List Int}(hf:f∈J7 E found front):Least E n f/\(once=true->f.getD (n-1) 0<2)/\f.sum<=k+1:=by
 rcases List.mem_append.mp hf with h| h
 ·obtain ⟨a,b,c⟩:=I.least f h;exact ⟨a,b,z124 c⟩
 ·simp only [List.mem_filter] at h
  obtain ⟨⟨R,x⟩,hs⟩:=I.reach f h.1
  exact ⟨⟨x.row,(isOpen_false.mp (by simpa using h.2)),z125 hs,I.only h.1⟩,x.last,z126 hs⟩
theorem Inv.step (hE:∀e∈E,e.length=n)(I:Inv E n once k found front):Inv E n once (k+1) (J7 E found front) (YG E n once found front) where
 nd:=Jz _ _ List.nodup_nil
 reach:=fun f hf=>by
  obtain ⟨r,hr,ne,p,hp,rfl,h1,h2,h3⟩:=frontN_mem.mp hf
  obtain ⟨⟨R,x⟩,hs⟩:=I.reach r hr
  exact ⟨⟨_,.step x ne hp h1 h2⟩,by simp only [Jd x.row hp,hs];rfl⟩
 bare:=fun f hf g hg l=>by
  obtain ⟨r,hr,ne,p,hp,rfl,h1,h2,h3⟩:=frontN_mem.mp hf
  obtain ⟨⟨R,x⟩,hs⟩:=I.reach r hr
  have:=(((I.mem_found hg).1.row).inR (x.row.add Row.unit)).mpr l
  replace this:=(h3 g hg ..).symm.trans this;contradiction
 least:=fun f hf=>by
  obtain ⟨a,b,c⟩:=I.mem_found hf
  exact ⟨a,b,by trivial⟩
 ndf:=by
  unfold J7
  rw [List.nodup_append]
  refine ⟨I.ndf,I.nd.filter _,fun a ha b hb e=> ?_⟩
  subst e
  have h1:=(I.least a ha).2.2
  have h2:=(I.reach a (List.mem_filter.mp hb).1).2
  exact z127 h2 h1
 all:=fun s ls ho=>by
  refine And.elim (fun h1 h2=> ?_) (I.all s ls ho)
  refine ⟨fun hs=> ?_,fun hs=> ?_⟩
  ·unfold J7
   rw [List.mem_append]
   by_cases q:s.sum<=k
   ·exact .inl (h1 q)
   ·obtain ⟨v,hv,l⟩:=h2 (z128 q)
    obtain ⟨⟨R,x⟩,hvs⟩:=I.reach v hv
    have:=Le.eq x.row ls.row l (z129 hvs hs)
    subst this
    exact .inr (List.mem_filter.mpr ⟨hv,by rw [isOpen_false.mpr ls.even];rfl⟩)
  ·obtain ⟨v,hv,l⟩:=h2 (z130 hs)
   obtain ⟨⟨R,x⟩,hvs⟩:=I.reach v hv
   have ne:¬Even E v:=fun e=>by
    have:=ls.least v x.row e (z125 hvs) l
    subst this;exact z131 hs hvs
   obtain ⟨j,hj,h3,h4⟩:=j13 hE x.row ls.row ls.even ne l
   have hle:Le (addR v (jj n j)) s:=fun i=>by
    rw [JI (by exact (x.row.len ..).trans (jx ..).symm)]
    by_cases hi:i<n
    ·rw [jr _ _ _ hi]
     split
     ·rename_i e;subst e;assumption
     ·have:=l i;exact z132 this
    ·rw [List.getD_eq_getElem?_getD (l:=jj n j),List.getElem?_eq_none (by rw [jx];exact z12 hi)]
     have:=l i;simp only [Option.getD_none];exact z132 this
   refine ⟨addR v (jj n j),frontN_mem.mpr ⟨v,hv,ne,j,hj,rfl,h4,fun o=> ?_,fun g hg=> ?_⟩,hle⟩
   ·have:=hle (n-1);lia
   ·obtain ⟨a,b,c⟩:=I.mem_found hg
    cases e:inR g (addR v (jj n j)) with
    | false=>rfl
    | true=>
     have:=ls.least g a.row a.even a.pos (((a.row.inR (x.row.add Row.unit)).mp e).trans hle)
     lia
theorem Inv.zero:Inv E n once 0 [] ((List.range n).map fun (p:Nat)=>jj n p) where
 nd:=by
  rw [List.Nodup,List.pairwise_map]
  refine List.Pairwise.imp_of_mem (fun {a b} ha hb hab e=> ?_) (List.pairwise_lt_range (n:=n))
  simp only [List.mem_range] at ha hb
  have:=congrArg (fun l=>l.getD a 0) e
  simp only [jr n a a ha,jr n b a ha] at this
  rw [if_pos trivial,if_neg (z8 hab)] at this
  lia
 reach:=fun v hv=>by
  obtain ⟨p,hp,rfl⟩:=List.mem_map.mp hv
  simp only [List.mem_range] at hp
  exact ⟨⟨[],.unit hp⟩,by rw [yP hp];rfl⟩
 bare:=fun v hv f hf=>by cases hf
 least:=fun f hf=>by contradiction
 ndf:=List.nodup_nil
 all:=fun s ls ho=>by
  refine ⟨fun hs=> ?_,fun hs=> ?_⟩
  ·have:=ls.pos;lia
  ·have hp:=ls.pos
   rw [ls.row.sum] at hp
   obtain ⟨i,hi,e⟩:=yk (n:=n) (f:=fun i=> -(s.getD i 0)) (by
    have:sumN n (fun i=> -(s.getD i 0))= -sumN n (fun i=>s.getD i 0):=by
     simpa using (YY n (-1) (fun i=>s.getD i 0))
    exact z18 hp this)
   refine ⟨jj n i,List.mem_map.mpr ⟨i,List.mem_range.mpr hi,rfl⟩,fun j=> ?_⟩
   by_cases hj:j<n
   ·rw [jr _ _ _ hj]
    split
    ·rename_i q;subst q;exact z134 e
    ·exact ls.row.pos j
   ·rw [List.getD_eq_getElem?_getD (l:=jj n i),List.getElem?_eq_none (by rw [jx];exact z12 hj)]
    exact ls.row.pos j
theorem Inv.at (hE:∀e∈E,e.length=n):∀k,Inv E n once k (stF E n once k).1 (stF E n once k).2
 | 0=>Inv.zero
 | k+1=>(Inv.at hE k).step hE
theorem Inv.done (I:Inv E n once k found []):found.Nodup/\∀s,s∈found↔Least E n s/\(once=true->s.getD (n-1) 0<2):=by
 refine ⟨I.ndf,fun s=>⟨fun h=>⟨(I.least s h).1,(I.least s h).2.1⟩,fun ⟨h1,h2⟩=> ?_⟩⟩
 obtain ⟨a,b⟩:=I.all s h1 h2
 by_cases q:s.sum<=k
 ·exact a q
 ·obtain ⟨v,hv,_⟩:=b (z128 q);contradiction
end
end Mine
namespace Mine
open PySem PySem.Calls PyProof.Rows
section
variable {c:Cx} {A:Around} {fr:List Addr} {σ:Sto} {X:Addr->Sto->Prop} {Q:D->Sto->Prop} {env:Env} {m:Vars} {N:Vars->Sto->Prop} {R:D->Sto->Prop}
theorem W1.while {test:Expr}{body:List Stmt}{pos:Pos}{sc:Scope}(fe:Fe A env sc)(L:Nat->Vars->Sto->Prop)(n:Nat)(h0:L n m σ)
  (turn:∀k m' σ',L k m' σ'->WT c A fr env m' σ' test (fun b σ1=>if b=true then WS c A fr env m' σ1 body (fun m'' σ''=>∃j,j<k/\L j m'' σ'') R X else N m' σ1) X):
  W1 c A fr env m σ (.While test body [] pos) N R X:=fun s ok fm=>by
 have hin:=ok.frames_in
 refine wpAny_While (codeAny_whileLoop (fun k s'=>∃m' σ',L k m' σ'/\Post (Fa env) fr σ s s' σ'/\Ok c A fr σ' s'.heap/\Fm env m' fr (keys σ'++fr) s'.heap) ?_ n ⟨m,σ,h0,Post.refl ..,ok,fm⟩)
 rintro k s' ⟨m',σ',hL,p,okk,fmk⟩
 refine wpAny_mono (turn k m' σ' hL s' okk fmk) (fun b s2 hz=> ?_) fun v s3 x=>Ex.loop (wr:=[]) fe.stack fe.frame hin fm.inn (Post.refl ..) (fun a ha=>by contradiction) p (x.wide fmk)
 obtain ⟨b',σ2,p2,ok2,e,q⟩:=hz
 subst e
 have fm2:=fmk.move p2
 have pp:=p.trans (p2.wide (F':=Fa env) (by exact List.nil_subset _))
 cases b with
 | true=>
  dsimp only [if_true] at q⊢
  refine wpAny_mono (q s2 ok2 fm2) (fun fl s3 hx=> ?_) fun v s3 x=>Ex.loop (wr:=[]) fe.stack fe.frame hin fm.inn (Post.refl ..) (fun a ha=>by contradiction) pp x
  obtain ⟨out,σ3,p3,ok3,r3,q3⟩:=hx
  cases out with
  | next m3=>
   obtain ⟨rfl,fm3⟩:=r3
   obtain ⟨j,hj,hL'⟩:=q3
   exact ⟨j,hj,m3,σ3,hL',pp.trans p3,ok3,fm3⟩
  | ret d=>
   obtain ⟨v,rfl,hv,fv⟩:=r3
   exact ⟨.ret d,σ3,pp.trans p3,ok3,⟨v,rfl,hv,fv⟩,q3⟩
 | false=>
  exact wpAny_execs_nil ⟨.next m',σ2,pp,ok2,⟨rfl,fm2⟩,q⟩
theorem WE.dict0 (gd:c.Good){pos:Pos}(h:∀a,a∉keys σ->Q (.ref a) ((a,.rows [])::σ)):WE c A fr env m σ (.Dict [] [] pos) Q X:=fun s ok fm=>by
 have kp:∀b o,s.heap.get? b=some o->(s.heap.push {cls:=.type "dict",data:=.dict #[]}).get? b=some o:=fun b o e=>Heap.get?_push_of_some _ e
 have hsz:3<s.heap.objs.size:=by
  obtain ⟨o,es,ep,g0,_⟩:=gd.g
  exact Heap.lt_size (ok.base _ _ g0)
 refine wpAny_Dict_empty ⟨.ref s.heap.objs.size,(s.heap.objs.size,.rows [])::σ,Post.add (tk:=s.toks) kp (Nat.le_refl _),Ok.add (o:=.rows []) ok kp (Nat.le_refl _) ⟨[],rfl,⟨Vs.nil,beq_eq_false_iff_ne.mpr fun e=>by exact z989 hsz (e)⟩,Heap.DictOfH.new _⟩,by rfl,h _ fun z=> ?_⟩
 exact Nat.lt_irrefl _ (ok.lt (List.mem_append_left _ z))
theorem YH {rs:List (List Int)}{as:List Addr}(hl:as.length=rs.length){f:List Int}:(atKey (jz rs as) f).isSome=decide (f∈rs):=by
 unfold atKey
 simp only [Option.isSome_map,List.isSome_find?]
 apply Bool.eq_iff_iff.mpr
 simp only [List.any_eq_true,decide_eq_true_eq]
 constructor
 ·rintro ⟨x,hx,e⟩
  obtain ⟨p,hp,rfl⟩:=List.mem_map.mp hx
  simp only at e
  exact e▸((List.of_mem_zip hp).1)
 ·intro hf
  obtain ⟨i,hi,e⟩:=List.mem_iff_getElem.mp hf
  refine ⟨(rs[i],as[i]'(z23 hi hl),Value.bool true),?_,by trivial⟩
  exact List.mem_map.mpr ⟨(rs[i],as[i]'(z23 hi hl)),List.mem_iff_getElem.mpr ⟨i,by simp;exact z990 hi hl,by simp⟩,rfl⟩
theorem Yg {K:List Addr}{h:Heap}{rs:List (List Int)}{as:List Addr}{b:Addr}(hl:as.length=rs.length){f:List Int}(hv:Vs K h (rs.map row) (as.map .ref))(hb:V K h (row f) (.ref b)):∃as',as'.length=(ins rs f).length/\Vs K h ((ins rs f).map row) (as'.map .ref)/\storedH (jz rs as) f b (.bool true)=jz (ins rs f) as':=by
 delta storedH ins
 rw [YH hl]
 by_cases q:f∈rs
 ·rw [decide_eq_true q]
  simp only [if_true]
  rw [if_pos q]
  refine ⟨as,hl,hv,?_⟩
  have:∀x∈jz rs as,putAt f (.bool true) x=x:=fun x hx=>by
   obtain ⟨p,hp,rfl⟩:=List.mem_map.mp hx
   unfold putAt
   split<;>rfl
  exact (List.map_congr_left this ..).trans (List.map_id' ..)
 ·rw [decide_eq_false q]
  rw [if_neg q]
  refine ⟨as++[b],by simp [hl],by simp only [List.map_append];exact hv.append (Vs.cons hb Vs.nil),?_⟩
  unfold jz
  simp only [List.zip_append hl.symm,List.map_append]
  rfl
theorem V.isKey {K:List Addr}{h:Heap}{f:List Int}{v:Value}(x:V K h (row f) v):∃b,v=.ref b/\b∉K/\IsTupleKey (intKind c.prog c.w) h f b:=by
 obtain ⟨b,vs,n,rfl,nk,g,r⟩:=x
 refine ⟨b,rfl,nk,_,vs.toArray,n,g,rfl,rfl,?_⟩
 simp only
 clear g nk
 induction f generalizing vs with
 | nil=>
  simp only [List.map_nil] at r
  subst r;exact .nil
 | cons i f ih=>
  obtain ⟨v,us,rfl,x1,x2⟩:=r
  obtain ⟨t,rfl⟩:=x1.toInt
  exact .cons (by simp [intKind,Value.isInt]) (ih us x2)
theorem W1.setRow {n:Nat}(rm:Room n A){o i value:Expr}{pos' pos:Pos}(h:WE c A fr env m σ value (fun dv σ1=>dv=.bool true/\WE c A fr env m σ1 o (fun d σ2=>WE c A fr env m σ2 i (fun di σ3=>∃(a:Addr) (rs:List (List Int)) (f:List Int) (σa σb:Sto),d=.ref a/\di=row f/\σ3=σa++(a,.rows rs)::σb/\rs.length<=sizeLine/\N m (σa++(a,.rows (ins rs f))::σb)) X) X) X)
  (hs:swapsWith value (some (.Subscript o i pos')) pos.line env=pure false):W1 c A fr env m σ (.Assign [.Subscript o i pos'] value pos) N R X:=fun s ok fm=>by
 refine wpAny_Assign_Subscript (wpAny_mono (h s ok fm) (fun v s1 hx=> ?_) fun _ _ x=>x.wide fm) hs
 obtain ⟨dv,τ1,p1,ok1,x1,rfl,q1⟩:=hx
 refine wpAny_mono (q1 s1 ok1 (fm.move p1)) (fun ov s2 hx=> ?_) fun _ _ x=>(Ex.back (G:=none) p1 x fun _ _ y=>y).wide fm
 obtain ⟨d,τ2,p2,ok2,x2,q2⟩:=hx
 refine wpAny_mono (q2 s2 ok2 ((fm.move p1).move p2)) (fun iv s3 hx=> ?_) fun _ _ x=>(Ex.back (G:=none) (p1.trans p2) x fun _ _ y=>y).wide fm
 obtain ⟨di,τ3,p3,ok3,x3,a,rs,f,σa,σb,rfl,rfl,rfl,hsz,q⟩:=hx
 have x2':=p3.v x2
 subst x2'
 subst x1
 obtain ⟨b,rfl,nb,hkey⟩:=V.isKey (c:=c) x3
 have ha:a∈keys (σa++(a,O.rows rs)::σb):=by simp [keys]
 obtain ⟨as,hl,hn,hd⟩:=ok3.sto (a,O.rows rs) (by simp)
 refine wpAny_setItem_heap (knd:=tupleKind (intKind c.prog c.w)) (k:=f) (tupleKind_room_in1 (by have e:cLine=9900:=rfl;exact z991 (rm.1.2) e)) hkey hd (fun h' hd' hb=> ?_) (by unfold jz;simp [hl];exact hsz)
 have k':∀b ob,b≠a->s3.heap.get? b=some ob->h'.get? b=some ob:=fun b ob hne e=>by exact (hb.2 b hne ..).trans (e)
 obtain ⟨as',l1,l2,l3⟩:=Yg (b:=b) hl (f:=f) hn.1 x3
 simp only [l3] at hd'
 have pp:Post [] fr (σa++(a,.rows rs)::σb) s3 {s3 with heap:=h',toks:=s3.toks+(tupleKind (intKind c.prog c.w)).draws f} (σa++(a,.rows (ins rs f))::σb):=Post.put (fun z=>(List.nodup_append.mp ok3.nd).2.2 a ha a z rfl) k' (by obtain ⟨o,_,_,e,_⟩:=hd';exact ⟨o,e⟩)
 refine ⟨.next m,_,(((p1.trans p2).trans p3).trans pp).wide (by exact List.nil_subset _),ok3.put k' ⟨as',l1,⟨Vs.move (fun b ob nb e=>k' b ob (fun z=>nb (by simp only [z];exact List.mem_append_left _ ha)) e) (fun _ z=>.inl z) _ _ l2,hn.2⟩,hd'⟩,⟨rfl,(((fm.move p1).move p2).move p3).move pp⟩,q⟩
end
end Mine
set_option maxRecDepth 100000
namespace Mine
open PySem PySem.Calls PyProof.Rows
noncomputable def RawD (h:Heap)(d:Addr)(es:Array DictEntry)(ep:Nat):Prop:=∃o,h.get? d=some o/\o.ExactDict/\o.data=.dict es ep
theorem RawD.ty {s:Shared}{d:Addr}{es:Array DictEntry}{ep:Nat}(x:RawD s.heap d es ep):s.TypeIs (.ref d) "dict":=let ⟨o,ho,hc,_⟩:=x;⟨o,ho,hc.1⟩
theorem RawD.at {h h':Heap}{d:Addr}{es:Array DictEntry}{ep:Nat}(x:RawD h d es ep)(e:∀o,h.get? d=some o->h'.get? d=some o):RawD h' d es ep:=let ⟨o,ho,r⟩:=x;⟨o,e _ ho,r⟩
section
variable {prog:Program} {w:World} {A:Around} {E:Value->Shared->Prop} {s:Shared} {d:Addr} {es:Array DictEntry} {ep:Nat}
theorem iterD {Q:Value->Shared->Prop}(hd:(d==sysModules)=false)(hm:RawD s.heap d es ep)
  (hQ:Q (.ref s.heap.objs.size) {s with heap:=s.heap.push {cls:=.type "dict_keyiterator",data:=.fields #[.ref d,.int 0 0,.int es.size 0,.int ep 0]}}):wpAny (model prog w) A (pyIter (.ref d)) Q E s:=by
 obtain ⟨o,ho,hc,hdat⟩:=id hm
 have hT:=hm.ty
 refine wpAny_pyIter_slot hT F.slot_dict_iter (wpAny_call_entry F.slot_dict_iter hT F.entry_dict_iter ?_ (F.args_dict_iter_1 _))
 refine wpAny_bind ?_
 refine wpAny_bind (wpAny_notOrdered_dict hT ?_)
 show wpAny _ _ (pure (Value.ref d)) _ _ s
 refine wpAny_pure ?_
 show wpAny _ _ (Builtin.Dict.showsAll d>>=_) _ _ s
 unfold Builtin.Dict.showsAll
 rw [if_neg (by rw [hd];exact Bool.false_ne_true)]
 refine wpAny_bind (wpAny_pure ?_)
 refine wpAny_bind (wpAny_dictEntries ho hdat ?_)
 refine wpAny_bind (wpAny_dictEpoch ho hdat ?_)
 refine wpAny_bind (wpAny_newObj_type (wpAny_pure ⟨_,rfl,"dict_keyiterator",_,⟨_,Heap.get?_push_size _ rfl,rfl⟩,F.slot_dict_keyiterator_next.lookup,?_⟩))
 trivial
theorem nextD {it:Addr}{i:Nat}{en:DictEntry}{Q:Option Value->Shared->Prop}(hit:s.heap.IsKeyIter it d i es.size ep)(hm:RawD s.heap d es ep)(hx:es[i]? =some en)
  (hQ:∀h',h'.IsKeyIter it d (i+1) es.size ep->Heap.SameBut it s.heap h'->Q (some en.key) {s with heap:=h'}):wpAny (model prog w) A (pyNext (.ref it)) Q E s:=by
 obtain ⟨o,ho,hc,hd⟩:=id hit
 obtain ⟨od,hod,hcd,hdd⟩:=id hm
 refine wpAny_bind (wpAny_attempt (wpAny_callSpecial?_slot (name:=Str.ofString "__next__") hit.typeIs F.slot_dict_keyiterator_next
  (wpAny_call_entry F.slot_dict_keyiterator_next hit.typeIs F.entry_dict_keyiterator_next ?_ (F.args_dict_keyiterator_next_1 _))))
 refine wpAny_bind (wpAny_pure ?_)
 refine wpAny_bind ?_
 refine wpAny_bind ?_
 first| refine wpAny_bind (wpAny_typeNameOfWhole_keyiter hit.typeIs (wpAny_pure ?_))| refine wpAny_bind (wpAny_typeNameOf_keyiter hit.typeIs (wpAny_pure ?_))
 refine wpAny_bind (wpAny_fieldsOf ho hd ?_)
 show wpAny _ _ (if (Value.ref d==Value.none)=true then _ else _) _ _ s
 refine wpAny_bind (wpAny_pure ?_)
 refine wpAny_bind (wpAny_dictEntries hod hdd ?_)
 rw [if_neg (by simp)]
 refine wpAny_bind (wpAny_pure ?_)
 refine wpAny_bind (wpAny_dictEpoch hod hdd ?_)
 rw [if_neg (by simp)]
 refine wpAny_pure ?_
 simp only [show ¬((i:Int)<0) from z619,if_false,Int.toNat_natCast,hx]
 refine wpAny_bind ?_
 first| refine wpAny_bind (wpAny_typeNameOfWhole_keyiter hit.typeIs (wpAny_pure ?_))| refine wpAny_bind (wpAny_typeNameOf_keyiter hit.typeIs (wpAny_pure ?_))
 refine wpAny_bind (wpAny_isOneOf_keyiter hit.typeIs ?_)
 show wpAny _ _ (setField (.ref it) 1 (rawInt ((i:Int)+1))>>=_) _ _ s
 refine wpAny_bind (wpAny_setField ho hd (by exact Nat.le_add_left _ _) ?_)
 have hit':(s.heap.update it (Obj.mapFields (·.setIfInBounds 1 (rawInt ((i:Int)+1))))).IsKeyIter it d (i+1) es.size ep:=
  ⟨_,Heap.get?_update_self _ ho (Obj.isFreed_of_fields (Obj.data_mapFields hd _)),(Obj.cls_mapFields ..).trans hc,by rw [Obj.data_mapFields hd];rfl⟩
 refine wpAny_bind (wpAny_holding ?_)
 refine wpAny_bind (wpAny_isOneOf_keyiter (s:={s with heap:=s.heap.update it (Obj.mapFields (·.setIfInBounds 1 (rawInt ((i:Int)+1))))}) hit'.typeIs ?_)
 exact wpAny_pure (wpAny_pure ⟨_,rfl,wpAny_pure (hQ _ hit' (Heap.SameBut.update ..))⟩)
theorem endD {it:Addr}{i:Nat}{Q:Option Value->Shared->Prop}(hh:A.handled=none)(hit:s.heap.IsKeyIter it d i es.size ep)(hm:RawD s.heap d es ep)(hge:es.size<=i)
  (hQ:∀h',Heap.ExtBut it s.heap h'->Q none {s with heap:=h'}):wpAny (model prog w) A (pyNext (.ref it)) Q E s:=by
 obtain ⟨o,ho,hc,hd⟩:=id hit
 obtain ⟨od,hod,hcd,hdd⟩:=id hm
 refine wpAny_bind (wpAny_attempt (wpAny_callSpecial?_slot (name:=Str.ofString "__next__") hit.typeIs F.slot_dict_keyiterator_next
  (wpAny_call_entry F.slot_dict_keyiterator_next hit.typeIs F.entry_dict_keyiterator_next ?_ (F.args_dict_keyiterator_next_1 _))))
 refine wpAny_bind (wpAny_pure ?_)
 refine wpAny_bind ?_
 refine wpAny_bind ?_
 first| refine wpAny_bind (wpAny_typeNameOfWhole_keyiter hit.typeIs (wpAny_pure ?_))| refine wpAny_bind (wpAny_typeNameOf_keyiter hit.typeIs (wpAny_pure ?_))
 refine wpAny_bind (wpAny_fieldsOf ho hd ?_)
 show wpAny _ _ (if (Value.ref d==Value.none)=true then _ else _) _ _ s
 refine wpAny_bind (wpAny_pure ?_)
 refine wpAny_bind (wpAny_dictEntries hod hdd ?_)
 rw [if_neg (by simp)]
 refine wpAny_bind (wpAny_pure ?_)
 refine wpAny_bind (wpAny_dictEpoch hod hdd ?_)
 rw [if_neg (by simp)]
 refine wpAny_pure ?_
 simp only [show ¬((i:Int)<0) from z619,if_false,Int.toNat_natCast,Array.getElem?_eq_none hge]
 refine wpAny_bind ?_
 first| refine wpAny_bind (wpAny_typeNameOfWhole_keyiter hit.typeIs (wpAny_pure ?_))| refine wpAny_bind (wpAny_typeNameOf_keyiter hit.typeIs (wpAny_pure ?_))
 show wpAny _ _ (setField (.ref it) 0 .none>>=_) _ _ s
 refine wpAny_bind (wpAny_setField ho hd (by exact Nat.le_add_left _ _) ?_)
 refine wpAny_bind ?_
 refine wpAny_bind (wpAny_newObj_type ?_ (by size_fits))
 refine wpAny_bind (m:=firstArgMember _ _) (wpAny_of_eq (a:=Value.none) (by first| rfl| (simp only [firstArgMember];rfl)) ?_)
 refine wpAny_newObj_type ?_ (by size_fits)
 simp only [raiseNew]
 refine wpAny_bind (wpAny_handled ?_)
 rw [show A.in1.handled=none from hh]
 refine wpAny_bind (wpAny_pure (wpAny_throw ?_))
 refine wpAny_bind (wpAny_isInstance (T:="StopIteration") (b:=true) ⟨_,Heap.get?_push_size _ rfl,rfl⟩ isSubtype_stop ?_)
 exact wpAny_pure (hQ _ (((Heap.SameBut.update ..).extBut.push _).push _))
theorem walkD (hh:A.handled=none)(I:Addr)(hne:d≠I):Walks prog w A I [I,d] [I] es.size (fun i v=>∃e,es[i]? =some e/\v=e.key) (fun i h=>h.IsKeyIter I d i es.size ep/\RawD h d es ep) where
 sub:=fun b hb=>by simp at hb;simp [hb]
 frame:=fun _ _ _ st hk=>⟨st.1.at fun o e=>hk I (by exact .head _) o e,st.2.at fun o e=>hk d (by simp) o e⟩
 item:=fun i s Q E hi st hQ=>by
  have hx:es[i]? =some es[i]:=by simp
  refine nextD st.1 st.2 hx fun h' hit' hs'=> ?_
  exact hQ _ h' s.toks ⟨_,hx,rfl⟩ ⟨hit',st.2.at fun o e=>(hs'.2 d hne).trans e⟩ fun b o hb e=>hs'.extBut b o (fun h=>hb (by simp [h])) e
 done:=fun s Q E st hQ=>endD hh st.1 st.2 (Nat.le_refl _) fun h' he'=>hQ h' s.toks fun b o hb e=>he' b o (fun h=>hb (by simp [h])) e
 self:=fun _ _ _ _ st hQ=>wpAny_pyIter_keyiter st.1 hQ
theorem hintD {Q:Bool->Shared->Prop}(hd:(d==sysModules)=false)(hm:RawD s.heap d es ep)(h:Q false s):wpAny (model prog w) A (Builtin.List.listLengthHint (.ref d)) Q E s:=by
 refine wpAny_bind (wpAny_specialOf hm.ty F.slot_dict_len.lookup ?_)
 generalize hid:("dict.__len__":String)=id0
 wp_delta
 subst hid
 refine wpAny_bind (wpAny_isInstance (T:="dict") (b:=true) hm.ty (by kernel_rfl) ?_)
 refine wpAny_ite_split (fun hab=>absurd hab (by decide)) (fun _=> ?_)
 refine wpAny_ite_split (fun _=> ?_) (fun hab=>absurd (by decide+kernel) hab)
 refine wpAny_bind (wpAny_typeOf hm.ty ?_)
 exact wpAny_pure h
theorem j15 {R:Result->Shared->Prop}(hh:A.handled=none)(hd:(d==sysModules)=false)(hm:RawD s.heap d es ep)(hlen:es.size<=2^24)(S:Addr)(res:Value)(c₀:Nat)(hS:s.heap.get? S=some {cls:=.type "list",data:=.seq #[] c₀})
  (hR:∀h' tk acc' c',(∀b o,b≠S->s.heap.get? b=some o->h'.get? b=some o)->h'.get? S=some {cls:=.type "list",dict:=none,data:=.seq acc' c',slots:= #[]}->
   ItemsOf (fun i v=>∃e,es[i]? =some e/\v=e.key) acc' es.size->R (.ok (.ret res)) {s with heap:=h',toks:=tk}):
  wpAny (model prog w) A.in1 (Builtin.List.listExtendWith (.ref S) (.ref d) res)
   (fun fin s'=>match fin with| .done f=>R (.ok f) s'| .again c'=>c'.quiet=true/\codeAny (model prog w) A c' R s') (fun e s'=>R (.error e) s') s:=by
 have hSr:S≠d:=fun e=>by
  obtain ⟨o,ho,hc,hdat⟩:=hm
  simp only [e,ho] at hS
  obtain rfl:=Option.some.inj hS
  contradiction
 have hdlt:=let ⟨o,ho,_⟩:=hm;Heap.lt_size ho
 have hSI:=Nat.ne_of_lt (Heap.lt_size hS)
 have hdI:=Nat.ne_of_lt hdlt
 have key:∀(h:Heap) (c₁ tk:Nat),h.IsKeyIter s.heap.objs.size d 0 es.size ep->(∀b o,b≠S->s.heap.get? b=some o->h.get? b=some o)->
   h.get? S=some {cls:=.type "list",data:=.seq #[] c₁}->codeAny (model prog w) A (.builtin "list.extend.loop" ⟨[.ref S,.ref s.heap.objs.size,res],[]⟩) R {s with heap:=h,toks:=tk}:=by
  intro h c₁ tk hit hk hS₁
  refine codeAny_extend_loopS ((walkD (prog:=prog) (w:=w) (A:=A.in1) (es:=es) (ep:=ep) hh s.heap.objs.size hdI).toS) (by rw [PySem.sizeLine_eq];exact z874 hlen) S (fun hmem=>by
  simp only [List.mem_cons,List.not_mem_nil,or_false] at hmem
  exact hmem.elim hSI hSr) res es.size 0 _ #[] c₁ rfl (Nat.zero_le _) ⟨hit,hm.at fun o e=>hk d o (Ne.symm hSr) e⟩ hS₁ (ItemsOf.nil _) fun s' acc' c' hm' hS' hacc=> ?_
  rw [Moved.eq_with hm']
  refine hR s'.heap s'.toks acc' c' (fun b o hb e=>hm'.heap b o (fun hmem=> ?_) (hk b o hb e)) hS' hacc
  rcases List.mem_cons.mp hmem with e'| hmem
  ·exact hb e'
  ·exact absurd (Heap.lt_size e) (by rw [List.mem_singleton.mp hmem];exact Nat.lt_irrefl _)
 unfold Builtin.List.listExtendWith
 refine wpAny_bind (wpAny_typeOf (T:="dict") hm.ty ?_)
 have h1:Builtin.List.listSameRef (.ref S) (.ref d)=false:=(show Builtin.List.listSameRef (.ref S) (.ref d)=(S==d) from rfl).trans (by simp [hSr])
 have h2:(Value.type "dict"==Value.type "list")=false:=by decide
 have h3:(Value.type "dict"==Value.type "tuple")=false:=by decide
 rw [if_neg (show ¬(Builtin.List.listSameRef (.ref S) (.ref d)|| Value.type "dict"==Value.type "list"|| Value.type "dict"==Value.type "tuple")=true from by rw [h1,h2,h3];decide)]
 refine wpAny_bind (iterD hd hm ?_)
 refine wpAny_bind (wpAny_holding (hintD hd (hm.at fun o e=>Heap.get?_push_of_some _ e) ?_))
 have hit₁:(s.heap.push {cls:=.type "dict_keyiterator",data:=.fields #[.ref d,.int 0 0,.int es.size 0,.int ep 0]}).IsKeyIter s.heap.objs.size d 0 es.size ep:=⟨_,Heap.get?_push_size _ rfl,rfl,rfl⟩
 have hS₁:=Heap.get?_push_of_some {cls:=.type "dict_keyiterator",data:=.fields #[.ref d,.int 0 0,.int es.size 0,.int ep 0]} hS
 refine wpAny_ite_split (fun _=> ?_) (fun _=>wpAny_pure ⟨plainId_quiet F.plain_extend_loop _,key _ c₀ _ hit₁ (fun b o _ e=>Heap.get?_push_of_some _ e) hS₁⟩)
 refine wpAny_bind (wpAny_rule ?_)
 refine wpAny_bind ?_
 show wpAny _ _ (updateSeq S (·.push .none)>>=fun _=>updateSeq S (·.pop)) _ _ _
 refine wpAny_bind (wpAny_updateSeq hS₁ rfl ?_)
 have hS₂:=Heap.get?_update_self (Obj.mapSeq (·.push Value.none)) hS₁ rfl
 refine wpAny_updateSeq (hz:=by seq_fits) hS₂ rfl ?_
 have hS₃:=Heap.get?_update_self (Obj.mapSeq (·.pop)) hS₂ rfl
 refine wpAny_pure ⟨plainId_quiet F.plain_extend_loop _,key _ _ _ (hit₁.at fun o e=> ?_) (fun b o hb e=> ?_) hS₃⟩
 ·exact (Heap.get?_update_other _ _ hSI).trans ((Heap.get?_update_other _ _ hSI).trans e)
 ·exact (Heap.get?_update_other _ _ (Ne.symm hb)).trans ((Heap.get?_update_other _ _ (Ne.symm hb)).trans (Heap.get?_push_of_some _ e))
theorem initD {R:Result->Shared->Prop}(hh:A.handled=none)(hd:(d==sysModules)=false)(hm:RawD s.heap d es ep)(hlen:es.size<=2^24)(S:Addr)(hS:s.heap.get? S=some {cls:=.type "list",data:=.seq #[]})
  (hR:∀h' tk acc' c',(∀b o,b≠S->s.heap.get? b=some o->h'.get? b=some o)->h'.get? S=some {cls:=.type "list",dict:=none,data:=.seq acc' c',slots:= #[]}->
   ItemsOf (fun i v=>∃e,es[i]? =some e/\v=e.key) acc' es.size->R (.ok (.ret .none)) {s with heap:=h',toks:=tk}):
  wpAny (model prog w) A.in1 (Builtin.«list.__init__» ⟨[.ref S,.ref d],[]⟩)
   (fun fin s'=>match fin with| .done f=>R (.ok f) s'| .again c'=>c'.quiet=true/\codeAny (model prog w) A c' R s') (fun e s'=>R (.error e) s') s:=by
 show wpAny _ _ (do let old<-Builtin.List.listItems (.ref S);Builtin.List.listUpdate (.ref S) (fun _=> #[]);letGo old.toList.reverse;Builtin.List.listExtendWith (.ref S) (.ref d) .none) _ _ s
 refine wpAny_bind ?_
 refine wpAny_bind (wpAny_seqItems hS rfl (wpAny_pure ?_))
 refine wpAny_bind (wpAny_updateSeq hS rfl ?_)
 have hS₂:=Heap.get?_update_self (Obj.mapSeq (fun _=>(#[]:Array Value))) hS rfl
 have oth:∀b o,b≠S->s.heap.get? b=some o->(s.heap.update S (Obj.mapSeq (fun _=>(#[]:Array Value)))).get? b=some o:=
  fun b o hb e=>(Heap.get?_update_other _ _ (Ne.symm hb)).trans e
 refine wpAny_bind (wpAny_letGo ?_)
 refine j15 hh hd (hm.at fun o e=>oth d o (Ne.symm (fun e=>by
  obtain ⟨o,ho,hc,hdat⟩:=hm
  rw [e,ho] at hS
  obtain rfl:=Option.some.inj hS
  contradiction)) e) hlen S .none _ hS₂ fun h' tk acc' c' hk hS' hacc=> ?_
 exact hR h' tk acc' c' (fun b o hb e=>hk b o hb (oth b o hb e)) hS' hacc
theorem listD {Q:Value->Shared->Prop}(hh:A.handled=none)(hd:(d==sysModules)=false)(hm:RawD s.heap d es ep)(hlen:es.size<=2^24)
  (hQ:∀h' tk acc' c',(∀b o,s.heap.get? b=some o->h'.get? b=some o)->h'.get? s.heap.objs.size=some {cls:=.type "list",dict:=none,data:=.seq acc' c',slots:= #[]}->
   ItemsOf (fun i v=>∃e,es[i]? =some e/\v=e.key) acc' es.size->Q (.ref s.heap.objs.size) {s with heap:=h',toks:=tk}):wpAny (model prog w) A (call (.type "list") [.ref d]) Q E s:=by
 refine callType_codes (Q₁:=fun obj s₁=>obj=.ref s.heap.objs.size/\s₁={s with heap:=s.heap.push {cls:=.type "list",data:=.seq #[]}}) F.called_list (F.typeCall_list_1 _) F.entry_list_init
  (code_list_new _ ⟨rfl,rfl⟩) fun obj s₁ h₁=> ?_
 obtain ⟨rfl,rfl⟩:=h₁
 have hS:(s.heap.push {cls:=.type "list",data:=.seq #[]}).get? s.heap.objs.size=some {cls:=.type "list",data:=.seq #[]}:=Heap.get?_push_size _ rfl
 refine ⟨⟨_,hS,rfl⟩,F.args_list_init_2 _ _,initD (A:=A.in1) hh hd (hm.at fun o e=>Heap.get?_push_of_some _ e) hlen _ hS fun h' tk acc' c' hk hS' hacc=> ?_⟩
 exact ⟨rfl,hQ h' tk acc' c' (fun b o e=>hk b o (Nat.ne_of_lt (Heap.lt_size e)) (Heap.get?_push_of_some _ e)) hS' hacc⟩
end
section
variable {c:Cx} {A:Around} {fr:List Addr} {σ:Sto} {X:Addr->Sto->Prop} {Q:D->Sto->Prop} {env:Env} {m:Vars} {N:Vars->Sto->Prop} {R:D->Sto->Prop}
theorem At1.listRows {a:Addr}{rs:List (List Int)}(hm:(a,O.rows rs)∈σ)(hh:A.handled=none)(hsz:rs.length<=sizeLine)(h:QL Q (rs.map row) σ):At1 c A fr σ (.type "list") [.ref a] Q X:=.one fun s v ok hv=>by
 subst hv
 obtain ⟨as,hl,⟨hv,hne⟩,o,es,ep,g,ex,hd,he,hk,nd⟩:=ok.sto _ hm
 have hes:es.size=rs.length:=by
  rw [<-Array.length_toList,he];unfold jz;simp [hl]
 refine listD hh hne ⟨o,g,ex,hd⟩ (by rw [hes];exact z993 (rfl) hsz) fun h' tk acc' c' kp g' hI=> ?_
 have hn:∀a∈[s.heap.objs.size],s.heap.get? a=none:=fun a ha=>by rw [List.mem_singleton.mp ha];exact jg (Nat.le_refl _)
 have oka:=ok.more kp hn (fun a ha=>by exact (List.mem_singleton.mp ha)▸⟨_,g'⟩) (by simp)
 have hacc:acc'.toList=as.map Value.ref:=by
  apply List.ext_getElem?
  intro i
  simp only [Array.getElem?_toList,List.getElem?_map]
  cases hq:acc'[i]? with
  | none=>
   have h2:=Array.getElem?_eq_none_iff.mp hq
   rw [List.getElem?_eq_none (z994 hl (hI.1) hes h2)];rfl
  | some v=>
   obtain ⟨en,e1,rfl⟩:=hI.2 i v hq
   rw [entry_at he i] at e1
   obtain ⟨x,hx,rfl⟩:=Option.map_eq_some_iff.mp e1
   unfold jz at hx
   replace hx:=(List.getElem?_map ..).symm.trans hx
   obtain ⟨p,hp,rfl⟩:=Option.map_eq_some_iff.mp hx
   obtain ⟨_,hp2⟩:=List.getElem?_zip_eq_some.mp hp
   simp only [hp2];rfl
 refine QL.use (G:=none) (vs:=as.map Value.ref) (n:=c') (s':={s with heap:=h',toks:=tk}) h (Post.keeps kp) oka ok.frames_in (by simp only [g',<-hacc]) (Vs.move (K:=keys σ++fr) (fun b o _ e=>kp b o e) (jC hn) _ _ hv) (hn _ (by exact .head _))
end
end Mine
set_option maxHeartbeats 1000000
namespace Mine
open PySem PySem.Calls PyProof.Rows
section
variable {c:Cx} {A:Around} {fr:List Addr} {σ σ1 σ2:Sto} {X:Addr->Sto->Prop} {Q:D->Sto->Prop} {env:Env} {m:Vars} {N:Vars->Sto->Prop} {R:D->Sto->Prop}
theorem WE.shed {e:Expr}(h:WE c A fr env m σ e (fun d σ1=>∃σ2:Sto,σ2.Sublist σ1/\Q d σ2) X):WE c A fr env m σ e Q X:=fun s ok fm=>
 wpAny_mono (h s ok fm) (fun v s1 ⟨d,σ1,p1,ok1,x1,σ2,hs,q⟩=>⟨d,σ2,p1.to hs,ok1.sub hs,V.move (fun _ _ _ e=>e) (JG hs _) _ _ x1,q⟩) fun _ _ x=>x
theorem At1.clear {a:Addr}{ds:List D}(hsz:ds.length<=sizeLine)(h:Q .none (σ1++(a,.lst [])::σ2)):At1 c A fr (σ1++(a,.lst ds)::σ2) (.builtin "list.clear") [.ref a] Q X:=.one fun s v ok hv=>by
 subst hv
 obtain ⟨vs,n,g,r⟩:=ok.sto _ (by simp:(a,O.lst ds)∈σ1++(a,.lst ds)::σ2)
 refine call_meets F.slot_list_clear ⟨_,g,rfl⟩ F.entry_list_clear (F.args_list_clear_1 _) (AutoSeq1.list_clear_list_0 a vs.toArray n (by simpa [r.length] using hsz)) ⟨g,?_⟩
 have k1:∀b ob,b≠a->s.heap.get? b=some ob->(s.heap.update a (Obj.mapSeq fun _=> #[])).get? b=some ob:=fun b ob hne e=>by exact (Heap.get?_update_ne _ _ _ _ hne ..).trans (e)
 obtain ⟨n',g'⟩:∃n',(s.heap.update a (Obj.mapSeq fun _=>(#[]:Array Value))).get? a=some (jk [] n'):=⟨_,IsL.update (h:=s.heap) (l:=a) (items:=vs.toArray) (n:=n) g fun _=> #[]⟩
 exact ⟨.none,_,Post.put (tk:=s.toks) (o':=.lst []) (fun z=>(List.nodup_append.mp ok.nd).2.2 a (by simp [keys]) a z rfl) k1 ⟨_,g'⟩,Ok.put ok k1 ⟨[],n',g',Vs.nil⟩,by rfl,h⟩
end
noncomputable def Hs (m l:Vars):Prop:=∀x d,l.lookup x=some d->m.lookup x=some d
theorem Hs.nil {m:Vars}:Hs m []:=fun x d e=>by cases e
theorem Hs.cons {m l:Vars}{x:Str}{d:D}(h:m.lookup x=some d)(t:Hs m l):Hs m ((x,d)::l):=fun y e z=>by
 rw [List.lookup_cons] at z
 cases q:y==x with
 | true=>
  rw [q] at z
  have:y=x:=by simpa using q
  rw [this,h];exact z
 | false=>rw [q] at z;exact t y e z
theorem Hs.both {m l:Vars}(h:Hs m l):∀g:Vars,Hs (g++m) (g++l)
 | []=>h
 | (x,d)::g=>fun y e z=>by
  rw [List.cons_append,List.lookup_cons] at z⊢
  cases q:y==x with
  | true=>rw [q] at z;exact z
  | false=>rw [q] at z;exact h.both g y e z
section
variable {c:Cx} {A:Around} {fr:List Addr} {env:Env} {m:Vars} {σ:Sto} {N:Vars->Sto->Prop} {R:D->Sto->Prop} {X:Addr->Sto->Prop}
theorem WS.base {l:Vars}{ss:List Stmt}(h:Hs m l)(k:WS c A fr env l σ ss N R X):WS c A fr env m σ ss N R X:=fun s ok fm=>k s ok (fm.turn fun x d e=>⟨d,h x d e,fun v hv=>hv⟩)
end
/-! the walk as a function:what can be stepped by the text alone is stepped by evaluation;the text is named by roads,never written out-/
structure Sp (P:Prop):Prop where
 h:P
structure Cfg where
 B:List Stmt
 bs:List (Str × Value)
 gs:List (Str × Int)
 sc:Scope
 k:Nat
 f:Bool
 c:Cx
 A:Around
 X:Addr->Sto->Prop
 env:Env
 fr:List Addr
structure Gd (B:List Stmt)(bs:List (Str × Value))(gs:List (Str × Int))(sc:Scope)(k:Nat)(f:Bool)(c:Cx)(A:Around)(env:Env):Prop where
 T:Tp c B bs
 G:Gi c gs
 r:Room k A
 s:env.scope=sc
 fe:f=true->Fe A env sc
inductive Job where
 | E (e:Expr) (Q:D->Sto->Prop)
 | T (e:Expr) (Q:Bool->Sto->Prop)
 | A (es:List Expr) (Q:List D->Sto->Prop)
 | S (ss:List Stmt) (N:Vars->Sto->Prop) (R:D->Sto->Prop)
 | X (ss:List Stmt) (N:Vars->Sto->Prop) (R:D->Sto->Prop)
 | Ts (op:BoolOp) (es:List Expr) (Q:Bool->Sto->Prop)
 | Bs (op:BoolOp) (es:List Expr) (Q:D->Sto->Prop)
 | I (it tg:Expr) (Q:List Vars->(Sto->Prop)->Sto->Prop)
noncomputable abbrev RunT:=Vars->Sto->Job->Prop
noncomputable def Job.W (Γ:Cfg)(m:Vars)(σ:Sto):Job->Prop
 | .E e Q=>WE Γ.c Γ.A Γ.fr Γ.env m σ e Q Γ.X
 | .T e Q=>WT Γ.c Γ.A Γ.fr Γ.env m σ e Q Γ.X
 | .A es Q=>WA Γ.c Γ.A Γ.fr Γ.env m σ es Q Γ.X
 | .S ss N R=>WS Γ.c Γ.A Γ.fr Γ.env m σ ss N R Γ.X
 | .X ss N R=>WS Γ.c Γ.A Γ.fr Γ.env m σ ss N R Γ.X
 | .Ts op es Q=>WTs Γ.c Γ.A Γ.fr Γ.env m σ op es Q Γ.X
 | .Bs op es Q=>WBs Γ.c Γ.A Γ.fr Γ.env m σ op es Q Γ.X
 | .I it tg Q=>WIt Γ.c Γ.A Γ.fr Γ.env m σ it tg Q Γ.X
noncomputable def Job.stop (Γ:Cfg)(m:Vars)(σ:Sto)(j:Job):Prop:=Sp (j.W Γ m σ)
noncomputable def Ub (Γ:Cfg)(m:Vars)(σ:Sto)(e:Expr)(Q:D->Sto->Prop):Prop:=match Γ with| ⟨_,_,_,_,k,_,c,A,X,env,fr⟩=>Sp (WE c A fr env m σ e Q X)
noncomputable def j16 (Γ:Cfg)(m:Vars)(σ:Sto)(e:Expr)(Q:Bool->Sto->Prop):Prop:=match Γ with| ⟨_,_,_,_,k,_,c,A,X,env,fr⟩=>Sp (WT c A fr env m σ e Q X)
noncomputable def haltAr (Γ:Cfg)(m:Vars)(σ:Sto)(es:List Expr)(Q:List D->Sto->Prop):Prop:=match Γ with| ⟨_,_,_,_,k,_,c,A,X,env,fr⟩=>Sp (WA c A fr env m σ es Q X)
noncomputable def haltBs (Γ:Cfg)(m:Vars)(σ:Sto)(op:BoolOp)(es:List Expr)(Q:D->Sto->Prop):Prop:=match Γ with| ⟨_,_,_,_,k,_,c,A,X,env,fr⟩=>Sp (WBs c A fr env m σ op es Q X)
noncomputable def haltS (Γ:Cfg)(m:Vars)(σ:Sto)(ss:List Stmt)(N:Vars->Sto->Prop)(R:D->Sto->Prop):Prop:=match Γ with| ⟨_,_,_,_,k,_,c,A,X,env,fr⟩=>Sp (WS c A fr env m σ ss N R X)
noncomputable def j17 (Γ:Cfg)(m:Vars)(σ:Sto)(s:Stmt)(N:Vars->Sto->Prop)(R:D->Sto->Prop):Prop:=match Γ with| ⟨_,_,_,_,k,_,c,A,X,env,fr⟩=>Sp (W1 c A fr env m σ s N R X)
noncomputable def UW (Γ:Cfg)(σ:Sto)(t:Value->Value->Sem Value)(d1 d2:D)(Q:D->Sto->Prop):Prop:=match Γ with| ⟨_,_,_,_,k,_,c,A,X,env,fr⟩=>Sp (WB c A fr σ t d1 d2 Q X)
noncomputable def j18 (Γ:Cfg)(σ:Sto)(t:Value->Sem Value)(d:D)(Q:D->Sto->Prop):Prop:=match Γ with| ⟨_,_,_,_,k,_,c,A,X,env,fr⟩=>Sp (WU c A fr σ t d Q X)
noncomputable def haltTr (Γ:Cfg)(σ:Sto)(d:D)(Q:Bool->Sto->Prop):Prop:=match Γ with| ⟨_,_,_,_,k,_,c,A,X,env,fr⟩=>Sp (WTr c A fr σ d Q X)
noncomputable def haltF (Γ:Cfg)(f:Str)(ds:List D)(σ:Sto)(Q:D->Sto->Prop):Prop:=match Γ with| ⟨_,_,_,_,k,_,c,A,X,env,fr⟩=>Sp (WF c (Room k) f ds σ Q X)
noncomputable def haltA (Γ:Cfg)(σ:Sto)(v:Value)(ds:List D)(Q:D->Sto->Prop):Prop:=match Γ with| ⟨_,_,_,_,k,_,c,A,X,env,fr⟩=>Sp (At1 c A fr σ v ds Q X)
noncomputable def haltSb (Γ:Cfg)(σ:Sto)(v s:Expr)(d1 d2:D)(Q:D->Sto->Prop):Prop:=match Γ with| ⟨_,_,_,_,k,_,c,A,X,env,fr⟩=>Sp (WSb c A fr σ v s d1 d2 Q X)
noncomputable def haltIv (Γ:Cfg)(m:Vars)(σ:Sto)(d:D)(tg:Expr)(Q:List Vars->(Sto->Prop)->Sto->Prop):Prop:=match Γ with| ⟨_,_,_,_,k,_,c,A,X,env,fr⟩=>Sp (WIv c A fr env m σ d tg Q)
noncomputable abbrev stop {α:Type}(Q:α->Sto->Prop):α->Sto->Prop:=fun a σ=>Sp (Q a σ)
noncomputable abbrev uL (N:Vars->Sto->Prop):Vars->Sto->Prop:=fun m σ=>Sp (N m σ)
/-! roads-/
noncomputable def no0:Expr:=.Constant .none 0 ⟨0,0,0,0⟩
noncomputable def eP:Expr->Expr × Expr × List Expr
 | .BinOp l _ r _=>(l,r,[])
 | .Compare l _ es _=>(l,no0,es)
 | .UnaryOp _ x _=>(x,no0,[])
 | .Subscript v s _=>(v,s,[])
 | .Call f as _ _=>(f,no0,as)
 | .Attribute v _ _=>(v,no0,[])
 | .ListComp e _ _ _=>(e,no0,[])
 | .BoolOp _ es _=>(no0,no0,es)
 | .List es _=>(no0,no0,es)
 | .Tuple es _ _=>(no0,no0,es)
 | _=>(no0,no0,[])
noncomputable def eL (e:Expr):Expr:=(eP e).1
noncomputable def eR (e:Expr):Expr:=(eP e).2.1
noncomputable def eS (e:Expr):List Expr:=(eP e).2.2
noncomputable def cP:Expr->List Comprehension × Scope
 | .ListComp _ gs s _=>(gs,s)
 | _=>([],⟨.function,[],false,false,[]⟩)
noncomputable def cG (e:Expr):Comprehension:=(cP e).1.headD ⟨no0,no0,[],0⟩
noncomputable def cS (e:Expr):Scope:=(cP e).2
noncomputable def hE (es:List Expr):Expr:=es.headD no0
noncomputable def hS (ss:List Stmt):Stmt:=ss.headD (.Pass ⟨0,0,0,0⟩)
noncomputable def sP:Stmt->Expr × Expr × List Stmt × List Stmt
 | .Return e _=>(e.getD no0,no0,[],[])
 | .Assign _ v _=>(v,no0,[],[])
 | .Expr e _=>(e,no0,[],[])
 | .If t a b _=>(t,no0,a,b)
 | .For t it b _ _=>(it,t,b,[])
 | .While t b _ _=>(t,no0,b,[])
 | _=>(no0,no0,[],[])
noncomputable def sE (s:Stmt):Expr:=(sP s).1
noncomputable def sT (s:Stmt):Expr:=(sP s).2.1
noncomputable def sA (s:Stmt):List Stmt:=(sP s).2.2.1
noncomputable def sB (s:Stmt):List Stmt:=(sP s).2.2.2
/-! the tests-/
noncomputable def bB (b:Bool)(p z:Prop):Prop:=match b with| true=>p| false=>z
noncomputable def oO {α:Type}(o:Option α)(f:α->Prop)(z:Prop):Prop:=match o with| some a=>f a| none=>z
noncomputable def isDef (B:List Stmt)(f:Str):Bool:=B.any fun s=>match jT s with| some d=>d.name==f| none=>false
noncomputable def odd (x:Str):Bool:=x==("__debug__":Str)|| x==("__classdict__":Str)
noncomputable def tag:Expr->Nat
 | .Constant _ _ _=>1
 | .Slice _ _ _ _=>2
 | .Set _ _ _=>3
 | .ListComp _ _ _ _=>4
 | .SetComp _ _ _ _=>5
 | .DictComp _ _ _ _ _=>5
 | .Tuple _ _ _=>6
 | .Call _ _ _ _=>7
 | _=>0
noncomputable def isCst (e:Expr):Bool:=tag e==1
noncomputable def j19 (e:Expr):Bool:=tag e==2
noncomputable def j03 (e:Expr):Bool:=tag e==3
noncomputable def isLC (e:Expr):Bool:=tag e==4
noncomputable def wJ (e:Expr):Bool:=tag e==4|| tag e==5
noncomputable def asNm:Expr->Option (Str × Pos)
 | .Name x p=>some (x,p)
 | _=>none
noncomputable def asAt:Expr->Option (Str × Pos)
 | .Attribute _ x p=>some (x,p)
 | _=>none
noncomputable def eK:Expr->List Keyword
 | .Call _ _ k _=>k
 | _=>[]
noncomputable def atIf:List Stmt->Bool
 | .If _ _ _ _::_=>true
 | _=>false
noncomputable def kd:Option NameKind->Nat
 | some .local=>1
 | some .cell=>2
 | some .free=>3
 | some .globalImplicit=>4
 | _=>0
noncomputable def isLoc (k:Option NameKind):Bool:=kd k==1|| kd k==2
noncomputable def isVar (k:Option NameKind):Bool:=kd k==1|| (kd k==2|| kd k==3)
noncomputable def j04 (k:Option NameKind):Bool:=kd k==4
noncomputable def vk:Value->Nat
 | .builtin _=>1
 | .type _=>2
 | _=>0
noncomputable def isBT (v:Value):Bool:=vk v==1|| vk v==2
noncomputable def asTy:Value->Option String
 | .type T=>some T
 | _=>none
noncomputable def cOk (sc:Scope)(e:Expr):Bool:=((cP e).1.length==1&&(cG e).is_async==0)&&(Y0 (cS e)&&(yd (cS e) sc&& !j03 (cG e).iter))
noncomputable def two (ts:List Expr)(f:Str->Str->Prop)(z:Prop):Prop:=bB (ts.length==2) (oO (asNm (hE ts)) (fun x=>oO (asNm (hE ts.tail)) (fun y=>f x.1 y.1) z) z) z
/-! two data and an operator-/
noncomputable def doBin (Γ:Cfg)(op:Operator)(cst:Bool)(Q:D->Sto->Prop)(d1 d2:D)(σ:Sto):Prop:=
 match d1,d2 with
 | .int a,.int b=>(match op with
  | .Add=>Q (.int (a+b)) σ
  | .Sub=>Q (.int (a-b)) σ
  | .Mod=>if (cst&&(decide (0<b)&&decide (b.natAbs<2^64)))=true then Q (.int (a % b)) σ else UW Γ σ (binaryOp op) d1 d2 Q
  | .FloorDiv=>if (cst&&(decide (0<b)&&decide (b.natAbs<2^64)))=true then Q (.int (a/b)) σ else UW Γ σ (binaryOp op) d1 d2 Q
  | _=>UW Γ σ (binaryOp op) d1 d2 Q)
 | _,_=>UW Γ σ (binaryOp op) d1 d2 Q
noncomputable def j05 (Γ:Cfg)(op:CmpOp)(Q:D->Sto->Prop)(d1 d2:D)(σ:Sto):Prop:=
 match d1,d2 with
 | .int a,.int b=>(match op with
  | .Lt=>Q (.bool (decide (a<b))) σ
  | .LtE=>Q (.bool (decide (a<=b))) σ
  | .Gt=>Q (.bool (decide (b<a))) σ
  | .GtE=>Q (.bool (decide (b<=a))) σ
  | .Eq=>Q (.bool (a==b)) σ
  | .NotEq=>Q (.bool (a !=b)) σ
  | _=>UW Γ σ (compareOp op) d1 d2 Q)
 | _,_=>UW Γ σ (compareOp op) d1 d2 Q
noncomputable def doUn (Γ:Cfg)(op:UnaryOp)(Q:D->Sto->Prop)(d:D)(σ:Sto):Prop:=
 match d with
 | .int a=>(match op with
  | .USub=>Q (.int (-a)) σ
  | _=>j18 Γ σ (unaryOp op) d Q)
 | .bool b=>(match op with
  | .Not=>Q (.bool (!b)) σ
  | _=>j18 Γ σ (unaryOp op) d Q)
 | _=>j18 Γ σ (unaryOp op) d Q
noncomputable def wK (Γ:Cfg)(Q:Bool->Sto->Prop)(d:D)(σ:Sto):Prop:=
 match d with
 | .bool b=>Q b σ
 | _=>haltTr Γ σ d Q
/-! what is done next-/
noncomputable def kBin2 (Γ:Cfg)(op:Operator)(cst:Bool)(Q:D->Sto->Prop)(d1:D):D->Sto->Prop:=fun d2 σ=>doBin Γ op cst Q d1 d2 σ
noncomputable def kBin (Γ:Cfg)(r:RunT)(m:Vars)(op:Operator)(e:Expr)(Q:D->Sto->Prop):D->Sto->Prop:=fun d1 σ=>r m σ (.E e (kBin2 Γ op (isCst e) Q d1))
noncomputable def j1a (Γ:Cfg)(op:CmpOp)(Q:D->Sto->Prop)(d1:D):D->Sto->Prop:=fun d2 σ=>j05 Γ op Q d1 d2 σ
noncomputable def kCmp (Γ:Cfg)(r:RunT)(m:Vars)(op:CmpOp)(e:Expr)(Q:D->Sto->Prop):D->Sto->Prop:=fun d1 σ=>r m σ (.E e (j1a Γ op Q d1))
noncomputable def kUn (Γ:Cfg)(op:UnaryOp)(Q:D->Sto->Prop):D->Sto->Prop:=fun d σ=>doUn Γ op Q d σ
noncomputable def kTru (Γ:Cfg)(Q:Bool->Sto->Prop):D->Sto->Prop:=fun d σ=>wK Γ Q d σ
noncomputable def kDef (Γ:Cfg)(f:Str)(Q:D->Sto->Prop):List D->Sto->Prop:=fun ds σ=>haltF Γ f ds σ Q
noncomputable def kBlt (Γ:Cfg)(v:Value)(Q:D->Sto->Prop):List D->Sto->Prop:=fun ds σ=>haltA Γ σ v ds Q
noncomputable def kSub2 (Γ:Cfg)(v s:Expr)(Q:D->Sto->Prop)(d1:D):D->Sto->Prop:=fun d2 σ=>haltSb Γ σ v s d1 d2 Q
noncomputable def kSub (Γ:Cfg)(r:RunT)(m:Vars)(v s:Expr)(Q:D->Sto->Prop):D->Sto->Prop:=fun d1 σ=>r m σ (.E s (kSub2 Γ v s Q d1))
noncomputable def kLst (Q:D->Sto->Prop):List D->Sto->Prop:=fun ds σ=>if ds.length<=64 then Sp (QL Q ds σ) else Sp (ds.length<=sizeLine/\QL Q ds σ)
noncomputable def kTup (Q:D->Sto->Prop):List D->Sto->Prop:=fun ds σ=>if ds.length<=64 then Q (.tup ds) σ else Sp (ds.length<=sizeLine/\Q (.tup ds) σ)
noncomputable def kArg2 (Q:List D->Sto->Prop)(d:D):List D->Sto->Prop:=fun ds σ=>Q (d::ds) σ
noncomputable def kArg (r:RunT)(m:Vars)(es:List Expr)(Q:List D->Sto->Prop):D->Sto->Prop:=fun d σ=>r m σ (.A es (kArg2 Q d))
noncomputable def kNot (Q:Bool->Sto->Prop):Bool->Sto->Prop:=fun b σ=>Q (!b) σ
noncomputable def kAnd (r:RunT)(m:Vars)(es:List Expr)(Q:Bool->Sto->Prop):Bool->Sto->Prop:=fun b σ=>if b=true then r m σ (.Ts .And es Q) else Q false σ
noncomputable def kOr (r:RunT)(m:Vars)(es:List Expr)(Q:Bool->Sto->Prop):Bool->Sto->Prop:=fun b σ=>if b=true then Q true σ else r m σ (.Ts .Or es Q)
noncomputable def kAndE2 (r:RunT)(m:Vars)(es:List Expr)(Q:D->Sto->Prop)(d:D):Bool->Sto->Prop:=fun b σ=>if b=true then r m σ (.Bs .And es Q) else Q d σ
noncomputable def kAndE (Γ:Cfg)(r:RunT)(m:Vars)(es:List Expr)(Q:D->Sto->Prop):D->Sto->Prop:=fun d σ=>wK Γ (kAndE2 r m es Q d) d σ
noncomputable def kOrE2 (r:RunT)(m:Vars)(es:List Expr)(Q:D->Sto->Prop)(d:D):Bool->Sto->Prop:=fun b σ=>if b=true then Q d σ else r m σ (.Bs .Or es Q)
noncomputable def kOrE (Γ:Cfg)(r:RunT)(m:Vars)(es:List Expr)(Q:D->Sto->Prop):D->Sto->Prop:=fun d σ=>wK Γ (kOrE2 r m es Q d) d σ
noncomputable def kC2b (Γ:Cfg)(r:RunT)(m:Vars)(op2:CmpOp)(e3:Expr)(Q:Bool->Sto->Prop)(d2:D):Bool->Sto->Prop:=fun b σ=>if b=true then r m σ (.E e3 (j1a Γ op2 (kTru Γ Q) d2)) else Q false σ
noncomputable def kC2a (Γ:Cfg)(r:RunT)(m:Vars)(op op2:CmpOp)(e3:Expr)(Q:Bool->Sto->Prop)(d1:D):D->Sto->Prop:=fun d2 σ=>j05 Γ op (kTru Γ (kC2b Γ r m op2 e3 Q d2)) d1 d2 σ
noncomputable def kC2 (Γ:Cfg)(r:RunT)(m:Vars)(op op2:CmpOp)(e2 e3:Expr)(Q:Bool->Sto->Prop):D->Sto->Prop:=fun d1 σ=>r m σ (.E e2 (kC2a Γ r m op op2 e3 Q d1))
noncomputable def kE2b (Γ:Cfg)(r:RunT)(m:Vars)(op2:CmpOp)(e3:Expr)(Q:D->Sto->Prop)(d2 d3:D):Bool->Sto->Prop:=fun b σ=>if b=true then r m σ (.E e3 (j1a Γ op2 Q d2)) else Q d3 σ
noncomputable def kE2t (Γ:Cfg)(r:RunT)(m:Vars)(op2:CmpOp)(e3:Expr)(Q:D->Sto->Prop)(d2:D):D->Sto->Prop:=fun d3 σ=>wK Γ (kE2b Γ r m op2 e3 Q d2 d3) d3 σ
noncomputable def kE2a (Γ:Cfg)(r:RunT)(m:Vars)(op op2:CmpOp)(e3:Expr)(Q:D->Sto->Prop)(d1:D):D->Sto->Prop:=fun d2 σ=>j05 Γ op (kE2t Γ r m op2 e3 Q d2) d1 d2 σ
noncomputable def kE2 (Γ:Cfg)(r:RunT)(m:Vars)(op op2:CmpOp)(e2 e3:Expr)(Q:D->Sto->Prop):D->Sto->Prop:=fun d1 σ=>r m σ (.E e2 (kE2a Γ r m op op2 e3 Q d1))
noncomputable def kMth (Γ:Cfg)(d:D)(Q:D->Sto->Prop):List D->Sto->Prop:=fun ds σ=>haltA Γ σ (.builtin "list.append") (d::ds) Q
inductive ApAt (Γ:Cfg)(r:RunT)(m:Vars)(as:List Expr)(Q:D->Sto->Prop)(d:D)(σ:Sto):Prop
 | mk (sd:SD) (e:d=sd.d) (hL:sd.isL=true) (hi:sd.inv σ) (h:r m σ (.A as (kMth Γ d Q))):ApAt Γ r m as Q d σ
noncomputable def kApp (Γ:Cfg)(r:RunT)(m:Vars)(as:List Expr)(Q:D->Sto->Prop):D->Sto->Prop:=fun d σ=>Sp (ApAt Γ r m as Q d σ)
noncomputable abbrev ItQ:=List Vars->(Sto->Prop)->Sto->Prop
inductive RgAt (x:Str)(Q:ItQ)(n:Int)(σ:Sto):Prop
 | mk (lo: -(2^62)<=n) (hi:n<2^62) (q:Q ((List.range n.toNat).map fun (i:Nat)=>[(x,D.int (i:Int))]) (fun _=>True) σ):RgAt x Q n σ
inductive ZpAt (x y:Str)(Q:ItQ)(d1 d2:D)(σ:Sto):Prop
 | mk (α β:Type) (sd1 sd2:SD) (is:List α) (js:List β) (f1:α->D) (f2:β->D) (e1:d1=sd1.d) (e2:d2=sd2.d) (l1:sd1.ds=is.map f1) (l2:sd2.ds=js.map f2) (i1:sd1.inv σ) (i2:sd2.inv σ)
   (q:Q ((is.zip js).map fun p=>[(y,f2 p.2),(x,f1 p.1)]) (fun σ'=>sd1.inv σ'/\sd2.inv σ') σ):ZpAt x y Q d1 d2 σ
noncomputable def kIv (Γ:Cfg)(m:Vars)(tg:Expr)(Q:ItQ):D->Sto->Prop:=fun d σ=>haltIv Γ m σ d tg Q
noncomputable def kRg (x:Str)(Q:ItQ):D->Sto->Prop:=fun d σ=>match d with
 | .int n=>Sp (RgAt x Q n σ)
 | d=>Sp (∃n:Int,d=.int n/\RgAt x Q n σ)
noncomputable def kZp2 (x y:Str)(Q:ItQ)(d1:D):D->Sto->Prop:=fun d2 σ=>Sp (ZpAt x y Q d1 d2 σ)
noncomputable def kZp (r:RunT)(m:Vars)(x y:Str)(e:Expr)(Q:ItQ):D->Sto->Prop:=fun d1 σ=>r m σ (.E e (kZp2 x y Q d1))
noncomputable abbrev kTn (Γ:Cfg)(m:Vars)(e:Expr)(Z:List D->Sto->Prop):ItQ:=match Γ with| ⟨_,_,_,_,k,_,c,A,X,env,fr⟩=>Turns c A env m (cS e) (cG e).ifs (eL e) Z
noncomputable abbrev kLp (Γ:Cfg)(m:Vars)(b:List Stmt)(N:Vars->Sto->Prop)(R:D->Sto->Prop):ItQ:=match Γ with| ⟨_,_,_,_,k,_,c,A,X,env,fr⟩=>Loop c A env m b N R X
noncomputable def kRest (r:RunT)(ss:List Stmt)(N:Vars->Sto->Prop)(R:D->Sto->Prop):Vars->Sto->Prop:=fun m σ=>r m σ (.X ss N R)
noncomputable abbrev kWS (Γ:Cfg)(ss:List Stmt)(N:Vars->Sto->Prop)(R:D->Sto->Prop):Vars->Sto->Prop:=fun m σ=>match Γ with| ⟨_,_,_,_,k,_,c,A,X,env,fr⟩=>WS c A fr env m σ ss N R X
noncomputable def kAsg (r:RunT)(m:Vars)(x:Str)(ss:List Stmt)(N:Vars->Sto->Prop)(R:D->Sto->Prop):D->Sto->Prop:=fun d σ=>r ((x,d)::m) σ (.X ss N R)
noncomputable def kExp (r:RunT)(m:Vars)(ss:List Stmt)(N:Vars->Sto->Prop)(R:D->Sto->Prop):D->Sto->Prop:=fun _ σ=>r m σ (.X ss N R)
noncomputable def kIf (r:RunT)(m:Vars)(a b:List Stmt)(N:Vars->Sto->Prop)(R:D->Sto->Prop):Bool->Sto->Prop:=fun t σ=>if t=true then r m σ (.S a N R) else r m σ (.S b N R)
/-! one step-/
noncomputable def j0x (Γ:Cfg)(m:Vars)(σ:Sto)(x:Str)(Q:D->Sto->Prop)(z:Prop):Prop:=
 bB (odd x) z (bB (isVar (Γ.sc.names.lookup x)) (oO (m.lookup x) (fun d=>Q d σ) z)
  (bB (j04 (Γ.sc.names.lookup x)) (oO (Γ.gs.lookup x) (fun i=>Q (.int i) σ) (oO (Γ.bs.lookup x) (fun v=>oO (asTy v) (fun T=>Q (.typ T) σ) z) z)) z))
noncomputable def wL (σ:Sto)(k:Const)(Q:D->Sto->Prop)(z:Prop):Prop:=
 match k with
 | .int i=>Q (.int i) σ
 | .str x=>Q (.str x) σ
 | .bool b=>Q (.bool b) σ
 | .none=>Q .none σ
 | _=>z
noncomputable def wM (Γ:Cfg)(r:RunT)(m:Vars)(σ:Sto)(g:Str)(args:List Expr)(Q:D->Sto->Prop)(z:Prop):Prop:=
 bB (jc args&&(j04 (Γ.sc.names.lookup g)&& !odd g)) (bB (isDef Γ.B g) (r m σ (.A args (kDef Γ g Q)))
  (oO (Γ.bs.lookup g) (fun v=>bB (isBT v) (r m σ (.A args (kBlt Γ v Q))) z) z)) z
noncomputable def j0y (Γ:Cfg)(r:RunT)(m:Vars)(σ:Sto)(f:Expr)(args:List Expr)(pos:Pos)(Q:D->Sto->Prop)(z:Prop):Prop:=
 oO (asNm f) (fun g=>wM Γ r m σ g.1 args Q z) (oO (asAt f) (fun a=>bB (a.1==("append":Str)&&((asNm (eL f)).isSome&&(jc args&&((a.2.endLine==pos.line)&&decide (args.length<30))))) (r m σ (.E (eL f) (kApp Γ r m args Q))) z) z)
noncomputable def stCmp (Γ:Cfg)(r:RunT)(m:Vars)(σ:Sto)(l:Expr)(ops:List CmpOp)(es:List Expr)(Q:D->Sto->Prop)(z:Prop):Prop:=
 match ops with
 | [op]=>bB (es.length==1&& !behindInMarks op (hE es)) (r m σ (.E l (kCmp Γ r m op (hE es) Q))) z
 | [op,op2]=>bB (es.length==2&& !behindInMarks op2 (hE es.tail)) (r m σ (.E l (kE2 Γ r m op op2 (hE es) (hE es.tail) Q))) z
 | _=>z
noncomputable def j0z (Γ:Cfg)(r:RunT)(m:Vars)(σ:Sto)(l:Expr)(ops:List CmpOp)(es:List Expr)(Q:Bool->Sto->Prop)(z:Prop):Prop:=
 match ops with
 | [op]=>bB (es.length==1&& !behindInMarks op (hE es)) (r m σ (.E l (kCmp Γ r m op (hE es) (kTru Γ Q)))) z
 | [op,op2]=>bB (es.length==2&& !behindInMarks op2 (hE es.tail)) (r m σ (.E l (kC2 Γ r m op op2 (hE es) (hE es.tail) Q))) z
 | _=>z
noncomputable def stE (Γ:Cfg)(r:RunT)(m:Vars)(σ:Sto)(e:Expr)(Q:D->Sto->Prop)(z:Prop):Prop:=
 match e with
 | .Name x _=>j0x Γ m σ x Q z
 | .Constant k _ _=>wL σ k Q z
 | .BinOp _ op _ _=>r m σ (.E (eL e) (kBin Γ r m op (eR e) Q))
 | .UnaryOp op _ _=>r m σ (.E (eL e) (kUn Γ op Q))
 | .Compare _ ops _ _=>stCmp Γ r m σ (eL e) ops (eS e) Q z
 | .BoolOp op _ _=>r m σ (.Bs op (eS e) Q)
 | .Call _ _ kws pos=>bB kws.isEmpty (j0y Γ r m σ (eL e) (eS e) pos Q z) z
 | .Subscript _ _ _=>bB (j19 (eR e)) z (r m σ (.E (eL e) (kSub Γ r m (eL e) (eR e) Q)))
 | .List _ _=>r m σ (.A (eS e) (kLst Q))
 | .Tuple _ _ _=>r m σ (.A (eS e) (kTup Q))
 | .ListComp _ _ _ _=>bB (cOk Γ.sc e) (r m σ (.I (cG e).iter (cG e).target (kTn Γ m e (QL Q)))) z
 | _=>z
noncomputable def stT (Γ:Cfg)(r:RunT)(m:Vars)(σ:Sto)(e:Expr)(Q:Bool->Sto->Prop)(z:Prop):Prop:=
 match e with
 | .UnaryOp op _ _=>bB (op==.Not) (r m σ (.T (eL e) (kNot Q))) z
 | .BoolOp op _ _=>r m σ (.Ts op (eS e) Q)
 | .Compare _ ops _ _=>j0z Γ r m σ (eL e) ops (eS e) Q z
 | .IfExp _ _ _ _=>z
 | _=>r m σ (.E e (kTru Γ Q))
noncomputable def stI1 (r:RunT)(m:Vars)(σ:Sto)(tg:Expr)(T:String)(as:List Expr)(Q:ItQ)(z:Prop):Prop:=
 oO (asNm tg) (fun x=>bB (decide (T="range")&&as.length==1) (r m σ (.E (hE as) (kRg x.1 Q))) z)
  (bB (tag tg==6) (two (eS tg) (fun x y=>bB (decide (T="zip")&&as.length==2) (r m σ (.E (hE as) (kZp r m x y (hE as.tail) Q))) z) z) z)
noncomputable def stI (Γ:Cfg)(r:RunT)(m:Vars)(σ:Sto)(it tg:Expr)(Q:ItQ)(z:Prop):Prop:=
 bB (tag it==7) (oO (asNm (eL it)) (fun g=>bB ((eK it).isEmpty&&(jc (eS it)&&(j04 (Γ.sc.names.lookup g.1)&& !odd g.1))) (oO (Γ.bs.lookup g.1) (fun v=>oO (asTy v) (fun T=>stI1 r m σ tg T (eS it) Q z) z) z) z) z) z
noncomputable def stAsg (Γ:Cfg)(r:RunT)(m:Vars)(σ:Sto)(x:Str)(p:Pos)(v:Expr)(ss:List Stmt)(N:Vars->Sto->Prop)(R:D->Sto->Prop)(z:Prop):Prop:=
 bB (isLC v) (bB (kd (Γ.sc.names.lookup x)==2) (r m σ (.E v (kAsg r m x ss N R)))
    (bB (wD Γ.sc (cS v) x p v.pos&&cOk Γ.sc v) (r m σ (.I (cG v).iter (cG v).target (kTn Γ m v (QL (kAsg r m x ss N R))))) z))
  (bB (wJ v) z (bB (isLoc (Γ.sc.names.lookup x)) (r m σ (.E v (kAsg r m x ss N R))) z))
noncomputable def stS (Γ:Cfg)(r:RunT)(m:Vars)(σ:Sto)(s:Stmt)(ss:List Stmt)(N:Vars->Sto->Prop)(R:D->Sto->Prop)(z:Prop):Prop:=
 match s with
 | .Return v _=>bB v.isSome (r m σ (.E (sE s) R)) z
 | .Assign ts _ _=>bB (ts.length==1) (oO (asNm (hE ts)) (fun x=>stAsg Γ r m σ x.1 x.2 (sE s) ss N R z) z) z
 | .If _ _ _ _=>r m σ (.T (sE s) (kIf r m (sA s) (sB s) (kRest r ss N R) R))
 | .For _ _ _ o _=>bB (o.isEmpty&&(Γ.f&& !j03 (sE s))) (r m σ (.I (sE s) (sT s) (kLp Γ m (sA s) (kWS Γ ss N R) R))) z
 | .Expr _ _=>bB (wJ (sE s)) z (r m σ (.E (sE s) (kExp r m ss N R)))
 | _=>z
noncomputable def step (Γ:Cfg)(r:RunT):RunT:=fun m σ j=>
 match j with
 | .E e Q=>stE Γ r m σ e Q (Ub Γ m σ e Q)
 | .T e Q=>stT Γ r m σ e Q (j16 Γ m σ e Q)
 | .A es Q=>bB es.isEmpty (Q [] σ) (bB (jc es) (r m σ (.E (hE es) (kArg r m es.tail Q))) (haltAr Γ m σ es Q))
 | .S ss N R=>bB ss.isEmpty (N m σ) (stS Γ r m σ (hS ss) ss.tail N R (j17 Γ m σ (hS ss) (kWS Γ ss.tail N R) R))
 | .X ss N R=>bB (atIf ss) (haltS Γ m σ ss N R) (r m σ (.S ss N R))
 | .Ts op es Q=>(match op with
  | .And=>bB es.isEmpty (Q true σ) (r m σ (.T (hE es) (kAnd r m es.tail Q)))
  | .Or=>bB es.isEmpty (Q false σ) (r m σ (.T (hE es) (kOr r m es.tail Q))))
 | .Bs op es Q=>bB es.isEmpty (haltBs Γ m σ op es Q) (bB es.tail.isEmpty (r m σ (.E (hE es) Q)) (match op with
   | .And=>r m σ (.E (hE es) (kAndE Γ r m es.tail Q))
   | .Or=>r m σ (.E (hE es) (kOrE Γ r m es.tail Q))))
 | .I it tg Q=>stI Γ r m σ it tg Q (r m σ (.E it (kIv Γ m tg Q)))
noncomputable def run (Γ:Cfg):Nat->RunT
 | 0=>Job.stop Γ
 | n+1=>step Γ (run Γ n)
/-! the evaluation is sound-/
noncomputable def Snd (Γ:Cfg)(r:RunT):Prop:=∀m σ j,r m σ j->j.W Γ m σ
theorem bB.use {b:Bool}{p z R:Prop}(h:bB b p z)(k:b=true->p->R)(kz:b=false->z->R):R:=by
 cases b with
 | true=>exact k rfl h
 | false=>exact kz rfl h
theorem oO.use {α:Type}{o:Option α}{f:α->Prop}{z R:Prop}(h:oO o f z)(k:∀a,o=some a->f a->R)(kz:z->R):R:=by
 cases o with
 | none=>exact kz h
 | some a=>exact k a rfl h
theorem wN {b:Bool}{P Q R:Prop}(h:if b=true then P else Q)(h1:b=true->P->R)(h2:Q->R):R:=by
 cases b with
 | true=>exact h1 rfl h
 | false=>exact h2 h
theorem Yh {b:Bool}{P Q P' Q':Prop}(h:if b=true then P else Q)(h1:P->P')(h2:Q->Q'):if b=true then P' else Q':=by
 cases b with
 | true=>exact h1 h
 | false=>exact h2 h
theorem Uv {p:Prop} [Decidable p] {P Q R:Prop}(h:if p then P else Q)(h1:p->P->R)(h2:Q->R):R:=
 if q:p then h1 q ((if_pos q).mp h) else h2 ((if_neg q).mp h)
theorem and2 {a b:Bool}(h:(a&&b)=true):a=true/\b=true:=Bool.and_eq_true_iff.mp h
theorem nott {a:Bool}(h:(!a)=true):a=false:=by cases a<;>first| rfl| contradiction
theorem Uw {c:Bool}{b:Int}(e:(c&&(decide (0<b)&&decide (b.natAbs<2^64)))=true):0<b/\b.natAbs<2^64:=
 ⟨of_decide_eq_true (and2 (and2 e).2).1,of_decide_eq_true (and2 (and2 e).2).2⟩
theorem yE {x:Str}(h:odd x=false):(x==("__debug__":Str))=false/\(x==("__classdict__":Str))=false:=Bool.or_eq_false_iff.mp h
theorem ns {α:Type}{x:α}{P:Prop}(h:none=some x):P:=nomatch h
theorem ft {P:Prop}(h:false=true):P:=nomatch h
theorem wO {v:Expr}{t:Option Expr}{l:Nat}{env:Env}(h:wJ v=false):swapsWith v t l env=pure false:=by
 cases v<;>first| rfl| exact ft h.symm
theorem wP {it:Expr}{env:Env}(h:j03 it=false)(x:Value):foldedSetIterable it env x=pure x:=by
 cases it<;>first| rfl| exact ft h.symm
theorem JW {e:Expr}{x:Str × Pos}(h:asNm e=some x):e=.Name x.1 x.2:=by
 cases e<;>first| exact ns h| (obtain rfl:=Option.some.inj h;rfl)
theorem j1b {e:Expr}{x:Str × Pos}(h:asAt e=some x):e=.Attribute (eL e) x.1 x.2:=by
 cases e<;>first| exact ns h| (obtain rfl:=Option.some.inj h;rfl)
theorem j1c {e:Expr}(h:isLC e=true):e=.ListComp (eL e) (cP e).1 (cS e) e.pos:=by
 cases e<;>first| exact ft h| rfl
theorem tup_eq {e:Expr}(h:(tag e==6)=true):∃k p,e=.Tuple (eS e) k p:=by
 cases e<;>first| exact ft h| exact ⟨_,_,rfl⟩
theorem j1d {e:Expr}(h:(tag e==7)=true):∃p,e=.Call (eL e) (eS e) (eK e) p:=by
 cases e<;>first| exact ft h| exact ⟨_,rfl⟩
theorem wQ {v:Value}{T:String}(h:asTy v=some T):v=.type T:=by
 cases v<;>first| exact ns h| (obtain rfl:=Option.some.inj h;rfl)
theorem Ux {es:List Expr}(h:(es.length==1)=true):es=[hE es]:=by
 match es,h with
 | [e],_=>rfl
theorem Uy {es:List Expr}(h:(es.length==2)=true):es=[hE es,hE es.tail]:=by
 match es,h with
 | [e,f],_=>rfl
theorem uM {c:Cx}{B:List Stmt}{bs:List (Str × Value)}{f:Str}(T:Tp c B bs)(h:isDef B f=true):Dfn c f:=by
 obtain ⟨s,hs,e⟩:=List.any_eq_true.mp h
 cases q:jT s with
 | none=>rw [q] at e;contradiction
 | some d=>rw [q] at e;exact Dfn.of T (List.mem_filterMap.mpr ⟨s,hs,q⟩) (eq_of_beq e)
theorem Uc {o:Option NameKind}{k:Nat}(h:(kd o==k)=true):match k with| 1=>o=some .local| 2=>o=some .cell| 3=>o=some .free| 4=>o=some .globalImplicit| _=>True:=by
 cases eq_of_beq h
 cases o with
 | none=>trivial
 | some k=>cases k<;>first| rfl| trivial
theorem or2 {a b:Bool}(h:(a|| b)=true):a=true\/b=true:=Bool.or_eq_true_iff.mp h
theorem j06 {env:Env}{sc:Scope}{x:Str}(s:env.scope=sc)(h:isLoc (sc.names.lookup x)=true):env.kindOf x=some .local\/env.kindOf x=some .cell:=
 (or2 h).imp (fun q=>ja s (Uc q)) fun q=>ja s (Uc q)
theorem yQ {env:Env}{sc:Scope}{x:Str}(s:env.scope=sc)(h:j04 (sc.names.lookup x)=true):env.kindOf x=some .globalImplicit:=ja s (Uc h)
section
variable {c:Cx} {A:Around} {fr:List Addr} {env:Env} {X:Addr->Sto->Prop} {m:Vars} {σ:Sto}
theorem WE.to {e:Expr}{Q Q':D->Sto->Prop}(h:WE c A fr env m σ e Q X)(k:∀d σ,Q d σ->Q' d σ):WE c A fr env m σ e Q' X:=h.mono k fun _ _ x=>x
theorem WT.to {e:Expr}{Q Q':Bool->Sto->Prop}(h:WT c A fr env m σ e Q X)(k:∀d σ,Q d σ->Q' d σ):WT c A fr env m σ e Q' X:=fun s ok fm=>(h s ok fm).mono k fun _ _ x=>x
theorem WA.to {es:List Expr}{Q Q':List D->Sto->Prop}(h:WA c A fr env m σ es Q X)(k:∀d σ,Q d σ->Q' d σ):WA c A fr env m σ es Q' X:=fun p s ok fm=>(h p s ok fm).mono k fun _ _ x=>x
theorem WB.to {t:Value->Value->Sem Value}{d1 d2:D}{Q Q':D->Sto->Prop}(h:WB c A fr σ t d1 d2 Q X)(k:∀d σ,Q d σ->Q' d σ):WB c A fr σ t d1 d2 Q' X:=fun v1 v2 s ok x1 x2=>(h v1 v2 s ok x1 x2).mono k fun _ _ y=>y
theorem WTr.to {d:D}{Q Q':Bool->Sto->Prop}(h:WTr c A fr σ d Q X)(k:∀b σ,Q b σ->Q' b σ):WTr c A fr σ d Q' X:=fun v s ok x=>(h v s ok x).mono k fun _ _ y=>y
theorem WS.toN {ss:List Stmt}{J N:Vars->Sto->Prop}{R:D->Sto->Prop}(h:WS c A fr env m σ ss J R X)(k:∀m' σ',J m' σ'->N m' σ'):WS c A fr env m σ ss N R X:=fun s ok fm=>(h s ok fm).mono (fun _ _ q=>QO.mono k q) fun _ _ x=>x
theorem WIt.to {it tg:Expr}{Q Q':ItQ}(h:WIt c A fr env m σ it tg Q X)(k:∀vs I σ,Q vs I σ->Q' vs I σ):WIt c A fr env m σ it tg Q' X:=fun s ok fm=>
 wpAny_mono (h s ok fm) (fun x s1 h1=>wpAny_mono h1 (fun y s2 ⟨I,wr,vals,Inv,St,Mid,σ',e,p,ok,okw,hn,fmw,src,st,inv,q⟩=>⟨I,wr,vals,Inv,St,Mid,σ',e,p,ok,okw,hn,fmw,src,st,inv,k _ _ _ q⟩) fun _ _ x=>x) fun _ _ x=>x
theorem Turns.to {scope:Scope}{ifs:List Expr}{elt:Expr}{Z Z':List D->Sto->Prop}{vals:List Vars}{I:Sto->Prop}(h:Turns c A env m scope ifs elt Z vals I σ)(k:∀ds σ,Z ds σ->Z' ds σ):Turns c A env m scope ifs elt Z' vals I σ:=
 match h with
 | ⟨hk,L,h0,hinv,step,fin⟩=>⟨hk,L,h0,hinv,step,fun ds σ' q=>k _ _ (fin ds σ' q)⟩
theorem QL.to {Q Q':D->Sto->Prop}{ds:List D}(h:QL Q ds σ)(k:∀d σ,Q d σ->Q' d σ):QL Q' ds σ:=h.imp (k _ _) fun h a ha=>k _ _ (h a ha)
theorem WE.nVar {sc:Scope}{x:Str}{pos:Pos}{d:D}{Q:D->Sto->Prop}(s:env.scope=sc)(o:odd x=false)(hv:m.lookup x=some d)(hk:isVar (sc.names.lookup x)=true)(h:Q d σ):WE c A fr env m σ (.Name x pos) Q X:=
 (or2 hk).elim (fun q=>WE.nLocal hv (ja s (Uc q)) h (yE o).1) fun q=>(or2 q).elim (fun q=>WE.nCell hv (ja s (Uc q)) h (yE o).1) fun q=>WE.nFree hv (ja s (Uc q)) h (yE o).1 (yE o).2
theorem WE.callBT {B:List Stmt}{bs:List (Str × Value)}(T:Tp c B bs){f:Str}{fp pos:Pos}{args:List Expr}{v:Value}{Q:D->Sto->Prop}(hk:env.kindOf f=some .globalImplicit)(hb:bs.lookup f=some v)(hv:isBT v=true)
  (h:WA c A fr env m σ args (fun ds σ1=>At1 c A fr σ1 v ds Q X) X) (hp:jc args=true) (hdb:(f==("__debug__":Str))=false):WE c A fr env m σ (.Call (.Name f fp) args [] pos) Q X:=by
 cases v<;>first| exact ft hv| exact WE.callI T hk hb h hp hdb| exact WE.callY T hk hb h hp hdb
end
section
variable {Γ:Cfg} {r:RunT} {m:Vars} {σ:Sto}
theorem j07 {op:Operator}{cst:Bool}{Q:D->Sto->Prop}{d1 d2:D}(h:doBin Γ op cst Q d1 d2 σ):WB Γ.c Γ.A Γ.fr σ (binaryOp op) d1 d2 Q Γ.X:=by
 cases d1<;>first| exact Sp.h h| skip
 cases d2<;>first| exact Sp.h h| skip
 cases op<;>first| exact Sp.h h| exact WB.add h| exact WB.sub h| exact wN h (fun e p=>WB.modE (Uw e).1 (Uw e).2 p) Sp.h| exact wN h (fun e p=>WB.fdivE (Uw e).1 (Uw e).2 p) Sp.h
theorem JK {op:CmpOp}{Q:D->Sto->Prop}{d1 d2:D}(h:j05 Γ op Q d1 d2 σ):WB Γ.c Γ.A Γ.fr σ (compareOp op) d1 d2 Q Γ.X:=by
 cases d1<;>first| exact Sp.h h| skip
 cases d2<;>first| exact Sp.h h| skip
 cases op<;>first| exact Sp.h h| exact WB.lt h| exact WB.le h| exact WB.gt h| exact WB.ge h| exact WB.eqI h| exact WB.neI h
theorem j1e {op:UnaryOp}{Q:D->Sto->Prop}{d:D}(h:doUn Γ op Q d σ):WU Γ.c Γ.A Γ.fr σ (unaryOp op) d Q Γ.X:=by
 cases d<;>first| exact Sp.h h| (cases op<;>first| exact Sp.h h| exact WU.notB h| exact WU.neg h)
theorem JL {Q Q':Bool->Sto->Prop}{d:D}(h:wK Γ Q d σ)(k:∀b σ,Q b σ->Q' b σ):WTr Γ.c Γ.A Γ.fr σ d Q' Γ.X:=by
 cases d<;>first| exact WTr.to (Sp.h h) k| exact WTr.bool (k _ _ h)
theorem wR (g:Gd Γ.B Γ.bs Γ.gs Γ.sc Γ.k Γ.f Γ.c Γ.A Γ.env){x:Str}{p:Pos}{Q:D->Sto->Prop}(h:j0x Γ m σ x Q (Ub Γ m σ (.Name x p) Q)):WE Γ.c Γ.A Γ.fr Γ.env m σ (.Name x p) Q Γ.X:=
 bB.use h (fun _=>Sp.h) fun o h=>bB.use h (fun hk h=>oO.use h (fun d hd h=>WE.nVar g.s o hd hk h) Sp.h)
  fun _ h=>bB.use h (fun hk h=>oO.use h (fun i hi h=>WE.gInt g.T g.G (yQ g.s hk) hi h (yE o).1) fun h=>oO.use h (fun v hv h=>oO.use h (fun T hT h=>by
   cases wQ hT
   exact WE.nType g.T.good (yQ g.s hk) (g.T.bn _ _ hv).1 (g.T.bn _ _ hv).2 h (yE o).1) Sp.h) Sp.h) fun _=>Sp.h
theorem UX {k:Const}{j:Nat}{p:Pos}{Q:D->Sto->Prop}(h:wL σ k Q (Ub Γ m σ (.Constant k j p) Q)):WE Γ.c Γ.A Γ.fr Γ.env m σ (.Constant k j p) Q Γ.X:=by
 cases k<;>first| exact Sp.h h| exact WE.kInt h| exact WE.kStr h| exact WE.kBool h| exact WE.kNone h
theorem UY (g:Gd Γ.B Γ.bs Γ.gs Γ.sc Γ.k Γ.f Γ.c Γ.A Γ.env)(H:Snd Γ r){f:Str}{fp:Pos}{args:List Expr}{p:Pos}{Q:D->Sto->Prop}(h:wM Γ r m σ f args Q (Ub Γ m σ (.Call (.Name f fp) args [] p) Q)):WE Γ.c Γ.A Γ.fr Γ.env m σ (.Call (.Name f fp) args [] p) Q Γ.X:=
 bB.use h (fun e h=>
  have e1:=and2 e
  have e2:=and2 e1.2
  have od:=(yE (nott e2.2)).1
  have hk:=yQ g.s e2.1
  bB.use h (fun e3 h=>WE.callN g.T g.r hk (uM g.T e3) ((H _ _ _ h).to fun ds σ q=>q.h) e1.1 od) fun _ h=>oO.use h (fun v hv h=>bB.use h (fun hb h=>WE.callBT g.T hk hv hb ((H _ _ _ h).to fun ds σ q=>q.h) e1.1 od) fun _=>Sp.h) Sp.h) fun _=>Sp.h
theorem app_ok (H:Snd Γ r){o:Expr}{ap:Pos}{args:List Expr}{p:Pos}{Q:D->Sto->Prop}(ho:(asNm o).isSome=true)(hp:jc args=true)(hl:(ap.endLine==p.line)=true)(hn:decide (args.length<30)=true)(h:r m σ (.E o (kApp Γ r m args Q))):WE Γ.c Γ.A Γ.fr Γ.env m σ (.Call (.Attribute o "append" ap) args [] p) Q Γ.X:=by
 refine Exists.elim (Option.isSome_iff_exists.mp ho) fun x hx=> ?_
 exact WE.methL F.slot_list_append (by with_unfolding_all rfl) ((H _ _ _ h).to fun d σ q=>match q.h with
   | ⟨sd,e,hL,hi,q⟩=>⟨sd,e,hL,hi,(H _ _ _ q).to fun ds σ q=>q.h⟩) hp (fun w=>by rw [JW hx];rfl) hl hn
theorem wS (g:Gd Γ.B Γ.bs Γ.gs Γ.sc Γ.k Γ.f Γ.c Γ.A Γ.env)(H:Snd Γ r){f:Expr}{args:List Expr}{p:Pos}{Q:D->Sto->Prop}(h:j0y Γ r m σ f args p Q (Ub Γ m σ (.Call f args [] p) Q)):WE Γ.c Γ.A Γ.fr Γ.env m σ (.Call f args [] p) Q Γ.X:=
 oO.use h (fun x e h=>by
  cases JW e
  exact UY g H h) fun h=>oO.use h (fun a e h=>bB.use h (fun e1 h=>by
   have e1:=and2 e1
   have e2:=and2 e1.2
   have e3:=and2 e2.2
   have e4:=and2 e3.2
   rw [j1b e,eq_of_beq e1.1]
   exact app_ok H e2.1 e3.1 e4.1 e4.2 h) fun _=>Sp.h) Sp.h
theorem j08 (H:Snd Γ r){l:Expr}{ops:List CmpOp}{es:List Expr}{p:Pos}{Q:D->Sto->Prop}(h:stCmp Γ r m σ l ops es Q (Ub Γ m σ (.Compare l ops es p) Q)):WE Γ.c Γ.A Γ.fr Γ.env m σ (.Compare l ops es p) Q Γ.X:=by
 match ops,h with
 | [],h=>exact Sp.h h
 | [op],h=>exact bB.use h (fun e h=>by
   have e1:=and2 e
   exact (Ux e1.1)▸WE.compare ((H _ _ _ h).to fun d1 σ1 q=>(H _ _ _ q).to fun d2 σ2 q=>JK q) (nott e1.2)) fun _=>Sp.h
 | [op,op2],h=>exact bB.use h (fun e h=>by
   have e1:=and2 e
   exact (Uy e1.1)▸WE.compare2 ((H _ _ _ h).to fun d1 σ1 q=>(H _ _ _ q).to fun d2 σ2 q=>WB.to (JK q) fun d3 σ3 q=>JL q fun b σ4 q=>Yh q (fun q=>(H _ _ _ q).to fun d4 σ5 q=>JK q) id) (nott e1.2)) fun _=>Sp.h
 | _::_::_::_,h=>exact Sp.h h
theorem wT (H:Snd Γ r){l:Expr}{ops:List CmpOp}{es:List Expr}{p:Pos}{Q:Bool->Sto->Prop}(h:j0z Γ r m σ l ops es Q (j16 Γ m σ (.Compare l ops es p) Q)):WT Γ.c Γ.A Γ.fr Γ.env m σ (.Compare l ops es p) Q Γ.X:=by
 have tr:∀{Q:Bool->Sto->Prop} (d:D) (σ:Sto),kTru Γ Q d σ->WTr Γ.c Γ.A Γ.fr σ d Q Γ.X:=fun d σ q=>JL q fun _ _ q=>q
 match ops,h with
 | [],h=>exact Sp.h h
 | [op],h=>exact bB.use h (fun e h=>by
   have e1:=and2 e
   exact (Ux e1.1)▸WT.compare ((H _ _ _ h).to fun d1 σ1 q=>(H _ _ _ q).to fun d2 σ2 q=>WB.to (JK q) tr) (nott e1.2)) fun _=>Sp.h
 | [op,op2],h=>exact bB.use h (fun e h=>by
   have e1:=and2 e
   exact (Uy e1.1)▸WT.compare2 ((H _ _ _ h).to fun d1 σ1 q=>(H _ _ _ q).to fun d2 σ2 q=>WB.to (JK q) fun d3 σ3 q=>JL q fun b σ4 q=>Yh q (fun q=>(H _ _ _ q).to fun d4 σ5 q=>WB.to (JK q) tr) id) (nott e1.2)) fun _=>Sp.h
 | _::_::_::_,h=>exact Sp.h h
theorem gen_eq {gs:List Comprehension}(h1:(gs.length==1)=true)(h2:((gs.headD ⟨no0,no0,[],0⟩).is_async==0)=true):gs=[⟨(gs.headD ⟨no0,no0,[],0⟩).target,(gs.headD ⟨no0,no0,[],0⟩).iter,(gs.headD ⟨no0,no0,[],0⟩).ifs,0⟩]:=by
 match gs,h1,h2 with
 | [⟨tg,iter,ifs,a⟩],_,h2=>rw [show a=0 from eq_of_beq h2];rfl
theorem j0A {sc:Scope}{e:Expr}(h:cOk sc e=true):(cP e).1=[⟨(cG e).target,(cG e).iter,(cG e).ifs,0⟩]/\Y0 (cS e)=true/\yd (cS e) sc=true/\j03 (cG e).iter=false:=
 have e1:=and2 h
 have e2:=and2 e1.2
 have e3:=and2 e2.2
 have e0:=and2 e1.1
 ⟨gen_eq e0.1 e0.2,e2.1,e3.1,nott e3.2⟩
theorem j1f (g:Gd Γ.B Γ.bs Γ.gs Γ.sc Γ.k Γ.f Γ.c Γ.A Γ.env)(H:Snd Γ r){e:Expr}{Q:D->Sto->Prop}(hl:isLC e=true)(hc:cOk Γ.sc e=true)(h:r m σ (.I (cG e).iter (cG e).target (kTn Γ m e (QL Q)))):WE Γ.c Γ.A Γ.fr Γ.env m σ e Q Γ.X:=by
 obtain ⟨h1,h2,h3,h4⟩:=j0A hc
 have t:=WE.comp (pos:=e.pos) (H _ _ _ h) h2 (uI g.s h3) (wP h4)
 rw [<-h1,<-j1c hl] at t
 exact t
theorem stE_ok (g:Gd Γ.B Γ.bs Γ.gs Γ.sc Γ.k Γ.f Γ.c Γ.A Γ.env)(H:Snd Γ r){e:Expr}{Q:D->Sto->Prop}(h:stE Γ r m σ e Q (Ub Γ m σ e Q)):WE Γ.c Γ.A Γ.fr Γ.env m σ e Q Γ.X:=by
 cases e<;>first| exact Sp.h h| exact wR g h| exact UX h| exact j08 H h| exact WE.boolop (H _ _ _ h)| exact WE.unary ((H _ _ _ h).to fun d σ q=>j1e q)| exact WE.binop ((H _ _ _ h).to fun d1 σ1 q=>(H _ _ _ q).to fun d2 σ2 q=>j07 q)| exact WE.list ((H _ _ _ h).to fun ds σ q=>Uv q (fun e q=>⟨Nat.le_trans e (by unfold sizeLine;decide),q.h⟩) Sp.h)| exact WE.tuple ((H _ _ _ h).to fun ds σ q=>Uv q (fun e q=>⟨Nat.le_trans e (by unfold sizeLine;decide),q⟩) Sp.h)| exact bB.use h (fun _=>Sp.h) fun _ h=>WE.sub ((H _ _ _ h).to fun d1 σ1 q=>(H _ _ _ q).to fun d2 σ2 q=>q.h)| skip
 ·exact bB.use h (fun e h=>j1f g H rfl e h) fun _=>Sp.h
 ·exact bB.use h (fun e h=>by
   cases List.isEmpty_iff.mp e
   exact wS g H h) fun _=>Sp.h
theorem JA (H:Snd Γ r){it tg:Expr}{Q:ItQ}(h:r m σ (.E it (kIv Γ m tg Q))):WIt Γ.c Γ.A Γ.fr Γ.env m σ it tg Q Γ.X:=WIt.of ((H _ _ _ h).to fun d σ q=>q.h)
theorem kRg_ok {x:Str}{Q:ItQ}{d:D}(h:kRg x Q d σ):∃n:Int,d=.int n/\-(2^62)<=n/\n<2^62/\Q ((List.range n.toNat).map fun (i:Nat)=>[(x,D.int (i:Int))]) (fun _=>True) σ:=by
 cases d<;>first| exact (Sp.h h).elim fun n q=>⟨n,q.1,q.2.1,q.2.2,q.2.3⟩| exact ⟨_,rfl,(Sp.h h).1,(Sp.h h).2,(Sp.h h).3⟩
theorem j1g (g:Gd Γ.B Γ.bs Γ.gs Γ.sc Γ.k Γ.f Γ.c Γ.A Γ.env)(H:Snd Γ r){f:Str}{fp p:Pos}{as:List Expr}{tg:Expr}{T:String}{Q:ItQ}(hk:Γ.env.kindOf f=some .globalImplicit)(hb:Γ.bs.lookup f=some (.type T))(hp:jc as=true)(od:(f==("__debug__":Str))=false)
  (h:stI1 r m σ tg T as Q (r m σ (.E (.Call (.Name f fp) as [] p) (kIv Γ m tg Q)))):WIt Γ.c Γ.A Γ.fr Γ.env m σ (.Call (.Name f fp) as [] p) tg Q Γ.X:=
 oO.use h (fun x hx h=>bB.use h (fun e h=>by
  have e1:=and2 e
  rw [of_decide_eq_true e1.1] at hb
  rw [Ux e1.2] at hp⊢
  rw [JW hx]
  exact WIt.range g.T g.r.2 hk hb ((H _ _ _ h).to fun d σ q=>kRg_ok q) hp od) fun _=>JA H)
 fun h=>bB.use h (fun ht h=>bB.use h (fun e h=>oO.use h (fun x hx h=>oO.use h (fun y hy h=>by
  obtain ⟨k,q,hq⟩:=tup_eq ht
  rw [Uy e,JW hx,JW hy] at hq
  exact hq▸bB.use h (fun e h=>by
   have e1:=and2 e
   rw [of_decide_eq_true e1.1] at hb
   rw [Uy e1.2] at hp⊢
   exact WIt.zipX g.T g.r.2 hk hb ((H _ _ _ h).to fun d1 σ1 q=>(H _ _ _ q).to fun d2 σ2 q=>match q.h with
    | ⟨α,β,sd1,sd2,is,js,f1,f2,e1,e2,l1,l2,i1,i2,q⟩=>⟨α,β,sd1,sd2,is,js,f1,f2,e1,e2,l1,l2,i1,i2,q⟩) hp od) fun _ h=>hq▸JA H h) (JA H)) (JA H)) fun _=>JA H) fun _=>JA H
theorem stI_ok (g:Gd Γ.B Γ.bs Γ.gs Γ.sc Γ.k Γ.f Γ.c Γ.A Γ.env)(H:Snd Γ r){it tg:Expr}{Q:ItQ}(h:stI Γ r m σ it tg Q (r m σ (.E it (kIv Γ m tg Q)))):WIt Γ.c Γ.A Γ.fr Γ.env m σ it tg Q Γ.X:=
 bB.use h (fun hc h=>oO.use h (fun f hf h=>bB.use h (fun e h=>oO.use h (fun v hv h=>oO.use h (fun T hT h=>by
  obtain ⟨p,hq⟩:=j1d hc
  have e1:=and2 e
  have e2:=and2 e1.2
  have e3:=and2 e2.2
  rw [wQ hT] at hv
  rw [JW hf,List.isEmpty_iff.mp e1.1] at hq
  rw [hq]
  refine j1g g H (yQ g.s e3.1) hv e2.1 (yE (nott e3.2)).1 ?_
  exact hq▸h) (JA H)) (JA H)) fun _=>JA H) (JA H)) fun _=>JA H
theorem stT_ok (g:Gd Γ.B Γ.bs Γ.gs Γ.sc Γ.k Γ.f Γ.c Γ.A Γ.env)(H:Snd Γ r){e:Expr}{Q:Bool->Sto->Prop}(h:stT Γ r m σ e Q (j16 Γ m σ e Q)):WT Γ.c Γ.A Γ.fr Γ.env m σ e Q Γ.X:=by
 cases e<;>first| exact Sp.h h| exact wT H h| exact WT.boolop (H _ _ _ h)| exact WT.plain ((H _ _ _ h).to fun d σ q=>JL q fun _ _ q=>q)| skip
 rename_i op x p
 exact bB.use h (fun e h=>by
  cases op<;>first| exact absurd e (by decide)| exact WT.not (H _ _ _ h)) fun _=>Sp.h
theorem j09 (g:Gd Γ.B Γ.bs Γ.gs Γ.sc Γ.k Γ.f Γ.c Γ.A Γ.env)(H:Snd Γ r){x:Str}{p p':Pos}{v:Expr}{ss:List Stmt}{N:Vars->Sto->Prop}{R:D->Sto->Prop}(h:stAsg Γ r m σ x p v ss N R (j17 Γ m σ (.Assign [.Name x p] v p') (kWS Γ ss N R) R)):W1 Γ.c Γ.A Γ.fr Γ.env m σ (.Assign [.Name x p] v p') (kWS Γ ss N R) R Γ.X:=
 bB.use h (fun hl h=>bB.use h (fun hk h=>by
   have t:=(H _ _ _ h).to (Q':=fun d σ'=>kWS Γ ss N R ((x,d)::m) σ') fun d σ q=>H _ _ _ q
   rw [j1c hl] at t⊢
   exact W1.assignK g.s t (Uc hk)) fun _ h=>bB.use h (fun e h=>by
   have e1:=and2 e
   obtain ⟨h1,h2,h3,h4⟩:=j0A e1.2
   have t:=W1.assignC (pos:=p') (R:=R) (N:=kWS Γ ss N R) g.s (WIt.to (H _ _ _ h) fun vs I σ q=>Turns.to q fun ds σ q=>q.to fun d σ q=>H _ _ _ q) h2 h3 e1.1 (wP h4)
   rw [<-h1,<-j1c hl] at t
   exact t) fun _=>Sp.h)
  fun _ h=>bB.use h (fun _=>Sp.h) fun e h=>bB.use h (fun e2 h=>W1.assign ((H _ _ _ h).to fun d σ q=>H _ _ _ q) (j06 g.s e2) (wO e)) fun _=>Sp.h
theorem stS_ok (g:Gd Γ.B Γ.bs Γ.gs Γ.sc Γ.k Γ.f Γ.c Γ.A Γ.env)(H:Snd Γ r){s:Stmt}{ss:List Stmt}{N:Vars->Sto->Prop}{R:D->Sto->Prop}(h:stS Γ r m σ s ss N R (j17 Γ m σ s (kWS Γ ss N R) R)):W1 Γ.c Γ.A Γ.fr Γ.env m σ s (kWS Γ ss N R) R Γ.X:=by
 cases s<;>first| exact Sp.h h| exact W1.ite ((H _ _ _ h).to fun b σ q=>Yh q (fun q=>WS.toN (H _ _ _ q) fun m' σ' q=>H _ _ _ q) fun q=>WS.toN (H _ _ _ q) fun m' σ' q=>H _ _ _ q)| exact bB.use h (fun _=>Sp.h) fun e h=>W1.expr ((H _ _ _ h).to fun d σ q=>H _ _ _ q) (wO e)| skip
 ·rename_i v p
  cases v with
  | none=>exact Sp.h h
  | some e=>exact W1.ret (H _ _ _ h)
 ·rename_i ts v p
  exact bB.use h (fun e h=>oO.use h (fun x hx h=>by
   rw [Ux e,JW hx] at h⊢
   exact j09 g H h) Sp.h) fun _=>Sp.h
 ·exact bB.use h (fun e h=>by
   have e1:=and2 e
   have e2:=and2 e1.2
   cases List.isEmpty_iff.mp e1.1
   exact W1.forL (g.fe e2.1) (H _ _ _ h) (wP (nott e2.2))) fun _=>Sp.h
theorem j1h (g:Gd Γ.B Γ.bs Γ.gs Γ.sc Γ.k Γ.f Γ.c Γ.A Γ.env)(H:Snd Γ r):Snd Γ (step Γ r):=fun m σ j h=>by
 cases j with
 | E e Q=>exact stE_ok g H h
 | T e Q=>exact stT_ok g H h
 | A es Q=>
  cases es with
  | nil=>exact WA.nil h
  | cons e es=>exact bB.use h (fun hp h=>WA.cons ((H _ _ _ h).to fun d σ q=>H _ _ _ q) hp) fun _=>Sp.h
 | S ss N R=>
  cases ss with
  | nil=>exact WS.nil h
  | cons s ss=>exact WS.cons (stS_ok g H h)
 | X ss N R=>exact bB.use h (fun _=>Sp.h) fun _ h=>H _ _ (.S ss N R) h
 | Ts op es Q=>
  cases op<;>cases es<;>first| exact WTs.nilAnd h| exact WTs.nilOr h| exact WTs.and ((H _ _ _ h).to fun b σ q=>Yh q (fun q=>H _ _ _ q) id)| exact WTs.or ((H _ _ _ h).to fun b σ q=>Yh q id fun q=>H _ _ _ q)
 | I it tg Q=>exact stI_ok g H h
 | Bs op es Q=>
  cases es with
  | nil=>exact Sp.h h
  | cons e es=>
   cases es with
   | nil=>exact WBs.one (H _ _ _ h)
   | cons e2 es=>
    cases op with
    | And=>exact WBs.and ((H _ _ _ h).to fun d σ q=>JL q fun b σ q=>Yh q (fun q=>H _ _ _ q) id)
    | Or=>exact WBs.or ((H _ _ _ h).to fun d σ q=>JL q fun b σ q=>Yh q id fun q=>H _ _ _ q)
theorem Yi (g:Gd Γ.B Γ.bs Γ.gs Γ.sc Γ.k Γ.f Γ.c Γ.A Γ.env):∀n,Snd Γ (run Γ n)
 | 0=>fun _ _ _ h=>Sp.h h
 | n+1=>j1h g (Yi g n)
end
section
variable {B:List Stmt} {bs:List (Str × Value)} {gs:List (Str × Int)} {sc:Scope} {k:Nat} {f:Bool} {c:Cx} {A:Around} {X:Addr->Sto->Prop} {env:Env} {fr:List Addr} {m:Vars} {σ:Sto}
theorem WE.go (g:Gd B bs gs sc k f c A env){e:Expr}{Q:D->Sto->Prop}(h:run ⟨B,bs,gs,sc,k,f,c,A,X,env,fr⟩ 1000 m σ (.E e (stop Q))):WE c A fr env m σ e Q X:=
 WE.to (Yi (Γ:=⟨B,bs,gs,sc,k,f,c,A,X,env,fr⟩) g _ _ _ _ h) fun _ _ q=>q.h
theorem WT.go (g:Gd B bs gs sc k f c A env){e:Expr}{Q:Bool->Sto->Prop}(h:run ⟨B,bs,gs,sc,k,f,c,A,X,env,fr⟩ 1000 m σ (.T e (stop Q))):WT c A fr env m σ e Q X:=
 WT.to (Yi (Γ:=⟨B,bs,gs,sc,k,f,c,A,X,env,fr⟩) g _ _ _ _ h) fun _ _ q=>q.h
theorem WA.go (g:Gd B bs gs sc k f c A env){es:List Expr}{Q:List D->Sto->Prop}(h:run ⟨B,bs,gs,sc,k,f,c,A,X,env,fr⟩ 1000 m σ (.A es (stop Q))):WA c A fr env m σ es Q X:=
 WA.to (Yi (Γ:=⟨B,bs,gs,sc,k,f,c,A,X,env,fr⟩) g _ _ _ _ h) fun _ _ q=>q.h
theorem WS.go (g:Gd B bs gs sc k f c A env){ss:List Stmt}{N:Vars->Sto->Prop}{R:D->Sto->Prop}(h:run ⟨B,bs,gs,sc,k,f,c,A,X,env,fr⟩ 1000 m σ (.S ss (uL N) (stop R))):WS c A fr env m σ ss N R X:=fun s ok fm=>
 (Yi (Γ:=⟨B,bs,gs,sc,k,f,c,A,X,env,fr⟩) g _ _ _ _ h s ok fm).mono (fun o σ q=>by cases o<;>exact Sp.h q) fun _ _ x=>x
theorem WS.goN (g:Gd B bs gs sc k f c A env){ss:List Stmt}{N:Vars->Sto->Prop}{R:D->Sto->Prop}(h:run ⟨B,bs,gs,sc,k,f,c,A,X,env,fr⟩ 1000 m σ (.S ss (uL N) R)):WS c A fr env m σ ss N R X:=WS.toN (Yi (Γ:=⟨B,bs,gs,sc,k,f,c,A,X,env,fr⟩) g _ _ _ _ h) fun _ _ q=>q.h
theorem WS.goK (g:Gd B bs gs sc k f c A env){ss:List Stmt}{N:Vars->Sto->Prop}{R:D->Sto->Prop}(h:run ⟨B,bs,gs,sc,k,f,c,A,X,env,fr⟩ 1000 m σ (.S ss N R)):WS c A fr env m σ ss N R X:=Yi (Γ:=⟨B,bs,gs,sc,k,f,c,A,X,env,fr⟩) g _ _ _ _ h
theorem WE.base {l:Vars}{e:Expr}{Q:D->Sto->Prop}(h:Hs m l)(k:WE c A fr env l σ e Q X):WE c A fr env m σ e Q X:=fun s ok fm=>k s ok (fm.turn fun x d e=>⟨d,h x d e,fun v hv=>hv⟩)
theorem Gi.nil:Gi c []:=fun x i e=>by contradiction
theorem Gd.at (g:Gd B bs gs sc k f c A env){env':Env}{sc':Scope}(s:env'.scope=sc'):Gd B bs gs sc' k false c A env':=⟨g.T,g.G,g.r,s,fun e=>by nomatch e⟩
theorem brT {b:Bool}{P Q:Prop}(e:b=true)(h:P):if b=true then P else Q:=by rw [if_pos e];exact h
theorem brF {b:Bool}{P Q:Prop}(e:b=false)(h:Q):if b=true then P else Q:=by rw [e];exact h
theorem brJ {b:Bool}{P Q:Prop}(h:P)(k:b=false->P->Q):if b=true then P else Q:=by
 cases b with
 | true=>exact h
 | false=>exact k rfl h
noncomputable def j0a (m:Vars):List Str->Option Vars
 | []=>some []
 | x::xs=>match m.lookup x with
  | none=>none
  | some d=>match j0a m xs with
   | none=>none
   | some l=>some ((x,d)::l)
theorem Hs.of {m:Vars}:∀(xs:List Str) {l:Vars},j0a m xs=some l->Hs m l
 | [],l,e=>by
  injection e with e;subst e;exact Hs.nil
 | x::xs,l,e=>by
  unfold j0a at e
  split at e
  ·contradiction
  ·rename_i d hd
   split at e
   ·contradiction
   ·rename_i l' hl
    injection e with e;subst e
    exact Hs.cons hd (Hs.of xs hl)
theorem Hs.lit {m l:Vars}(e:j0a m (l.map (·.1))=some l):Hs m l:=Hs.of _ e
end
end Mine
namespace Mine
open PySem PySem.Calls PyProof.Rows PySem.W
noncomputable def jh (B:List Stmt)(i:Nat):PySem.DefRec:=((B[i]?).bind jT).getD ⟨"",⟨[],[],none,[],[],none,[]⟩,[],⟨.function,[],false,false,[]⟩,⟨0,0,0,0⟩⟩
theorem JM {B:List Stmt}{i:Nat}(h:((B[i]?).bind jT).isSome=true):(B[i]?).bind jT=some (jh B i):=by
 unfold jh
 cases q:(B[i]?).bind jT with
 | none=>rw [q] at h;contradiction
 | some d=>rfl
section
variable {c:Cx} {A:Around} {fr:List Addr} {σ:Sto} {X:Addr->Sto->Prop} {Q:D->Sto->Prop} {env:Env} {m:Vars} {B:List Stmt} {bs:List (Str × Value)} {gs:List (Str × Int)} {K:Frag} {C:Addr} {cn:Str} {Bd:List Stmt}
theorem WF.byG (i:Nat){ps:List Str}{n:Nat}{ds:List D}{f:Str}(T:Tp c B bs)(G:Gi c gs)(hd:((B[i]?).bind jT).isSome=true)(hf:(jh B i).name=f)
  (hb:∀pm code doc vals,vals.length=ps.length->bindArgs (docDef (jh B i).name (jh B i).params (jh B i).body (jh B i).scope pm code doc) ⟨vals,[]⟩=pure (ps.zip vals)) (hok:fnOk (jh B i).scope ps=true) (hl:ds.length=ps.length)
  (h:∀A fr env,Gd B bs gs (jh B i).scope n true c A env->Room n A->A.handled=none->env.scope=(jh B i).scope->Fe A env (jh B i).scope->run ⟨B,bs,gs,(jh B i).scope,n,true,c,A,X,env,Fa env++fr⟩ 1000 (ps.zip ds) σ (.S (jh B i).body (uL fun _ σ'=>Q .none σ') (stop Q))):WF c (Room (n+1)) f ds σ Q X:=
 WF.of T (Jy (JM hd)) hf hb hok hl fun A fr env r hs fe=>
  have g:Gd B bs gs (jh B i).scope n true c A env:=⟨T,G,r,hs,fun _=>fe⟩
  WS.go g (h A fr env g r r.2 hs fe)
theorem WF.byS (i:Nat){ps:List Str}{n:Nat}{ds:List D}{f:Str}(T:Tp c B bs)(hd:((B[i]?).bind jT).isSome=true)(hf:(jh B i).name=f)
  (hb:∀pm code doc vals,vals.length=ps.length->bindArgs (docDef (jh B i).name (jh B i).params (jh B i).body (jh B i).scope pm code doc) ⟨vals,[]⟩=pure (ps.zip vals)) (hok:fnOk (jh B i).scope ps=true) (hl:ds.length=ps.length)
  (h:∀A fr env,Gd B bs [] (jh B i).scope n true c A env->Room n A->A.handled=none->env.scope=(jh B i).scope->Fe A env (jh B i).scope->WS c A (Fa env++fr) env (ps.zip ds) σ (jh B i).body (fun _ σ'=>Q .none σ') Q X):WF c (Room (n+1)) f ds σ Q X:=
 WF.of T (Jy (JM hd)) hf hb hok hl fun A fr env r hs fe=>h A fr env ⟨T,Gi.nil,r,hs,fun _=>fe⟩ r r.2 hs fe
theorem WF.byA (i:Nat){ps:List Str}{n:Nat}{ds:List D}{f:Str}(T:Tp c B bs)(hd:((B[i]?).bind jT).isSome=true)(hf:(jh B i).name=f)
  (hb:∀pm code doc vals,vals.length=ps.length->bindArgs (docDef (jh B i).name (jh B i).params (jh B i).body (jh B i).scope pm code doc) ⟨vals,[]⟩=pure (ps.zip vals)) (hok:fnOk (jh B i).scope ps=true) (hl:ds.length=ps.length)
  (h:∀A fr env,Gd B bs [] (jh B i).scope n true c A env->Room n A->A.handled=none->env.scope=(jh B i).scope->Fe A env (jh B i).scope->run ⟨B,bs,[],(jh B i).scope,n,true,c,A,X,env,Fa env++fr⟩ 1000 (ps.zip ds) σ (.S (jh B i).body (uL fun _ σ'=>Q .none σ') (stop Q))):WF c (Room (n+1)) f ds σ Q X:=
 WF.byG i T Gi.nil hd hf hb hok hl h
theorem WM.byG (i:Nat){ps:List Str}{n:Nat}{ds:List D}{f:Str}(T:Tp c B bs)(G:Gi c gs)(S:Ks c K C cn Bd)(hd:((Bd[i]?).bind jT).isSome=true)(hf:(jh Bd i).name=f)
  (hb:∀pm code doc qual vals,vals.length=ps.length->bindArgs {docDef (jh Bd i).name (jh Bd i).params (jh Bd i).body (jh Bd i).scope pm code doc with qualname:=qual} ⟨vals,[]⟩=pure (ps.zip vals)) (hok:fnOk (jh Bd i).scope ps=true) (hl:ds.length=ps.length)
  (h:∀A fr env,Gd B bs gs (jh Bd i).scope n true c A env->Room n A->A.handled=none->env.scope=(jh Bd i).scope->Fe A env (jh Bd i).scope->run ⟨B,bs,gs,(jh Bd i).scope,n,true,c,A,X,env,Fa env++fr⟩ 1000 (ps.zip ds) σ (.S (jh Bd i).body (uL fun _ σ'=>Q .none σ') (stop Q))):WM c K C (Room (n+1)) f ds σ Q X:=by
 subst hf
 refine WM.by (name:=(jh Bd i).name) (params:=(jh Bd i).params) (body:=(jh Bd i).body) (scope:=(jh Bd i).scope) (dpos:=(jh Bd i).pos) i T S (JM hd) hb hok hl fun A fr env r hh hs fe=> ?_
 have g:Gd B bs gs (jh Bd i).scope n true c A env:=⟨T,G,r,hs,fun _=>fe⟩
 exact WS.go g (h A fr env g r hh hs fe)
theorem WM.byA (i:Nat){ps:List Str}{n:Nat}{ds:List D}{f:Str}(T:Tp c B bs)(S:Ks c K C cn Bd)(hd:((Bd[i]?).bind jT).isSome=true)(hf:(jh Bd i).name=f)
  (hb:∀pm code doc qual vals,vals.length=ps.length->bindArgs {docDef (jh Bd i).name (jh Bd i).params (jh Bd i).body (jh Bd i).scope pm code doc with qualname:=qual} ⟨vals,[]⟩=pure (ps.zip vals)) (hok:fnOk (jh Bd i).scope ps=true) (hl:ds.length=ps.length)
  (h:∀A fr env,Gd B bs [] (jh Bd i).scope n true c A env->Room n A->A.handled=none->env.scope=(jh Bd i).scope->Fe A env (jh Bd i).scope->run ⟨B,bs,[],(jh Bd i).scope,n,true,c,A,X,env,Fa env++fr⟩ 1000 (ps.zip ds) σ (.S (jh Bd i).body (uL fun _ σ'=>Q .none σ') (stop Q))):WM c K C (Room (n+1)) f ds σ Q X:=
 WM.byG i T Gi.nil S hd hf hb hok hl h
theorem Mth.byA (i:Nat){f:Str}(S:Ks c K C cn Bd)(hd:((Bd[i]?).bind jT).isSome=true)(hf:(jh Bd i).name=f):Mth K C f:=by
 subst hf
 obtain ⟨f,o,pm,code,doc,qual,h1,h2,h3,_⟩:=S.meth _ (Jy (JM hd))
 exact ⟨f,h1,h2,h3⟩
noncomputable def kFld (C:Addr)(name:Str)(Q:D->Sto->Prop):D->Sto->Prop:=fun d σ1=>AtSys C d fun sz ru=>AtFld name sz ru fun e=>Q e σ1
theorem kFld.size {sz ru:D}(h:Q sz σ):kFld C (Str.ofString "size") Q (.sys C sz ru) σ:=AtSys.mk (AtFld.size h)
theorem kFld.rules {sz ru:D}(h:Q ru σ):kFld C (Str.ofString "rules") Q (.sys C sz ru) σ:=AtSys.mk (AtFld.rules h)
theorem WE.fldA {e:Expr}{name:Str}(he:e=.Attribute (eL e) name e.pos)(S:Ks c K C cn Bd)(h:WE c A fr env m σ (eL e) (kFld C name Q) X)(hb:∀w,attributeBase (eL e) name env w=w):WE c A fr env m σ e Q X:=by
 exact (he▸(WE.fld (pos:=e.pos) S h hb))
noncomputable def kMeth (c:Cx)(K:Frag)(C:Addr)(A:Around)(fr:List Addr)(env:Env)(m:Vars)(n:Nat)(as:List Expr)(name:Str)(Q:D->Sto->Prop)(X:Addr->Sto->Prop):D->Sto->Prop:=fun d σ1=>AtSys C d fun _ _=>WA c A fr env m σ1 as (fun ds σ2=>WM c K C (Room n) name (d::ds) σ2 Q X) X
theorem kMeth.mk {n:Nat}{as:List Expr}{name:Str}{sz ru:D}(h:WA c A fr env m σ as (fun ds σ2=>WM c K C (Room n) name (.sys C sz ru::ds) σ2 Q X) X):kMeth c K C A fr env m n as name Q X (.sys C sz ru) σ:=AtSys.mk h
theorem WE.mthA {e:Expr}{name:Str}{n:Nat}(he:e=.Call (.Attribute (eL (eL e)) name (eL e).pos) (eS e) [] e.pos)(S:Ks c K C cn Bd)(r:Room n A)(hf:Mth K C name)
  (h:WE c A fr env m σ (eL (eL e)) (kMeth c K C A fr env m n (eS e) name Q X) X) (h1:name≠"size") (h2:name≠"rules") (hp:jc (eS e)=true) (hb:∀w,attributeBase (eL (eL e)) name env w=w) (hl:((eL e).pos.endLine==e.pos.line)=true) (hn:decide ((eS e).length<30)=true):WE c A fr env m σ e Q X:=by
 have t:=WE.mth S r hf h h1 h2 hp hb hl hn
 rw [<-he] at t;exact t
theorem WE.callCA {e:Expr}{n:Nat}(he:e=.Call (.Name cn (eL e).pos) (eS e) [] e.pos)(S:Ks c K C cn Bd)(T:Tp c B bs)(r:Room (n+1) A)(hk:env.kindOf cn=some .globalImplicit)(hm:Mth K C "__init__")
  (h:WA c A fr env m σ (eS e) (fun ds σ1=>∀dx,dx∉keys σ1->WM c K C (Room n) "__init__" (.own C dx::ds) ((dx,.flds [])::σ1) (NewQ C dx Q) (NewX dx X)) X) (hp:jc (eS e)=true) (hdb:(cn==("__debug__":Str))=false):WE c A fr env m σ e Q X:=by
 have t:=WE.callC (pos:=e.pos) (fp:=(eL e).pos) S T r hk hm h hp hdb
 rw [<-he] at t;exact t
theorem At1.lenM {α:Type}{sd:SD}{l:List α}{F:α->D}(hd:sd.ds=l.map F)(inv:sd.inv σ)(hf:l.length<2^62)(h:Q (.int l.length) σ):At1 c A fr σ (.builtin "len") [sd.d] Q X:=by
 have e:sd.ds.length=l.length:=by rw [hd,List.length_map]
 exact At1.len inv (by rw [e];exact hf) (by rw [e];exact h)
theorem Uz {x:Int}:∀n:Nat,(List.replicate n [D.int x]).flatten=(List.replicate n x).map D.int
 | 0=>rfl
 | n+1=>by simp only [List.replicate_succ,List.flatten_cons,Uz n];rfl
theorem WB.rep {x:Int}{n:Nat}(hn:n<1000)(h:QL Q ((List.replicate n x).map D.int) σ):WB c A fr σ (binaryOp .Mult) (.lst [.int x]) (.int n) Q X:=
 WB.mulL (sd:=.lst [.int x]) rfl trivial z967 (z998 hn) (by exact z999 hn) (by
  dsimp only [SD.ds,Int.toNat_natCast]
  rw [Uz];exact h)
theorem WIv.seqA {α:Type}{tg:Expr}{x:Str}(ht:tg=.Name x tg.pos){sd:SD}{l:List α}{Q:ItQ}(F:α->D)(hh:A.handled=none)(hd:sd.ds=l.map F)(hi:sd.inv σ)(h:Q (l.map fun i=>[(x,F i)]) sd.inv σ):WIv c A fr env m σ sd.d tg Q:=by
 exact (ht▸(WIv.seq (c:=c) (fr:=fr) (env:=env) (m:=m) (px:=tg.pos) F hh hd hi h))
theorem QL.sp {ds:List D}(h:QL Q ds σ):QL (stop Q) ds σ:=h.to fun _ _ q=>⟨q⟩
variable {N:Vars->Sto->Prop} {R:D->Sto->Prop}
theorem W1.whileA {s:Stmt}{p:Pos}{sc:Scope}(he:s=.While (sE s) (sA s) [] p)(fe:Fe A env sc)(L:Nat->Vars->Sto->Prop)(n:Nat)(h0:L n m σ)
  (turn:∀k m' σ',L k m' σ'->WT c A fr env m' σ' (sE s) (fun b σ1=>if b=true then WS c A fr env m' σ1 (sA s) (fun m'' σ''=>∃j,j<k/\L j m'' σ'') R X else N m' σ1) X):W1 c A fr env m σ s N R X:=by
 exact (he▸(W1.while (pos:=p) fe L n h0 turn))
theorem wU {s:Stmt}:execs [s] env=exec s env:=by
 refine Eq.trans (congrArg (exec s env>>=·) (funext fun fl=> ?_)) (bind_pure _)
 cases fl<;>rfl
theorem W1.ofS {s:Stmt}(h:WS c A fr env m σ [s] N R X):W1 c A fr env m σ s N R X:=fun st ok fm=>by
 exact (wU▸(h st ok fm))
theorem W1.go {sc:Scope}{k:Nat}{fl:Bool}(g:Gd B bs gs sc k fl c A env){s:Stmt}(h:run ⟨B,bs,gs,sc,k,fl,c,A,X,env,fr⟩ 1000 m σ (.S [s] (uL N) (stop R))):W1 c A fr env m σ s N R X:=W1.ofS (WS.go g h)
theorem W1.goN {sc:Scope}{k:Nat}{fl:Bool}(g:Gd B bs gs sc k fl c A env){s:Stmt}(h:run ⟨B,bs,gs,sc,k,fl,c,A,X,env,fr⟩ 1000 m σ (.S [s] (uL N) R)):W1 c A fr env m σ s N R X:=W1.ofS (WS.goN g h)
noncomputable def j0B:List Stmt->Bool
 | _::_=>true
 | []=>false
theorem WS.joinA {ss:List Stmt}(hc:j0B ss=true)(J:Vars->Sto->Prop)(h:W1 c A fr env m σ (hS ss) J R X)(k:∀m' σ',J m' σ'->WS c A fr env m' σ' ss.tail N R X):WS c A fr env m σ ss N R X:=by
 cases ss with
 | nil=>contradiction
 | cons s ss=>exact WS.cons (W1.join J h k)
theorem WS.checkA {ss:List Stmt}(hc:j0B ss=true)(h:W1 c A fr env m σ (hS ss) (fun a b=>a=m/\b=σ) R X)(k:WS c A fr env m σ ss.tail N R X):WS c A fr env m σ ss N R X:=
 WS.joinA hc _ h fun _ _ e=>by rw [e.1,e.2];exact k
theorem WT.base {l:Vars}{e:Expr}{Q:Bool->Sto->Prop}(h:Hs m l)(k:WT c A fr env l σ e Q X):WT c A fr env m σ e Q X:=fun s ok fm=>k s ok (fm.turn fun x d e=>⟨d,h x d e,fun v hv=>hv⟩)
theorem j0C {a:Addr}{ds:List D}{x:Str}{d:D}:∀{m:Vars},m.lookup x=some d->(fz a ds m).lookup x=some (fzD a ds d)
 | [],h=>by contradiction
 | (y,e)::m,h=>by
  unfold fz
  rw [jb] at h⊢
  by_cases q:x=y
  ·rw [if_pos q] at h⊢;injection h with h;rw [h]
  ·rw [if_neg q] at h⊢;exact j0C h
theorem j1i {a:Addr}{ds:List D}{x:Str}{m:Vars}:fz a ds ((x,.ref a)::m)=(x,.lst ds)::fz a ds m:=by simp [fz,fzD,WW]
theorem fz_int {a:Addr}{ds:List D}{x:Str}{i:Int}{m:Vars}:fz a ds ((x,.int i)::m)=(x,.int i)::fz a ds m:=rfl
theorem fz_lst {a:Addr}{ds es:List D}{x:Str}{m:Vars}:fz a ds ((x,.lst es)::m)=(x,.lst es)::fz a ds m:=rfl
theorem fz_nil {a:Addr}{ds:List D}:fz a ds []=[]:=rfl
theorem Hs.fz {a:Addr}{ds:List D}:∀{m l:Vars},Hs m l->Hs (fz a ds m) (fz a ds l):=fun {m l} h x d e=>by
 obtain ⟨d0,e0,rfl⟩:=Yc e
 exact j0C (h x d0 e0)
end
end Mine
set_option maxHeartbeats 1000000
namespace Mine
open PySem PySem.Calls PyProof.Rows
section
variable {c:Cx} {A:Around} {fr:List Addr} {σ σ1 σ2:Sto} {X:Addr->Sto->Prop} {Q:D->Sto->Prop} {env:Env} {m:Vars} {N:Vars->Sto->Prop} {R:D->Sto->Prop}
theorem WB.notInRows {n:Nat}(rm:Room n A){a:Addr}{rs:List (List Int)}{f:List Int}(hm:(a,O.rows rs)∈σ)(h:Q (.bool (!decide (f∈rs))) σ):WB c A fr σ (compareOp .NotIn) (row f) (.ref a) Q X:=fun v1 v2 s ok x1 x2=>by
 unfold V at x2;subst x2
 obtain ⟨b,rfl,nb,hkey⟩:=V.isKey (c:=c) x1
 obtain ⟨as,hl,hn,hd⟩:=ok.sto (a,O.rows rs) hm
 have hu:A.units+1<cLine:=by have:=rm.1.2;have e:cLine=9900:=rfl;exact z991 this e
 refine wpAny_notIn_heap (knd:=tupleKind (intKind c.prog c.w)) (k:=f) (tupleKind_room_in1 hu) hkey hn.2 hd ?_
 rw [YH hl]
 exact ⟨_,σ,Post.keeps fun _ _ e=>e,ok,by unfold V;rfl,h⟩
theorem At1.lenRows {a:Addr}{rs:List (List Int)}(hm:(a,O.rows rs)∈σ)(hfit:rs.length<2^62)(h:Q (.int rs.length) σ):At1 c A fr σ (.builtin "len") [.ref a] Q X:=.one fun s v ok hv=>by
 unfold V at hv;subst hv
 obtain ⟨as,hl,hn,hd⟩:=ok.sto (a,O.rows rs) hm
 have ml:MeetsIn c.prog c.w (Builtin.«dict.__len__» ⟨[.ref a],[]⟩) (fun _ R s=>∃xs,s.heap.DictOfH (tupleKind (intKind c.prog c.w)) a xs/\R (.ok (.ret (.int xs.length s.toks))) {s with toks:=s.toks+1}):=
  .of_wp fun A R s ⟨kvs,hm,h⟩=>by
   obtain ⟨o,es,ep,ho,hc,hdat,hk,hp,hn'⟩:=hm
   show wpAny _ _ (dictSize a>>=_) _ _ s
   unfold dictSize
   refine wpAny_bind (wpAny_bind (wpAny_dictEntries ho hdat (wpAny_pure ?_)))
   show wpAny _ _ (Builtin.Dict.pendingCount a>>=_) _ _ s
   refine wpAny_bind (wpAny_pendingCount_other hn.2 ?_)
   refine wpAny_ret_mkInt ?_
   have:es.size=kvs.length:=size_of_entries hk
   rw [Nat.add_zero,this];exact h
 refine Calls.call_function_entry kind_len plain_len entry_len (args_len1 _) ?_
 have hlen:(jz rs as).length=rs.length:=by unfold jz;simp [hl]
 unfold Builtin.«len»
 refine wpAny_bind (m:=oneArg "len" _) (wpAny_pure ?_)
 refine wpAny_bind (m:=callSpecial? (.ref a) (Str.ofString "__len__")) (wpAny_callSpecial?_slot (name:=Str.ofString "__len__") hd.typeIs F.slot_dict_len
  (call_meetsIn F.slot_dict_len hd.typeIs F.entry_dict_len (F.args_dict_len_1 _) ml ⟨_,hd,?_⟩))
 show wpAny _ _ _ _ _ {s with toks:=s.toks+1}
 refine wpAny_bind (wpAny_holding (wpAny_pure ?_))
 refine wpAny_bind (wpAny_letGo ?_)
 show wpAny _ _ (if (((jz rs as).length:Nat):Int)<0 then _ else _) _ _ _
 rw [if_neg z619]
 show wpAny _ _ (if (((jz rs as).length:Nat):Int)>=2^63 then _ else _) _ _ _
 rw [if_neg (by rw [hlen];exact z1000 hfit)]
 refine wpAny_bind (wpAny_mkInt (wpAny_pure ⟨_,rfl,?_⟩))
 rw [hlen]
 exact ⟨.int rs.length,σ,Post.keeps fun _ _ e=>e,ok,by unfold V;exact ⟨_,rfl⟩,h⟩
theorem At1.pop {a:Addr}{ds:List D}{d:D}(hsz:ds.length<sizeLine)(h:Q d (σ1++(a,.lst ds)::σ2)):At1 c A fr (σ1++(a,.lst (ds++[d]))::σ2) (.builtin "list.pop") [.ref a] Q X:=.one fun s v ok hv=>by
 unfold V at hv;subst hv
 have hm:(a,O.lst (ds++[d]))∈σ1++(a,.lst (ds++[d]))::σ2:=by simp
 obtain ⟨vs,n,g,r⟩:=ok.sto _ hm
 have ha:a∈keys (σ1++(a,O.lst (ds++[d]))::σ2):=by simp [keys]
 have nfr:a∉fr:=fun z=>(List.nodup_append.mp ok.nd).2.2 a ha a z rfl
 have hlen:vs.length=ds.length+1:=by have:=r.length;simpa using this
 obtain ⟨v,hv1,hv2⟩:=r.got (i:=ds.length) (d:=d) (by simp)
 have r1:=r.take ds.length
 rw [List.take_append_of_le_length (Nat.le_refl _),List.take_length] at r1
 refine call_meets F.slot_list_pop ⟨_,g,rfl⟩ F.entry_list_pop (F.args_list_pop_1 _) (PySem.MeetsSeq.list_pop_last a vs.toArray n v (by simp only [List.size_toArray,hlen];simpa using hv1) (by simp only [List.size_toArray,hlen];exact z665 hsz)) ⟨g,?_⟩
 have k1:∀b ob,b≠a->s.heap.get? b=some ob->(s.heap.update a (Obj.mapSeq fun xs=>xs.eraseIdxIfInBounds (vs.toArray.size-1))).get? b=some ob:=fun b ob hne e=>by rw [Heap.get?_update_ne _ _ _ _ hne];exact e
 obtain ⟨n',g'⟩:∃n',(s.heap.update a (Obj.mapSeq fun xs=>xs.eraseIdxIfInBounds (vs.toArray.size-1))).get? a=some (jk (vs.take ds.length) n'):=by
  have e:=IsL.update (h:=s.heap) (l:=a) (items:=vs.toArray) (n:=n) g fun xs=>xs.eraseIdxIfInBounds (vs.toArray.size-1)
  have e2:vs.toArray.eraseIdxIfInBounds (vs.toArray.size-1)=(vs.take ds.length).toArray:=by
   rw [List.eraseIdxIfInBounds_toArray,List.size_toArray,hlen,Nat.add_sub_cancel]
   congr 1
   rw [List.eraseIdx_eq_take_drop_succ,List.drop_eq_nil_of_le (z28 hlen),List.append_nil]
  rw [e2] at e
  exact ⟨_,e⟩
 have mv:∀{d':D} {u:Value},V (keys (σ1++(a,O.lst (ds++[d]))::σ2)++fr) s.heap d' u->V (keys (σ1++(a,O.lst ds)::σ2)++fr) (s.heap.update a (Obj.mapSeq fun xs=>xs.eraseIdxIfInBounds (vs.toArray.size-1))) d' u:=fun {d' u} x=>by
  have ek:keys (σ1++(a,O.lst ds)::σ2)=keys (σ1++(a,O.lst (ds++[d]))::σ2):=by simp [keys]
  rw [ek]
  exact V.move (fun b ob nb e=>k1 b ob (fun z=>nb (by rw [z];exact List.mem_append_left _ ha)) e) (fun _ m=>.inl m) _ _ x
 exact ⟨d,_,Post.put (tk:=s.toks) (o':=.lst ds) nfr k1 ⟨_,g'⟩,Ok.put ok k1 ⟨vs.take ds.length,n',g',Vs.move (fun b ob nb e=>k1 b ob (fun z=>nb (by rw [z];exact List.mem_append_left _ ha)) e) (fun _ m=>.inl m) _ _ r1⟩,mv hv2,h⟩
theorem WE.dict1 {n:Nat}(rm:Room n A)(gd:c.Good){ke ve:Expr}{pos:Pos}(h:∀a,a∉keys σ->WE c A fr env m ((a,.rows [])::σ) ke (fun d σ1=>WE c A fr env m σ1 ve (fun d2 σ2=>∃f:List Int,d=row f/\d2=.bool true/\σ2=(a,.rows [])::σ/\Q (.ref a) ((a,.rows [f])::σ)) NoX) NoX):WE c A fr env m σ (.Dict [some ke] [ve] pos) Q X:=fun s ok fm=>by
 have kp:∀b o,s.heap.get? b=some o->(s.heap.push {cls:=.type "dict",data:=.dict #[]}).get? b=some o:=fun b o e=>Heap.get?_push_of_some _ e
 have hsz:3<s.heap.objs.size:=by
  obtain ⟨o,es,ep,g0,_⟩:=gd.g
  exact Heap.lt_size (ok.base _ _ g0)
 have nin:s.heap.objs.size∉keys σ:=fun z=>Nat.lt_irrefl _ (ok.lt (List.mem_append_left _ z))
 have p0:Post [] fr σ s {s with heap:=s.heap.push {cls:=.type "dict",data:=.dict #[]},toks:=s.toks} ((s.heap.objs.size,.rows [])::σ):=Post.add (tk:=s.toks) kp (Nat.le_refl _)
 have ok0:Ok c A fr ((s.heap.objs.size,.rows [])::σ) (s.heap.push {cls:=.type "dict",data:=.dict #[]}):=Ok.add (o:=.rows []) ok kp (Nat.le_refl _) ⟨[],rfl,⟨Vs.nil,beq_eq_false_iff_ne.mpr fun e=>by have h1:s.heap.objs.size=1:=e;exact z989 hsz h1⟩,Heap.DictOfH.new _⟩
 have hh:=h _ nin
 refine wpAny_Dict_any rfl rfl (by simp) (by simp) ?_
 show wpAny _ _ (evalPairs [(eval ke env,do let x<-eval ve env;standAt pos;pure x)]) _ _ _
 refine evalPairs_cons (wpAny_mono (hh _ ok0 (fm.move p0)) (fun kv s1 hz=> ?_) fun _ _ x=>(Ex.no x).elim)
 obtain ⟨d,σ1,p1,ok1,x1,q1⟩:=hz
 refine wpAny_bind (wpAny_mono (q1 s1 ok1 ((fm.move p0).move p1)) (fun vv s2 hz=> ?_) fun _ _ x=>(Ex.no x).elim)
 obtain ⟨d2,σ2,p2,ok2,x2,f,e1,e2,e3,q⟩:=hz
 subst e1 e2 e3
 refine wpAny_bind (wpAny_standAt (wpAny_pure (evalPairs_nil ?_)))
 have x1':=p2.v x1
 obtain ⟨b,rfl,nb,hkey⟩:=V.isKey (c:=c) x1'
 unfold V at x2;subst x2
 have ha:s.heap.objs.size∈keys ((s.heap.objs.size,O.rows [])::σ):=by simp [keys]
 have nfr:s.heap.objs.size∉fr:=fun z=>(List.nodup_append.mp ok2.nd).2.2 _ ha _ z rfl
 obtain ⟨as,hl,hn,hd⟩:=ok2.sto (s.heap.objs.size,O.rows []) (by simp)
 have hu:A.units<cLine:=by have:=rm.1.2;have e:cLine=9900:=rfl;exact z1001 this e
 unfold storeAll
 rw [List.forIn_cons]
 refine wpAny_bind (wpAny_bind (wpAny_dictSet_heap (knd:=tupleKind (intKind c.prog c.w)) (k:=f) hu hkey hd (fun h' hd' hb=> ?_) (by unfold jz;simp [sizeLine])))
 refine wpAny_pure ?_
 dsimp only
 rw [List.forIn_nil]
 refine wpAny_pure ?_
 have k':∀b ob,b≠s.heap.objs.size->s2.heap.get? b=some ob->h'.get? b=some ob:=fun b ob hne e=>by rw [hb.2 b hne];exact e
 obtain ⟨as',l1,l2,l3⟩:=Yg (b:=b) hl (f:=f) hn.1 x1'
 rw [l3] at hd'
 have st:Stay (keys ((s.heap.objs.size,O.rows [])::σ)++fr) s2.heap h':=fun b ob nb e=>k' b ob (fun z=>nb (by rw [z];exact List.mem_append_left _ ha)) e
 have pp:Post [] fr ((s.heap.objs.size,.rows [])::σ) s2 {s2 with heap:=h',toks:=s2.toks+(tupleKind (intKind c.prog c.w)).draws f} ((s.heap.objs.size,.rows (ins [] f))::σ):=Post.put (σ1:=[]) nfr k' (by obtain ⟨o,_,_,e,_⟩:=hd';exact ⟨o,e⟩)
 exact ⟨.ref s.heap.objs.size,(s.heap.objs.size,.rows [f])::σ,((p0.trans p1).trans p2).trans pp,Ok.put (σ1:=[]) ok2 k' ⟨as',l1,⟨Vs.move st (fun _ z=>.inl z) _ _ l2,hn.2⟩,hd'⟩,by unfold V;rfl,q⟩
end
end Mine
namespace Mine
open PySem PyProof.Rows
noncomputable def J8:Bool->Keyed->Array Keyed->Nat->Nat->Nat->StateT SortSt Sem (Option Nat):=sortPriv% PySem.Builtin.gallop
noncomputable def J0:Nat->StateT SortSt Sem Unit:=sortPriv% PySem.Builtin.setMinGallop
noncomputable def uf:Array Keyed->Array Keyed->StateT SortSt Sem (Array Keyed):=sortPriv% PySem.Builtin.mergeLo
noncomputable def ug:Array Keyed->Array Keyed->StateT SortSt Sem (Array Keyed):=sortPriv% PySem.Builtin.mergeHi
noncomputable def yv (left:Bool)(key:Keyed)(arr:Array Keyed)(base:Nat)(i:Nat):StateT SortSt Sem (Option Bool):=do
  let x<-elem' arr (base+i)
  if left then lt' x key else return (<-lt' key x).map (!·)
noncomputable def JX (a b out:Array Keyed)(ia ib:Nat):Array Keyed:=out++b.extract ib b.size++a.extract ia a.size
noncomputable def Yj (a b out:Array Keyed)(ia ib:Nat):Array Keyed:=out++a.extract ia a.size++b.extract ib b.size
noncomputable def uh (a b out:Array Keyed)(na nb:Nat):Array Keyed:=a.extract 0 na++b.extract 0 nb++out.reverse
noncomputable def ym (a b out:Array Keyed)(na nb:Nat):Array Keyed:=b.extract 0 nb++a.extract 0 na++out.reverse
end Mine
set_option genSizeOf false
namespace Mine
open PySem PyProof.Rows
noncomputable def j0b (prog:Program)(w:World)(A:Around)(s:Shared)(κ:SortKind)(rk:Keyed->Int)(P:Keyed->Prop):Prop:=
 ∀x y,P x->P y->∀(Q:Bool->Shared->Prop) (E:Value->Shared->Prop),Q (decide (rk x<rk y)) s->wpAny (model prog w) A (keyLt' κ x.1 y.1) Q E s
section
variable {prog:Program} {w:World} {A:Around} {E:Value->Shared->Prop} {s:Shared} {κ:SortKind} {rk:Keyed->Int} {P:Keyed->Prop}
theorem uk {st:SortSt}{x y:Keyed}{Q:Option Bool->SortSt->Prop}(HL:j0b prog w A s κ rk P)(hk:kindOf st=κ)(hx:P x)(hy:P y)(h:Q (some (decide (rk x<rk y))) st):wpS (model prog w) A E s (lt' x y) Q st:=by
 dsimp only [lt'_eq]
 refine wpS_bind (wpS_get ?_)
 exact hk▸wpS_bind (wpS_lift (wpAny_attempt (HL x y hx hy _ _ ⟨rfl,wpS_pure h⟩)))
theorem yR {st:SortSt}{a:Array Keyed}{i:Nat}{x:Keyed}{Q:Keyed->SortSt->Prop}(h:a[i]? =some x)(hq:Q x st):wpS (model prog w) A E s (elem' a i) Q st:=by
 simp only [elem'_eq,h];exact wpS_pure hq
end
noncomputable def kr (rk:Keyed->Int)(a:Array Keyed)(i:Nat):Int:=a[i]?.elim 0 rk
theorem jL {rk:Keyed->Int}{a:Array Keyed}{i:Nat}{x:Keyed}(h:a[i]? =some x):kr rk a i=rk x:=congrArg (fun o=>o.elim 0 rk) h
noncomputable def Srt (rk:Keyed->Int)(a:Array Keyed)(lo hi:Nat):Prop:=∀i j,lo<=i->i<=j->j<hi->kr rk a i<=kr rk a j
noncomputable def pbe (rk:Keyed->Int)(left:Bool)(key:Keyed)(arr:Array Keyed)(base i:Nat):Bool:=if left then decide (kr rk arr (base+i)<rk key) else !decide (rk key<kr rk arr (base+i))
noncomputable def oM {α β:Type}(o:Option α)(a:α->β)(b:β):β:=match o with
 | some x=>a x
 | _=>b
noncomputable def oE {α β:Type}(o:Option α)(a:α->β)(b:β):β:=Option.rec b a o
noncomputable abbrev GlT:=Option (Option Nat) × Nat × Nat
noncomputable def glU (left:Bool)(key:Keyed)(arr:Array Keyed)(base hint mx:Nat)(t:GlT):StateT SortSt Sem (ForInStep GlT):=
 if t.2.2>=mx then pure (.done (none,t.2.1,t.2.2)) else yv left key arr base (hint+t.2.2)>>=fun x=>
  oM x (fun more=>if (!more)=true then pure (.done (none,t.2.1,t.2.2)) else pure (.yield (none,t.2.2,2*t.2.2+1))) (pure (.done (some none,t.2.1,t.2.2)))
noncomputable def glD (left:Bool)(key:Keyed)(arr:Array Keyed)(base hint mx:Nat)(t:GlT):StateT SortSt Sem (ForInStep GlT):=
 if t.2.2>=mx then pure (.done (none,t.2.1,t.2.2)) else yv left key arr base (hint-t.2.2)>>=fun x=>
  oM x (fun found=>if found=true then pure (.done (none,t.2.1,t.2.2)) else pure (.yield (none,t.2.2,2*t.2.2+1))) (pure (.done (some none,t.2.1,t.2.2)))
noncomputable def glM (left:Bool)(key:Keyed)(arr:Array Keyed)(base:Nat)(t:GlT):StateT SortSt Sem (ForInStep GlT):=
 if t.2.1>=t.2.2 then pure (.done (none,t.2.1,t.2.2)) else yv left key arr base (t.2.1+(t.2.2-t.2.1)/2)>>=fun x=>
  oM x (fun more=>if more=true then pure (.yield (none,t.2.1+(t.2.2-t.2.1)/2+1,t.2.2)) else pure (.yield (none,t.2.1,t.2.1+(t.2.2-t.2.1)/2))) (pure (.done (some none,t.2.1,t.2.2)))
noncomputable def glE (left:Bool)(key:Keyed)(arr:Array Keyed)(base n lo hi:Nat):StateT SortSt Sem (Option Nat):=
 forIn [0:n] ((none,lo,hi):GlT) (fun _ t=>glM left key arr base t)>>=fun t=>oE t.1 pure (pure (some t.2.2))
theorem Ud (left:Bool)(key:Keyed)(arr:Array Keyed)(base n hint:Nat):J8 left key arr base n hint=yv left key arr base hint>>=fun x=>oM x (fun right=>if right=true then
  forIn [0:n] ((none,0,1):GlT) (fun _ t=>glU left key arr base hint (n-hint) t)>>=fun t=>oE t.1 pure (glE left key arr base n (hint+t.2.1+1) (hint+min t.2.2 (n-hint)))
  else forIn [0:n] ((none,0,1):GlT) (fun _ t=>glD left key arr base hint (hint+1) t)>>=fun t=>oE t.1 pure (glE left key arr base n (hint+1-min t.2.2 (hint+1)) (hint-t.2.1))) (pure none):=by kernel_rfl
section
variable {prog:Program} {w:World} {A:Around} {E:Value->Shared->Prop} {s:Shared} {κ:SortKind} {rk:Keyed->Int} {P:Keyed->Prop}
theorem UZ {st:SortSt}{left:Bool}{key:Keyed}{arr:Array Keyed}{base i:Nat}{Q:Option Bool->SortSt->Prop}(HL:j0b prog w A s κ rk P)(hk:kindOf st=κ)(hkey:P key)(hx:∃x,arr[base+i]? =some x/\P x)
  (h:Q (some (pbe rk left key arr base i)) st):wpS (model prog w) A E s (yv left key arr base i) Q st:=by
 obtain ⟨x,e,hp⟩:=hx
 unfold pbe at h
 rw [jL e] at h
 refine wpS_bind (yR e ?_)
 cases left with
 | true=>
  exact uk HL hk hp hkey h
 | false=>
  exact wpS_bind (uk HL hk hkey hp (wpS_pure h))
theorem j0c {left:Bool}{key:Keyed}{arr:Array Keyed}{base n:Nat}(hs:Srt rk arr base (base+n)){i j:Nat}(hij:i<=j)(hj:j<n)(h:pbe rk left key arr base j=true):pbe rk left key arr base i=true:=by
 have:=hs (base+i) (base+j) z1003 (z1004 hij) (z1005 hj)
 unfold pbe at h⊢
 cases left with
 | true=>simp at h⊢;exact z122 h this
 | false=>simp at h⊢;exact z1006 this h
end
noncomputable abbrev Up' (rk:Keyed->Int)(l:List Keyed):Prop:=l.Pairwise fun x y=>rk x<=rk y
theorem yw {a:Array Keyed}{i:Nat}{x:Keyed}(h:a[i]? =some x):a.toList.drop i=x::a.toList.drop (i+1):=by
 rw [<-Array.getElem?_toList] at h
 refine Exists.elim (List.getElem?_eq_some_iff.mp h) fun hi e=> ?_
 simp only [List.drop_eq_getElem_cons hi,e]
theorem wV {a:Array Keyed}{i:Nat}{x:Keyed}(h:a[i]? =some x):a.toList.take (i+1)=a.toList.take i++[x]:=by
 rw [<-Array.getElem?_toList] at h
 simp only [List.take_add_one,h];rfl
theorem JB {a:Array Keyed}{i:Nat}(h:i<a.size):∃x,a[i]? =some x:=⟨a[i],by simp⟩
theorem jy {a:Array Keyed}{i:Nat}{x:Keyed}(h:a[i]? =some x):x∈a.toList:=by
 replace h:=(Array.getElem?_toList ..).trans h;exact List.mem_of_getElem? h
theorem j1j {rk:Keyed->Int}{a:Array Keyed}(h:Up' rk a.toList){i j:Nat}(hij:i<=j)(hj:j<a.size):kr rk a i<=kr rk a j:=by
 obtain ⟨x,ex⟩:=JB (a:=a) (i:=i) (z907 hj hij)
 obtain ⟨y,ey⟩:=JB hj
 simp only [jL ex,jL ey]
 by_cases q:i=j
 ·subst q;replace ey:=(ex ..).symm.trans ey;obtain rfl:=Option.some.inj ey;exact Int.le_refl _
 ·rw [<-Array.getElem?_toList] at ex ey
  obtain ⟨hi,e1⟩:=List.getElem?_eq_some_iff.mp ex
  obtain ⟨hj',e2⟩:=List.getElem?_eq_some_iff.mp ey
  have:=List.pairwise_iff_getElem.mp h i j hi hj' (z908 hij q)
  rw [e1,e2] at this;exact this
theorem jM {rk:Keyed->Int}{xs ys:Array Keyed}{i j:Nat}(h:xs[i]? =ys[j]?):kr rk xs i=kr rk ys j:=congrArg (fun o=>o.elim 0 rk) h
theorem jV (a:Array Keyed)(i j:Nat):(a.extract i j).toList=(a.toList.drop i).take (j-i):=by simp
set_option genInjectivity false in
structure Sx where
 prog:Program
 w:World
 A:Around
 E:Value->Shared->Prop
 s:Shared
 κ:SortKind
 rk:Keyed->Int
 P:Keyed->Prop
 ask:j0b prog w A s κ rk P
noncomputable def Sx.S (c:Sx)(xs:Array Keyed)(p:Array (Nat × Nat × Nat))(g:Nat):SortSt:=SortSt.mk' c.κ xs p g none
noncomputable def WQ (c:Sx){α:Type}(m:StateT SortSt Sem α)(Q:α->SortSt->Prop)(st:SortSt):Prop:=wpS (model c.prog c.w) c.A c.E c.s m Q st
noncomputable def Sq {β:Type}(Q I:β->SortSt->Prop)(r:ForInStep β)(st:SortSt):Prop:=ForInStep.rec (fun c=>Q c st) (fun c=>I c st) r
section
variable {c:Sx} {α β:Type} {Q:α->SortSt->Prop} {st:SortSt} {xs:Array Keyed} {p:Array (Nat × Nat × Nat)} {g:Nat}
theorem WQ.elem {a:Array Keyed}{i:Nat}{f:Keyed->StateT SortSt Sem α}(PA:∀x∈a.toList,c.P x)(hi:i<a.size)(h:∀x,a[i]? =some x->WQ c (f x) Q st):WQ c (elem' a i>>=f) Q st:=
 Exists.elim (JB hi) fun x e=>wpS_bind (yR e (h x e))
theorem WQ.lt {x y:Keyed}{m1 m2 m3:StateT SortSt Sem α}(hx:c.P x)(hy:c.P y)(h1:c.rk x<=c.rk y->WQ c m1 Q (c.S xs p g))(h2:c.rk y<=c.rk x->WQ c m2 Q (c.S xs p g)):WQ c (lt' x y>>=fun r=>oM r (fun w=>if w=true then m1 else m2) m3) Q (c.S xs p g):=by
 refine wpS_bind (uk c.ask rfl hx hy ?_)
 by_cases q:c.rk x<c.rk y
 ·rw [decide_eq_true q];exact h1 (Int.le_of_lt q)
 ·rw [decide_eq_false q];exact h2 (Int.not_lt.mp q)
theorem WQ.set {g':Nat}{f:Unit->StateT SortSt Sem α}(h:WQ c (f ()) Q (c.S xs p g')):WQ c (J0 g'>>=f) Q (c.S xs p g):=wpS_bind (wpS_modify h)
theorem WQ.rule {t:String}{f:Unit->StateT SortSt Sem α}(h:WQ c (f ()) Q st):WQ c (liftM (rule t)>>=f) Q st:=wpS_bind (wpS_lift (wpAny_rule ⟨rfl,h⟩))
theorem WQ.beq {i j:Nat}{m1 m2:StateT SortSt Sem α}(h1:i=j->WQ c m1 Q st)(h2:i≠j->WQ c m2 Q st):WQ c (if (i==j)=true then m1 else m2) Q st:=by
 by_cases q:i=j
 ·rw [if_pos (beq_iff_eq.mpr q)];exact h1 q
 ·rw [if_neg (mt beq_iff_eq.mp q)];exact h2 q
theorem WQ.ite {q:Prop}{d:Decidable q}{m1 m2:StateT SortSt Sem α}(h1:q->WQ c m1 Q st)(h2:¬q->WQ c m2 Q st):WQ c (if q then m1 else m2) Q st:=by
 by_cases h:q
 ·rw [if_pos h];exact h1 h
 ·rw [if_neg h];exact h2 h
theorem WQ.forA {a n:Nat}{d:β}{f:Nat->β->StateT SortSt Sem (ForInStep β)}{k:β->StateT SortSt Sem α}(I:Nat->β->SortSt->Prop)(R:β->SortSt->Prop)(ha:a<=n)(hs:∀i d st,a<=i->i<n->I i d st->WQ c (f i d) (Sq R (I (i+1))) st)(he:∀d st,I n d st->R d st)(h0:I a d st)
  (h:∀d st,R d st->WQ c (k d) Q st):WQ c (forIn [a:n] d f>>=k) Q st:=
 wpS_bind (wpS_mono (wpS_forRange I (fun i d st a b m=>wpS_mono (hs i d st a b m) fun r st' h=>by cases r<;>exact h) (fun d st m=>he d st ((Nat.max_eq_right ha)▸m)) h0) h)
theorem WQ.forB {n:Nat}{d:β}{f:Nat->β->StateT SortSt Sem (ForInStep β)}{k:β->StateT SortSt Sem α}(I:Nat->β->SortSt->Prop)(R:β->SortSt->Prop)(hs:∀i d st,I i d st->WQ c (f i d) (Sq R (I (i+1))) st)(he:∀d st,I n d st->R d st)(h0:I 0 d st)
  (h:∀d st,R d st->WQ c (k d) Q st):WQ c (forIn [0:n] d f>>=k) Q st:=.forA I R (Nat.zero_le n) (fun i d st _ _ m=>hs i d st m) he h0 h
theorem pbe_le {rk:Keyed->Int}{left:Bool}{key:Keyed}{arr:Array Keyed}{base i:Nat}(h:pbe rk left key arr base i=true):kr rk arr (base+i)<=rk key:=by
 unfold pbe at h
 cases left with
 | true=>exact Int.le_of_lt (of_decide_eq_true h)
 | false=>exact Int.not_lt.mp (of_decide_eq_false (Bool.not_eq_true' _▸h))
theorem pbe_ge {rk:Keyed->Int}{left:Bool}{key:Keyed}{arr:Array Keyed}{base i:Nat}(h:pbe rk left key arr base i=false):rk key<=kr rk arr (base+i):=by
 unfold pbe at h
 cases left with
 | true=>exact Int.not_lt.mp (of_decide_eq_false h)
 | false=>exact Int.le_of_lt (of_decide_eq_true (Bool.not_eq_false' _▸h))
theorem yF {arr:Array Keyed}{base n i:Nat}(hi:i<n):(Array.mk ((arr.toList.drop base).take n))[i]? =arr[base+i]? :=by
 rw [List.getElem?_toArray,List.getElem?_take,if_pos hi,List.getElem?_drop,Array.getElem?_toList]
theorem wW {l:List Keyed}{x:Keyed}{n:Nat}(h:x∈l.take n):∃i,i<n/\l[i]? =some x:=by
 obtain ⟨i,e⟩:=List.mem_iff_getElem?.mp h
 rw [List.getElem?_take] at e
 by_cases q:i<n
 ·rw [if_pos q] at e;exact ⟨i,q,e⟩
 ·rw [if_neg q] at e;nomatch e
end
section
variable {c:Sx} {α γ:Type} {Q:α->SortSt->Prop} {st:SortSt} {n N mx:Nat} {p q:Nat->Bool}
inductive Bs (st:SortSt)(n:Nat)(p:Nat->Bool)(N:Nat){γ:Type}:Nat->Option γ × Nat × Nat->SortSt->Prop
 | mk {x l r:Nat}:l<=r->r<=n->r+x<=N+l->(∀i,i<l->p i=true)->(∀i,r<=i->i<n->p i=false)->Bs st n p N x (none,l,r) st
theorem j0d {i j:Nat}(mono:∀{i j:Nat},i<=j->j<n->p j=true->p i=true)(h:i<=j)(hj:j<n)(e:p i=false):p j=false:=Bool.eq_false_iff.mpr fun q=>Bool.noConfusion (e.symm.trans (mono h hj q))
theorem wq_bs {f:Nat->Option γ × Nat × Nat->StateT SortSt Sem (ForInStep (Option γ × Nat × Nat))}{K:Option γ × Nat × Nat->StateT SortSt Sem α}{lo hi:Nat}(mono:∀{i j:Nat},i<=j->j<n->p j=true->p i=true)
  (hb:∀{x l r:Nat} {Q:ForInStep (Option γ × Nat × Nat)->SortSt->Prop},r<=n->(r<=l->Q (.done (none,l,r)) st)->(∀m,l<=m->m<r->(p m=true->Q (.yield (none,m+1,r)) st)/\(p m=false->Q (.yield (none,l,m)) st))->WQ c (f x (none,l,r)) Q st)
  (h1:lo<=hi) (h2:hi<=n) (hN:hi<=N) (a:∀i,i<lo->p i=true) (b:∀i,hi<=i->i<n->p i=false) (h:∀r,r<=n->(∀i,i<r->p i=true)->(∀i,r<=i->i<n->p i=false)->WQ c (K (none,r,r)) Q st):WQ c (forIn [0:N] (none,lo,hi) f>>=K) Q st:=
 .forB (Bs st n p N) (Bs st n p N N) (fun x d st' m=>by
  cases m with
  | mk a1 a2 a3 a4 a5=>exact hb a2 (fun e=>.mk a1 a2 (Nat.add_comm .. ▸Nat.add_le_add_left e N) a4 a5) fun m m1 m2=>⟨fun e=>Bs.mk m2 a2 (Nat.succ_le_succ (Nat.le_trans a3 (Nat.add_le_add_left m1 N))) (fun i hi=>mono (Nat.le_of_lt_succ hi) (Nat.lt_of_lt_of_le m2 a2) e) a5,
    fun e=>Bs.mk m1 (Nat.le_trans (Nat.le_of_lt m2) a2) (Nat.le_trans (Nat.add_lt_add_right m2 x) a3) a4 fun i i1 i2=>j0d mono i1 i2 e⟩) (fun _ _ m=>m) (.mk h1 h2 (Nat.le_trans hN (Nat.le_add_right ..)) a b) fun d st' m=>by
  cases m with
  | mk a1 a2 a3 a4 a5=>
   obtain rfl:=Nat.le_antisymm a1 (Nat.le_of_add_le_add_left (a:=N) (Nat.add_comm .. ▸a3))
   exact h _ a2 a4 a5
inductive Gs (st:SortSt)(mx:Nat)(q:Nat->Bool)(x:Nat):GlT->SortSt->Prop
 | mk {l o:Nat}:l<o->l<mx->q l=true->x<o\/(∀j,o<=j->j<mx->q j=false)->Gs st mx q x (none,l,o) st
theorem wq_gs {f:GlT->StateT SortSt Sem (ForInStep GlT)}{K:GlT->StateT SortSt Sem α}(hm:mx<=N)(h0:0<mx)(hq:q 0=true)(mono:∀{i j:Nat},i<=j->j<mx->q j=true->q i=true)
  (hb:∀{l o:Nat} {Q:ForInStep GlT->SortSt->Prop},(mx<=o->Q (.done (none,l,o)) st)->(o<mx->(q o=true->Q (.yield (none,o,2*o+1)) st)/\(q o=false->Q (.done (none,l,o)) st))->WQ c (f (none,l,o)) Q st)
  (h:∀l o,l<o->l<mx->q l=true->(∀j,o<=j->j<mx->q j=false)->WQ c (K (none,l,o)) Q st):WQ c (forIn [0:N] ((none,0,1):GlT) (fun _ t=>f t)>>=K) Q st:=
 .forB (fun x=>Gs st mx q x) (Gs st mx q N) (fun x d st' m=>by
  cases m with
  | mk a1 a2 a3 a4=>exact hb (fun e=>Gs.mk a1 a2 a3 (.inr fun j j1 j2=>absurd (Nat.le_trans e j1) (Nat.not_le_of_lt j2))) fun ho=>⟨fun e=>Gs.mk z1010 ho e (a4.elim (fun a=>.inl (Nat.succ_lt_succ (Nat.lt_of_lt_of_le a (Nat.le_mul_of_pos_left _ Nat.two_pos)))) fun a=>Bool.noConfusion (e.symm.trans (a _ (Nat.le_refl _) ho))),
    fun e=>Gs.mk a1 a2 a3 (.inr fun j j1 j2=>j0d mono j1 j2 e)⟩) (fun _ _ m=>m) (.mk Nat.one_pos h0 hq (.inl Nat.one_pos)) fun d st' m=>by
  cases m with
  | mk a1 a2 a3 a4=>exact h _ _ a1 a2 a3 (a4.elim (fun a j j1 j2=>absurd (Nat.lt_of_lt_of_le a (Nat.le_trans j1 (Nat.le_trans (Nat.le_of_lt j2) hm))) (Nat.lt_irrefl _)) fun a=>a)
section
variable {st:SortSt} {left:Bool} {key:Keyed} {arr:Array Keyed} {base n hint lo hi:Nat} {p:Nat->Bool} {Q:Option Nat->SortSt->Prop}
theorem nb_t {b:Bool}(h:¬(!b)=true):b=true:=by cases b with
 | true=>rfl
 | false=>exact absurd rfl h
theorem uN {a b j:Nat}(h:min a b<=j)(hj:j<b):a<=j:=(Nat.le_total a b).elim (fun q=>Nat.min_eq_left q▸h) fun q=>absurd (Nat.min_eq_right q▸h) (Nat.not_le_of_lt hj)
variable (ask:∀{β:Type} {i:Nat} {f:Bool->StateT SortSt Sem β} {m:StateT SortSt Sem β} {Q:β->SortSt->Prop},i<n->WQ c (f (p i)) Q st->WQ c (yv left key arr base i>>=fun x=>oM x f m) Q st) (mono:∀{i j:Nat},i<=j->j<n->p j=true->p i=true)
 (h:∀r,r<=n->(∀i,i<r->p i=true)->(∀i,r<=i->i<n->p i=false)->Q (some r) st)
include ask mono h
theorem j0D (h1:lo<=hi)(h2:hi<=n)(a:∀i,i<lo->p i=true)(b:∀i,hi<=i->i<n->p i=false):WQ c (glE left key arr base n lo hi) Q st:=
 wq_bs mono (fun hr d y=>.ite (fun e=>wpS_pure (d e)) fun e=>ask (Nat.lt_of_lt_of_le (j0T e) hr) (.ite (fun e'=>wpS_pure ((y _ (Nat.le_add_right ..) (j0T e)).1 e')) fun e'=>wpS_pure ((y _ (Nat.le_add_right ..) (j0T e)).2 (Bool.eq_false_iff.mpr e')))) h1 h2 h2 a b fun r a b c=>wpS_pure (h r a b c)
theorem wX (hh:hint<n):WQ c (J8 left key arr base n hint) Q st:=
 have hs:hint+(n-hint)=n:=Nat.add_sub_cancel' (Nat.le_of_lt hh)
 Ud .. ▸ask hh (.ite
  (fun e=>wq_gs (q:=fun j=>p (hint+j)) (Nat.sub_le n hint) (Nat.sub_pos_of_lt hh) e (fun a b=>mono (Nat.add_le_add_left a hint) (hs▸Nat.add_lt_add_left b hint))
   (fun d y=>.ite (fun e=>wpS_pure (d e)) fun e=>ask (hs▸Nat.add_lt_add_left (Nat.not_le.mp e) hint) (.ite (fun e'=>wpS_pure ((y (Nat.not_le.mp e)).2 (Bool.not_eq_true' _▸e'))) fun e'=>wpS_pure ((y (Nat.not_le.mp e)).1 (nb_t e'))))
   fun l o a1 a2 a3 a4=>j0D (lo:=hint+l+1) (hi:=hint+min o (n-hint)) ask mono h (z1015 a1 a2) (z1016 hh) (fun i hi=>mono (Nat.le_of_lt_succ hi) (hs▸Nat.add_lt_add_left a2 hint) a3) fun i i1 i2=>by
    obtain ⟨j,rfl⟩:=Nat.exists_eq_add_of_le (Nat.le_trans (Nat.le_add_right ..) i1)
    have j2:=Nat.lt_sub_iff_add_lt'.mpr i2
    exact a4 j (uN (Nat.le_of_add_le_add_left i1) j2) j2)
  fun e=>wq_gs (q:=fun j=> !p (hint-j)) hh (Nat.succ_pos hint) (congrArg (!·) (Bool.eq_false_iff.mpr e)) (fun {i j} a b e=>congrArg (!·) (j0d mono (Nat.sub_le_sub_left a hint) (Nat.lt_of_le_of_lt (Nat.sub_le ..) hh) (Bool.not_eq_true' _▸e)))
   (fun d y=>.ite (fun e=>wpS_pure (d e)) fun e=>ask (Nat.lt_of_le_of_lt (Nat.sub_le ..) hh) (.ite (fun e'=>wpS_pure ((y (Nat.not_le.mp e)).2 (congrArg (!·) e'))) fun e'=>wpS_pure ((y (Nat.not_le.mp e)).1 (congrArg (!·) (Bool.eq_false_iff.mpr e')))))
   fun l o a1 a2 a3 a4=>j0D (lo:=hint+1-min o (hint+1)) (hi:=hint-l) ask mono h (z1026 a1) (z1027 hh) (fun i hi=>by
    have j2:hint-i<hint+1:=Nat.lt_succ_of_le (Nat.sub_le ..)
    have:=a4 (hint-i) (uN (Nat.le_sub_of_add_le (Nat.le_of_lt_succ (Nat.add_lt_of_lt_sub' hi))) j2) j2
    rw [Nat.sub_sub_self (Nat.le_of_lt_succ (Nat.lt_of_lt_of_le hi (Nat.sub_le ..)))] at this
    exact nb_t (Bool.eq_false_iff.mp this)) fun i i1 i2=>j0d mono i1 i2 (Bool.not_eq_true' _▸a3))
end
end
end Mine
set_option genSizeOf false
namespace Mine
open PySem PyProof.Rows
section
variable {c:Sx} {α β:Type} {Q:α->SortSt->Prop} {st:SortSt} {xs:Array Keyed} {p:Array (Nat × Nat × Nat)} {g:Nat}
theorem WQ.gal {left:Bool}{key:Keyed}{arr:Array Keyed}{base n hint:Nat}{f:Nat->StateT SortSt Sem α}{m:StateT SortSt Sem α}(hk:c.P key)(PX:∀x∈arr.toList,c.P x)(hn:base+n<=arr.size)(SX:Up' c.rk ((arr.toList.drop base).take n))(hh:hint<n)
  (h:∀k,k<=n->(∀x∈((arr.toList.drop base).take n).take k,c.rk x<=c.rk key)->(∀x∈((arr.toList.drop base).take n).drop k,c.rk key<=c.rk x)->WQ c (f k) Q (c.S xs p g)):WQ c (J8 left key arr base n hint>>=fun x=>oM x f m) Q (c.S xs p g):=by
 have hl:((arr.toList.drop base).take n).length=n:=by
  rw [List.length_take,List.length_drop]
  exact Nat.min_eq_left (Nat.le_sub_of_add_le' hn)
 have kq:∀{i x},i<n->((arr.toList.drop base).take n)[i]? =some x->kr c.rk arr (base+i)=c.rk x:=fun hi e=>jL ((yF hi).symm.trans ((List.getElem?_toArray ..).trans e))
 have hs:Srt c.rk arr base (base+n):=fun i j h1 h2 h3=>by
  obtain ⟨i,rfl⟩:=Nat.exists_eq_add_of_le h1
  obtain ⟨j,rfl⟩:=Nat.exists_eq_add_of_le (Nat.le_trans h1 h2)
  have hj:=Nat.lt_of_add_lt_add_left h3
  have hi:=Nat.le_of_add_le_add_left h2
  rw [<-jM (yF (Nat.lt_of_le_of_lt hi hj)),<-jM (yF hj)]
  exact j1j SX hi (Nat.lt_of_lt_of_eq hj hl.symm)
 refine wpS_bind (wX (p:=pbe c.rk left key arr base) (fun hi h=>wpS_bind (UZ c.ask rfl hk (Exists.elim (JB (Nat.lt_of_lt_of_le (Nat.add_lt_add_left hi base) hn)) fun x e=>⟨x,e,PX x (jy e)⟩) h)) (fun a b e=>j0c hs a b e) (fun k k1 k2 k3=>h k k1 (fun x hx=> ?_) fun x hx=> ?_) hh)
 ·obtain ⟨i,hi,e⟩:=wW hx
  exact (kq (Nat.lt_of_lt_of_le hi k1) e)▸pbe_le (k2 i hi)
 ·obtain ⟨i,e⟩:=List.mem_iff_getElem?.mp hx
  rw [List.getElem?_drop] at e
  have hi:k+i<n:=hl▸(List.getElem?_eq_some_iff.mp e).1
  exact (kq hi e)▸pbe_ge (k3 (k+i) (Nat.le_add_right ..) hi)
end
structure Mg (rk:Keyed->Int)(all o ra rb:List Keyed):Prop where
 perm:(o++(ra++rb)).Perm all
 sa:Up' rk (o++ra)
 sb:Up' rk (o++rb)
structure MFin (rk:Keyed->Int)(a b r:Array Keyed):Prop where
 perm:r.toList.Perm (a.toList++b.toList)
 srt:Up' rk r.toList
section
variable {rk:Keyed->Int} {all o ra rb t:List Keyed}
theorem Mg.swap (h:Mg rk all o ra rb):Mg rk all o rb ra:=⟨(List.Perm.append_left _ List.perm_append_comm).trans h.perm,h.sb,h.sa⟩
theorem Mg.upA (h:Mg rk all o ra rb):Up' rk ra:=(List.pairwise_append.mp h.sa).2.1
theorem Mg.many (h:Mg rk all o (t++ra) rb)(ht:∀x∈t,∀y∈rb,rk x<=rk y):Mg rk all (o++t) ra rb:=
 have e:=(List.append_assoc o t ra).symm▸h.sa
 have q:=List.pairwise_append.mp h.sb
 ⟨by rw [List.append_assoc,<-List.append_assoc t];exact h.perm,e,List.pairwise_append.mpr ⟨(List.pairwise_append.mp e).1,q.2.1,fun x hx y hy=>(List.mem_append.mp hx).elim (fun k=>q.2.2 x k y hy) fun k=>ht x k y hy⟩⟩
theorem Mg.push {out:Array Keyed}{x:Keyed}(h:Mg rk all out.toList (x::ra) rb)(ht:∀y∈rb,rk x<=rk y):Mg rk all (out.push x).toList ra rb:=
 Array.toList_push▸Mg.many (t:=[x]) h fun z hz y hy=>List.mem_singleton.mp hz▸ht y hy
theorem Mg.app {out m:Array Keyed}(h:Mg rk all out.toList (t++ra) rb)(e:m.toList=t)(ht:∀x∈t,∀y∈rb,rk x<=rk y):Mg rk all (out++m).toList ra rb:=
 Array.toList_append▸e.symm▸h.many ht
theorem Mg.fin (h:Mg rk all o ra rb)(hh:∀x∈ra,∀y∈rb,rk x<=rk y):Up' rk (o++(ra++rb)):=
 have p:=List.pairwise_append.mp h.sa
 have q:=List.pairwise_append.mp h.sb
 List.pairwise_append.mpr ⟨p.1,List.pairwise_append.mpr ⟨p.2.1,q.2.1,hh⟩,fun x hx y hy=>(List.mem_append.mp hy).elim (p.2.2 x hx y) (q.2.2 x hx y)⟩
theorem j1k {v:Keyed}{l:List Keyed}(h:Up' rk (v::l))(y:Keyed)(hy:y∈v::l):rk v<=rk y:=
 (List.mem_cons.mp hy).elim (fun e=>e▸Int.le_refl _) ((List.pairwise_cons.mp h).1 y)
end
end Mine
set_option genSizeOf false
namespace Mine
open PySem PyProof.Rows
noncomputable abbrev MT (X Y Z γ:Type):=Option (Array Keyed) × X × Y × Z × γ
section
variable {X Y Z:Type} (N:Nat) (fA:Nat->X->Y->Z->Nat->Nat->StateT SortSt Sem (ForInStep (MT X Y Z (Nat × Nat)))) (f1:X->Y->Z->Nat->Nat->Nat->StateT SortSt Sem (ForInStep (MT X Y Z (Nat × Nat × Nat))))
noncomputable def mgE (u:MT X Y Z (Nat × Nat × Nat)):StateT SortSt Sem (ForInStep (MT X Y Z Nat)):=
 oE u.1 (fun r=>pure (.done (some r,u.2.1,u.2.2.1,u.2.2.2.1,u.2.2.2.2.1))) (J0 (u.2.2.2.2.1+1)>>=fun _=>pure (.yield (none,u.2.1,u.2.2.1,u.2.2.2.1,u.2.2.2.2.1+1)))
noncomputable def mgS (u:MT X Y Z (Nat × Nat × Nat)):StateT SortSt Sem (ForInStep (MT X Y Z (Nat × Nat × Nat))):=
 if u.2.2.2.2.1>1 then f1 u.2.1 u.2.2.1 u.2.2.2.1 (u.2.2.2.2.1-1) u.2.2.2.2.2.1 u.2.2.2.2.2.2 else f1 u.2.1 u.2.2.1 u.2.2.2.1 u.2.2.2.2.1 u.2.2.2.2.2.1 u.2.2.2.2.2.2
noncomputable def mgR (mg:Nat)(x:X)(y:Y)(z:Z)(d:Nat × Nat):StateT SortSt Sem (ForInStep (MT X Y Z Nat)):=
 forIn [:N] ((none,x,y,z,mg+1,d.1,d.2):MT X Y Z (Nat × Nat × Nat)) (fun _ u=>mgS f1 u)>>=mgE
noncomputable def mgP (mg:Nat)(t:MT X Y Z (Nat × Nat)):StateT SortSt Sem (ForInStep (MT X Y Z Nat)):=
 oE t.1 (fun r=>pure (.done (some r,t.2.1,t.2.2.1,t.2.2.2.1,mg))) (liftM (rule "list.sort.gallop")>>=fun _=>mgR N f1 mg t.2.1 t.2.2.1 t.2.2.2.1 t.2.2.2.2)
noncomputable def mgA (mg:Nat)(t:MT X Y Z (Nat × Nat)):StateT SortSt Sem (ForInStep (MT X Y Z (Nat × Nat))):=fA mg t.2.1 t.2.2.1 t.2.2.2.1 t.2.2.2.2.1 t.2.2.2.2.2
noncomputable def mgO (s:MT X Y Z Nat):StateT SortSt Sem (ForInStep (MT X Y Z Nat)):=
 forIn [:N] ((none,s.2.1,s.2.2.1,s.2.2.2.1,0,0):MT X Y Z (Nat × Nat)) (fun _ t=>mgA fA s.2.2.2.2 t)>>=mgP N f1 s.2.2.2.2
noncomputable def mgF (s:MT X Y Z Nat):StateT SortSt Sem (Array Keyed):=oE s.1 pure (liftM (unsupported "internal:list.sort.merge-bound":Sem (Array Keyed)))
noncomputable def mgM (x:X)(y:Y)(z:Z):StateT SortSt Sem (Array Keyed):=get>>=fun st=>forIn [:N] ((none,x,y,z,gallopOf st):MT X Y Z Nat) (fun _ s=>mgO N fA f1 s)>>=mgF
end
inductive Mt (c:Sx)(xs:Array Keyed)(p:Array (Nat × Nat × Nat)){X Y Z:Type}(L:X->Y->Z->Prop)(F:Array Keyed->Prop){γ:Type}:MT X Y Z γ->SortSt->Prop
 | fin {r:Array Keyed} {x:X} {y:Y} {z:Z} {d:γ} {g:Nat}:F r->Mt c xs p L F (some r,x,y,z,d) (c.S xs p g)
 | go {x:X} {y:Y} {z:Z} {d:γ} {g:Nat}:L x y z->Mt c xs p L F (none,x,y,z,d) (c.S xs p g)
section
variable {c:Sx} {xs:Array Keyed} {p:Array (Nat × Nat × Nat)} {X Y Z γ:Type} {L:X->Y->Z->Prop} {F:Array Keyed->Prop} {x:X} {y:Y} {z:Z} {d:γ} {g:Nat}
noncomputable abbrev nil3 (_:X)(_:Y)(_:Z):Prop:=False
noncomputable def Gq (c:Sx)(xs:Array Keyed)(p:Array (Nat × Nat × Nat))(K L:X->Y->Z->Prop)(F:Array Keyed->Prop):ForInStep (MT X Y Z γ)->SortSt->Prop:=Sq (Mt c xs p K F) (Mt c xs p L fun _=>False)
theorem Gq.both {q:Prop}{_:Decidable q}(h:L x y z):WQ c (if q then pure (.done (none,x,y,z,d)) else pure (.yield (none,x,y,z,d))) (Gq c xs p L L F) (c.S xs p g):=.ite (fun _=>wpS_pure (Mt.go h)) fun _=>wpS_pure (Mt.go h)
theorem Gq.fin {i j:Nat}{r:Array Keyed}{m:StateT SortSt Sem (ForInStep (MT X Y Z γ))}(h1:i=j->F r)(h2:i≠j->WQ c m (Gq c xs p L L F) (c.S xs p g)):WQ c (if (i==j)=true then pure (.done (some r,x,y,z,d)) else m) (Gq c xs p L L F) (c.S xs p g):=.beq (fun q=>wpS_pure (Mt.fin (h1 q))) h2
variable {N:Nat} {fA:Nat->X->Y->Z->Nat->Nat->StateT SortSt Sem (ForInStep (MT X Y Z (Nat × Nat)))} {f1:X->Y->Z->Nat->Nat->Nat->StateT SortSt Sem (ForInStep (MT X Y Z (Nat × Nat × Nat)))} {L:Nat->X->Y->Z->Prop}
theorem Mt.live {t:MT X Y Z γ}{st:SortSt}{K:X->Y->Z->Prop}{R:MT X Y Z γ->SortSt->Prop}(h:Mt c xs p K (fun _=>False) t st)(hg:∀{x y z d g},K x y z->R (none,x,y,z,d) (c.S xs p g)):R t st:=by
 cases h with
 | fin h=>exact h.elim
 | go h=>exact hg h
theorem wq_mgE {K:X->Y->Z->Prop}{t:MT X Y Z (Nat × Nat × Nat)}{st:SortSt}(h:Mt c xs p K F t st):WQ c (mgE t) (Gq c xs p nil3 K F) st:=by
 cases h with
 | fin h=>exact wpS_pure (Mt.fin h)
 | go h=>exact .set (wpS_pure (Mt.go h))
theorem wq_mgP {i mg:Nat}{t:MT X Y Z (Nat × Nat)}{st:SortSt}(h1:∀{n x y z mg ac bc g},L n x y z->WQ c (f1 x y z mg ac bc) (Gq c xs p (L n) (L n) F) (c.S xs p g))(h:Mt c xs p (L i) F t st):WQ c (mgP N f1 mg t) (Gq c xs p nil3 (L i) F) st:=by
 cases h with
 | fin h=>exact wpS_pure (Mt.fin h)
 | go h=>exact .rule (.forB (fun _=>Mt c xs p (L i) fun _=>False) (Mt c xs p (L i) F) (fun _ d st m=>m.live (R:=fun d st=>WQ c (mgS f1 d) (Gq c xs p (L i) (L i) F) st) fun h=>.ite (fun _=>h1 h) fun _=>h1 h) (fun d st m=>m.live .go) (.go h) fun d st m=>wq_mgE m)
theorem wq_mgO {i:Nat}{s:MT X Y Z Nat}{st:SortSt}(hA:∀{n x y z mg ac bc g},L n x y z->WQ c (fA mg x y z ac bc) (Gq c xs p (L (n+1)) (L (n+1)) F) (c.S xs p g))(h1:∀{n x y z mg ac bc g},L n x y z->WQ c (f1 x y z mg ac bc) (Gq c xs p (L n) (L n) F) (c.S xs p g))
  (hm:∀{n x y z},L (n+1) x y z->L n x y z) (h:Mt c xs p (L i) (fun _=>False) s st):WQ c (mgO (N+1) fA f1 s) (Gq c xs p nil3 (L (i+1)) F) st:=
 h.live (R:=fun s st=>WQ c (mgO (N+1) fA f1 s) (Gq c xs p nil3 (L (i+1)) F) st) fun h=>
  .forB (fun k=>Mt c xs p (L (Nat.rec i (fun _ _=>i+1) k)) fun _=>False) (Mt c xs p (L (i+1)) F) (fun k d st m=>m.live (R:=fun d st=>WQ c (mgA fA _ d) (Gq c xs p (L (i+1)) (L (i+1)) F) st) fun h=>by
    cases k with
    | zero=>exact hA h
    | succ k=>exact hA (hm h)) (fun d st m=>m.live .go) (.go h) fun d st m=>wq_mgP h1 m
theorem j0E {Q:Array Keyed->SortSt->Prop}(hA:∀{n x y z mg ac bc g},L n x y z->WQ c (fA mg x y z ac bc) (Gq c xs p (L (n+1)) (L (n+1)) F) (c.S xs p g))(h1:∀{n x y z mg ac bc g},L n x y z->WQ c (f1 x y z mg ac bc) (Gq c xs p (L n) (L n) F) (c.S xs p g))
  (hm:∀{n x y z},L (n+1) x y z->L n x y z) (hN:1<=N) (hF:∀{x y z},¬L N x y z) (h0:L 0 x y z) (h:∀r g,F r->Q r (c.S xs p g)):WQ c (mgM N fA f1 x y z) Q (c.S xs p g):=by
 obtain ⟨N,rfl⟩:=Nat.exists_eq_add_of_le' hN
 exact wpS_bind (wpS_get (WQ.forB (fun k=>Mt c xs p (L k) fun _=>False) (Mt c xs p nil3 F) (fun k d st m=>wq_mgO hA h1 hm m) (fun d st m=>m.live fun h=>(hF h).elim) (.go h0) fun d st m=>by
  cases m with
  | fin h2=>exact wpS_pure (h _ _ h2)
  | go h=>exact h.elim))
end
end Mine
set_option genSizeOf false
namespace Mine
open PySem PyProof.Rows
section
variable (a b:Array Keyed)
noncomputable abbrev LoT (γ:Type):=ForInStep (MT (Array Keyed) Nat Nat γ)
noncomputable def lo3K (ia ib mg k k1:Nat)(o:Array Keyed):StateT SortSt Sem (LoT (Nat × Nat × Nat)):=
 if (ia+1+1==a.size)=true then pure (.done (some (JX a b o (ia+1) ib),o,ia+1,ib,mg,k,k1))
 else if (decide (k<7)&&decide (k1<7))=true then pure (.done (none,o,ia+1,ib,mg,k,k1)) else pure (.yield (none,o,ia+1,ib,mg,k,k1))
noncomputable def lo3 (o:Array Keyed)(ia ib mg k k1:Nat):StateT SortSt Sem (LoT (Nat × Nat × Nat)):=elem' a ia>>=fun z=>lo3K a b ia ib mg k k1 (o.push z)
noncomputable def lo2G (ia ib mg k k1:Nat)(o:Array Keyed):StateT SortSt Sem (LoT (Nat × Nat × Nat)):=
 if (ib==b.size)=true then pure (.done (some (Yj a b o ia ib),o,ia,ib,mg,k,k1)) else lo3 a b o ia ib mg k k1
noncomputable def lo2N (ia ib mg k:Nat)(o:Array Keyed)(k1:Nat):StateT SortSt Sem (LoT (Nat × Nat × Nat)):=if k1>0 then lo2G a b ia (ib+k1) mg k k1 (o++b.extract ib (ib+k1)) else lo3 a b o ia ib mg k k1
noncomputable def lo2K (ia ib mg k bc:Nat)(o:Array Keyed):StateT SortSt Sem (LoT (Nat × Nat × Nat)):=
 if (ib==b.size)=true then pure (.done (some (Yj a b o ia ib),o,ia,ib,mg,k,bc))
 else elem' a ia>>=fun z=>J8 true z b ib (b.size-ib) 0>>=fun x=>oM x (lo2N a b ia ib mg k o) (pure (.done (some (Yj a b o ia ib),o,ia,ib,mg,k,bc)))
noncomputable def lo2 (o:Array Keyed)(ia ib mg k bc:Nat):StateT SortSt Sem (LoT (Nat × Nat × Nat)):=elem' b ib>>=fun y=>lo2K a b ia (ib+1) mg k bc (o.push y)
noncomputable def lo1G (ia ib mg k bc:Nat)(o:Array Keyed):StateT SortSt Sem (LoT (Nat × Nat × Nat)):=
 if (ia+1==a.size)=true then pure (.done (some (JX a b o ia ib),o,ia,ib,mg,k,bc))
 else if (ia==a.size)=true then pure (.done (some (Yj a b o ia ib),o,ia,ib,mg,k,bc)) else lo2 a b o ia ib mg k bc
noncomputable def lo1N (out:Array Keyed)(ia ib mg bc k:Nat):StateT SortSt Sem (LoT (Nat × Nat × Nat)):=if k>0 then lo1G a b (ia+k) ib mg k bc (out++a.extract ia (ia+k)) else lo2 a b out ia ib mg k bc
noncomputable def lo1 (out:Array Keyed)(ia ib mg ac bc:Nat):StateT SortSt Sem (LoT (Nat × Nat × Nat)):=
 J0 mg>>=fun _=>elem' b ib>>=fun v=>J8 false v a ia (a.size-ia) 0>>=fun x=>oM x (lo1N a b out ia ib mg bc) (pure (.done (some (Yj a b out ia ib),out,ia,ib,mg,ac,bc)))
noncomputable def loAB (mg ia ib bc:Nat)(o:Array Keyed):StateT SortSt Sem (LoT (Nat × Nat)):=
 if (ib+1==b.size)=true then pure (.done (some (Yj a b o ia (ib+1)),o,ia,ib+1,0,bc+1))
 else if bc+1>=mg then pure (.done (none,o,ia,ib+1,0,bc+1)) else pure (.yield (none,o,ia,ib+1,0,bc+1))
noncomputable def loAA (mg ia ib ac:Nat)(o:Array Keyed):StateT SortSt Sem (LoT (Nat × Nat)):=
 if (ia+1+1==a.size)=true then pure (.done (some (JX a b o (ia+1) ib),o,ia+1,ib,ac+1,0))
 else if ac+1>=mg then pure (.done (none,o,ia+1,ib,ac+1,0)) else pure (.yield (none,o,ia+1,ib,ac+1,0))
noncomputable def loA (mg:Nat)(out:Array Keyed)(ia ib ac bc:Nat):StateT SortSt Sem (LoT (Nat × Nat)):=
 elem' b ib>>=fun u=>elem' a ia>>=fun v=>lt' u v>>=fun x=>oM x (fun w=>if w=true then elem' b ib>>=fun y=>loAB a b mg ia ib bc (out.push y) else elem' a ia>>=fun y=>loAA a b mg ia ib ac (out.push y))
  (pure (.done (some (Yj a b out ia ib),out,ia,ib,ac,bc)))
theorem uO:uf a b=(liftM (rule "list.sort.merge-lo")>>=fun _=>elem' b 0>>=fun x=>
 if (1==b.size)=true then pure (Yj a b #[x] 0 1)
 else if (0+1==a.size)=true then pure (JX a b #[x] 0 1)
 else mgM (a.size+b.size) (loA a b) (lo1 a b) #[x] 0 1):=by kernel_rfl
end
structure Mx (c:Sx)(a b:Array Keyed):Prop where
 pa:∀x∈a.toList,c.P x
 pb:∀x∈b.toList,c.P x
 ua:Up' c.rk a.toList
 ub:Up' c.rk b.toList
 na:0<a.size
 nb:0<b.size
 h1:∀y,b[0]? =some y->∀x∈a.toList,c.rk y<=c.rk x
 h2:∀x,a[a.size-1]? =some x->∀y∈b.toList,c.rk y<=c.rk x
noncomputable abbrev Ml (c:Sx)(a b out:Array Keyed)(ia ib:Nat):Prop:=Mg c.rk (a.toList++b.toList) out.toList (a.toList.drop ia) (b.toList.drop ib)
structure LoL (c:Sx)(a b:Array Keyed)(n:Nat)(out:Array Keyed)(ia ib:Nat):Prop where
 m:Ml c a b out ia ib
 ha:ia+1<a.size
 hb:ib<b.size
 hn:n<=out.size
section
variable {c:Sx} {a b out:Array Keyed} {ia ib n mg ac bc k k1 g:Nat} {xs:Array Keyed} {p:Array (Nat × Nat × Nat)}
theorem um (m:Array Keyed)(h:n<=out.size):n<=(out++m).size:=Nat.le_trans h (Array.size_append▸Nat.le_add_right ..)
theorem size_push (x:Keyed)(h:n<=out.size):n+1<=(out.push x).size:=Array.size_push x▸Nat.succ_le_succ h
theorem yS (m:Array Keyed)(i:Nat):(m.extract i m.size).toList=m.toList.drop i:=(jV ..).trans (List.take_of_length_le (Nat.le_of_eq (List.length_drop ..)))
theorem yT (m:List Keyed)(i k:Nat):m.drop i=(m.drop i).take k++m.drop (i+k):=by rw [<-List.drop_drop,List.take_append_drop]
theorem Ml.done (M:Ml c a b out ia ib)(h:ia=a.size\/ib=b.size):MFin c.rk a b (Yj a b out ia ib):=
 have e:(Yj a b out ia ib).toList=out.toList++(a.toList.drop ia++b.toList.drop ib):=by
  unfold Yj;rw [Array.toList_append,Array.toList_append,yS,yS,List.append_assoc]
 ⟨e▸M.perm,e▸M.fin fun x hx y hy=>h.elim (fun q=>absurd (q▸hx) (List.drop_length▸List.not_mem_nil)) fun q=>absurd (q▸hy) (List.drop_length▸List.not_mem_nil)⟩
theorem Ml.last (X:Mx c a b)(M:Ml c a b out ia ib)(h:ia+1=a.size):MFin c.rk a b (JX a b out ia ib):=
 have e:(JX a b out ia ib).toList=out.toList++(b.toList.drop ib++a.toList.drop ia):=by
  unfold JX;rw [Array.toList_append,Array.toList_append,yS,yS,List.append_assoc]
 ⟨e▸M.swap.perm,e▸M.swap.fin fun y hy x hx=>Exists.elim (JB (Nat.lt_of_succ_le (Nat.le_of_eq h))) fun v e=>List.mem_singleton.mp ((yw e).trans (congrArg (v::·) (List.drop_eq_nil_of_le (Nat.le_of_eq h.symm)))▸hx)▸X.h2 v ((show ia=a.size-1 from h▸rfl)▸e) y (List.mem_of_mem_drop hy)⟩
theorem j0e {x y:Keyed}(S:Up' c.rk (a.toList.drop ia))(e:a[ia]? =some y)(h:c.rk x<=c.rk y):∀z∈a.toList.drop ia,c.rk x<=c.rk z:=fun z hz=>Int.le_trans h (j1k (yw e▸S) z (yw e▸hz))
theorem Ml.pushA {x:Keyed}(M:Ml c a b out ia ib)(e:a[ia]? =some x)(h:∀y∈b.toList.drop ib,c.rk x<=c.rk y):Ml c a b (out.push x) (ia+1) ib:=Mg.push (yw e▸M) h
theorem Ml.pushB {x:Keyed}(M:Ml c a b out ia ib)(e:b[ib]? =some x)(h:∀y∈a.toList.drop ia,c.rk x<=c.rk y):Ml c a b (out.push x) ia (ib+1):=(Mg.push (yw e▸M.swap) h).swap
theorem Ue (m:Array Keyed)(i k:Nat):(m.extract i (i+k)).toList=(m.toList.drop i).take k:=(jV ..).trans (by rw [Nat.add_sub_cancel_left])
theorem WQ.galL {α:Type}{Q:α->SortSt->Prop}{left:Bool}{key:Keyed}{f:Nat->StateT SortSt Sem α}{m:StateT SortSt Sem α}(hk:c.P key)(PX:∀x∈a.toList,c.P x)(SX:Up' c.rk (a.toList.drop ia))(hi:ia<a.size)
  (h:∀k,ia+k<=a.size->(∀x∈(a.toList.drop ia).take k,c.rk x<=c.rk key)->(∀x∈a.toList.drop (ia+k),c.rk key<=c.rk x)->WQ c (f k) Q (c.S xs p g)):WQ c (J8 left key a ia (a.size-ia) 0>>=fun x=>oM x f m) Q (c.S xs p g):=
 have e:(a.toList.drop ia).take (a.size-ia)=a.toList.drop ia:=List.take_of_length_le (Nat.le_of_eq (List.length_drop ..))
 have q:=Nat.add_sub_cancel' (Nat.le_of_lt hi)
 .gal hk PX (Nat.le_of_eq q) (e.symm▸SX) (Nat.sub_pos_of_lt hi) fun k h1 h2 h3=>h k (Nat.le_trans (Nat.add_le_add_left h1 ia) (Nat.le_of_eq q)) (e▸h2) (List.drop_drop▸e▸h3)
variable (X:Mx c a b)
include X
theorem j0F (M:Ml c a b out ia ib)(ha:ia+1<a.size)(hb:ib<b.size)(hn:n<=out.size)(hA:∀z,a[ia]? =some z->∀y∈b.toList.drop ib,c.rk z<=c.rk y):WQ c (lo3 a b out ia ib mg k k1) (Gq c xs p (LoL c a b n) (LoL c a b n) (MFin c.rk a b)) (c.S xs p g):=
 .elem X.pa (Nat.lt_of_succ_lt ha) fun z e=>Gq.fin (fun q=>(M.pushA e (hA z e)).last X q) fun q=>Gq.both ⟨M.pushA e (hA z e),Nat.lt_of_le_of_ne ha q,hb,Nat.le_of_succ_le (size_push z hn)⟩
theorem j1l {z:Keyed}(M:Ml c a b out ia ib)(ha:ia+1<a.size)(hb:ib<b.size)(hn:n<=out.size)(e:a[ia]? =some z)(c1:ib+k1<=b.size)(c2:∀x∈(b.toList.drop ib).take k1,c.rk x<=c.rk z)(c3:∀x∈b.toList.drop (ib+k1),c.rk z<=c.rk x):
  WQ c (lo2N a b ia ib mg k out k1) (Gq c xs p (LoL c a b n) (LoL c a b n) (MFin c.rk a b)) (c.S xs p g):=
 have hA:∀z',a[ia]? =some z'->∀y∈b.toList.drop (ib+k1),c.rk z'<=c.rk y:=fun z' e'=>Option.some.inj (e.symm.trans e')▸c3
 have M3:Ml c a b (out++b.extract ib (ib+k1)) ia (ib+k1):=(Mg.app (yT _ _ k1▸M.swap) (Ue b ib k1) fun x hx=>j0e M.upA e (c2 x hx)).swap
 .ite (fun _=>Gq.fin (fun q=>M3.done (.inr q)) fun q=>j0F X M3 ha (Nat.lt_of_le_of_ne c1 q) (um _ hn) hA) fun q=>j0F X M ha hb hn ((Nat.eq_zero_of_not_pos q▸hA:∀z',a[ia]? =some z'->∀y∈b.toList.drop (ib+0),c.rk z'<=c.rk y))
theorem j0G (M:Ml c a b out ia ib)(ha:ia+1<a.size)(hb:ib<b.size)(hn:n<=out.size)(hB:∀v,b[ib]? =some v->∀x∈a.toList.drop ia,c.rk v<=c.rk x):WQ c (lo2 a b out ia ib mg k bc) (Gq c xs p (LoL c a b n) (LoL c a b n) (MFin c.rk a b)) (c.S xs p g):=
 .elem X.pb hb fun y e=>
  have M2:=M.pushB e (hB y e)
  Gq.fin (fun q=>M2.done (.inr q)) fun q=>.elem X.pa (Nat.lt_of_succ_lt ha) fun z e2=>.galL (X.pa z (jy e2)) X.pb M2.swap.upA (Nat.lt_of_le_of_ne hb q) fun k1 c1 c2 c3=>
   j1l X M2 ha (Nat.lt_of_le_of_ne hb q) (Nat.le_of_succ_le (size_push y hn)) e2 c1 c2 c3
theorem j1m {v:Keyed}(M:Ml c a b out ia ib)(ha:ia+1<a.size)(hb:ib<b.size)(hn:n<=out.size)(e:b[ib]? =some v)(c1:ia+k<=a.size)(c2:∀x∈(a.toList.drop ia).take k,c.rk x<=c.rk v)(c3:∀x∈a.toList.drop (ia+k),c.rk v<=c.rk x):
  WQ c (lo1N a b out ia ib mg bc k) (Gq c xs p (LoL c a b n) (LoL c a b n) (MFin c.rk a b)) (c.S xs p g):=
 have hB:∀z',b[ib]? =some z'->∀y∈a.toList.drop (ia+k),c.rk z'<=c.rk y:=fun z' e'=>Option.some.inj (e.symm.trans e')▸c3
 have M3:Ml c a b (out++a.extract ia (ia+k)) (ia+k) ib:=Mg.app (yT _ _ k▸M) (Ue a ia k) fun x hx=>j0e M.swap.upA e (c2 x hx)
 .ite (fun _=>Gq.fin (fun q=>M3.last X q) fun q=>Gq.fin (fun q=>M3.done (.inl q)) fun q2=>j0G X M3 (Nat.lt_of_le_of_ne (Nat.lt_of_le_of_ne c1 q2) q) hb (um _ hn) hB) fun q=>j0G X M ha hb hn ((Nat.eq_zero_of_not_pos q▸hB:∀z',b[ib]? =some z'->∀y∈a.toList.drop (ia+0),c.rk z'<=c.rk y))
theorem wq_lo1 (h:LoL c a b n out ia ib):WQ c (lo1 a b out ia ib mg ac bc) (Gq c xs p (LoL c a b n) (LoL c a b n) (MFin c.rk a b)) (c.S xs p g):=
 .set (.elem X.pb h.hb fun v e=>.galL (X.pb v (jy e)) X.pa h.m.upA (Nat.lt_of_succ_lt h.ha) fun k c1 c2 c3=>j1m X h.m h.ha h.hb h.hn e c1 c2 c3)
theorem wq_loA (h:LoL c a b n out ia ib):WQ c (loA a b mg out ia ib ac bc) (Gq c xs p (LoL c a b (n+1)) (LoL c a b (n+1)) (MFin c.rk a b)) (c.S xs p g):=
 .elem X.pb h.hb fun u eu=>.elem X.pa (Nat.lt_of_succ_lt h.ha) fun v ev=>.lt (X.pb u (jy eu)) (X.pa v (jy ev))
  (fun q=>.elem X.pb h.hb fun y e=>
   have M:=h.m.pushB e (Option.some.inj (eu.symm.trans e)▸j0e h.m.upA ev q)
   Gq.fin (fun q=>M.done (.inr q)) fun q=>Gq.both ⟨M,h.ha,Nat.lt_of_le_of_ne h.hb q,size_push y h.hn⟩)
  fun q=>.elem X.pa (Nat.lt_of_succ_lt h.ha) fun y e=>
   have M:=h.m.pushA e (Option.some.inj (ev.symm.trans e)▸j0e h.m.swap.upA eu q)
   Gq.fin (fun q=>M.last X q) fun q=>Gq.both ⟨M,Nat.lt_of_le_of_ne h.ha q,h.hb,size_push y h.hn⟩
theorem wq_lo {Q:Array Keyed->SortSt->Prop}(h:∀r g,MFin c.rk a b r->Q r (c.S xs p g)):WQ c (uf a b) Q (c.S xs p g):=
 uO a b▸.rule (.elem X.pb X.nb fun x e=>
  have M0:Ml c a b #[] 0 0:=⟨.refl _,X.ua,X.ub⟩
  have M:=M0.pushB e (X.h1 x e)
  .beq (fun q=>wpS_pure (h _ _ (M.done (.inr q)))) fun q=>.beq (fun q=>wpS_pure (h _ _ (M.last X q))) fun q2=>
   j0E (L:=LoL c a b) (wq_loA X) (wq_lo1 X) (fun h=>⟨h.m,h.ha,h.hb,Nat.le_of_succ_le h.hn⟩) (Nat.le_trans X.na (Nat.le_add_right ..)) (fun h=>by
    have e:=h.m.perm.length_eq
    rw [List.length_append,List.length_append,List.length_append,List.length_drop,List.length_drop] at e
    exact Nat.not_le_of_lt (Nat.lt_of_lt_of_eq (Nat.lt_add_of_pos_right (Nat.add_pos_right _ (Nat.sub_pos_of_lt h.hb))) e) h.hn) ⟨M,Nat.lt_of_le_of_ne X.na q2,Nat.lt_of_le_of_ne X.nb q,Nat.zero_le _⟩ h)
end
end Mine
set_option genSizeOf false
namespace Mine
open PySem PyProof.Rows
section
variable (a b:Array Keyed)
noncomputable abbrev HiT (γ:Type):=ForInStep (MT Nat Nat (Array Keyed) γ)
noncomputable def hi3K (na nb mg k k1:Nat)(o:Array Keyed):StateT SortSt Sem (HiT (Nat × Nat × Nat)):=
 if (na==0)=true then pure (.done (some (uh a b o na nb),na,nb,o,mg,k,k1))
 else if (decide (k<7)&&decide (k1<7))=true then pure (.done (none,na,nb,o,mg,k,k1)) else pure (.yield (none,na,nb,o,mg,k,k1))
noncomputable def hi3 (na nb:Nat)(o:Array Keyed)(mg k k1:Nat):StateT SortSt Sem (HiT (Nat × Nat × Nat)):=elem' a (na-1)>>=fun z=>hi3K a b (na-1) nb mg k k1 (o.push z)
noncomputable def hi2G (na k1 q mg k:Nat)(o:Array Keyed):StateT SortSt Sem (HiT (Nat × Nat × Nat)):=
 if (k1==1)=true then pure (.done (some (ym a b o na k1),na,k1,o,mg,k,q))
 else if (k1==0)=true then pure (.done (some (uh a b o na k1),na,k1,o,mg,k,q)) else hi3 a b na k1 o mg k q
noncomputable def hi2N (na nb mg k:Nat)(o:Array Keyed)(k1:Nat):StateT SortSt Sem (HiT (Nat × Nat × Nat)):=if nb-k1>0 then hi2G a b na k1 (nb-k1) mg k (o++(b.extract k1 nb).reverse) else hi3 a b na nb o mg k (nb-k1)
noncomputable def hi2K (na nb mg k bc:Nat)(o:Array Keyed):StateT SortSt Sem (HiT (Nat × Nat × Nat)):=
 if (nb==1)=true then pure (.done (some (ym a b o na nb),na,nb,o,mg,k,bc))
 else elem' a (na-1)>>=fun z=>J8 true z b 0 nb (nb-1)>>=fun x=>oM x (hi2N a b na nb mg k o) (pure (.done (some (uh a b o na nb),na,nb,o,mg,k,bc)))
noncomputable def hi2 (na nb:Nat)(o:Array Keyed)(mg k bc:Nat):StateT SortSt Sem (HiT (Nat × Nat × Nat)):=elem' b (nb-1)>>=fun y=>hi2K a b na (nb-1) mg k bc (o.push y)
noncomputable def hi1G (k nb q mg bc:Nat)(o:Array Keyed):StateT SortSt Sem (HiT (Nat × Nat × Nat)):=
 if (k==0)=true then pure (.done (some (uh a b o k nb),k,nb,o,mg,q,bc)) else hi2 a b k nb o mg q bc
noncomputable def hi1N (na nb:Nat)(out:Array Keyed)(mg bc k:Nat):StateT SortSt Sem (HiT (Nat × Nat × Nat)):=if na-k>0 then hi1G a b k nb (na-k) mg bc (out++(a.extract k na).reverse) else hi2 a b na nb out mg (na-k) bc
noncomputable def hi1 (na nb:Nat)(out:Array Keyed)(mg ac bc:Nat):StateT SortSt Sem (HiT (Nat × Nat × Nat)):=
 J0 mg>>=fun _=>elem' b (nb-1)>>=fun v=>J8 false v a 0 na (na-1)>>=fun x=>oM x (hi1N a b na nb out mg bc) (pure (.done (some (uh a b out na nb),na,nb,out,mg,ac,bc)))
noncomputable def hiAA (mg na nb ac:Nat)(o:Array Keyed):StateT SortSt Sem (HiT (Nat × Nat)):=
 if (na==0)=true then pure (.done (some (uh a b o na nb),na,nb,o,ac+1,0))
 else if ac+1>=mg then pure (.done (none,na,nb,o,ac+1,0)) else pure (.yield (none,na,nb,o,ac+1,0))
noncomputable def hiAB (mg na nb bc:Nat)(o:Array Keyed):StateT SortSt Sem (HiT (Nat × Nat)):=
 if (nb==1)=true then pure (.done (some (ym a b o na nb),na,nb,o,0,bc+1))
 else if bc+1>=mg then pure (.done (none,na,nb,o,0,bc+1)) else pure (.yield (none,na,nb,o,0,bc+1))
noncomputable def hiA (mg na nb:Nat)(out:Array Keyed)(ac bc:Nat):StateT SortSt Sem (HiT (Nat × Nat)):=
 elem' b (nb-1)>>=fun u=>elem' a (na-1)>>=fun v=>lt' u v>>=fun x=>oM x (fun w=>if w=true then elem' a (na-1)>>=fun y=>hiAA a b mg (na-1) nb ac (out.push y) else elem' b (nb-1)>>=fun y=>hiAB a b mg na (nb-1) bc (out.push y))
  (pure (.done (some (uh a b out na nb),na,nb,out,ac,bc)))
theorem uP:ug a b=(liftM (rule "list.sort.merge-hi")>>=fun _=>elem' a (a.size-1)>>=fun x=>
 if (a.size-1==0)=true then pure (uh a b #[x] (a.size-1) b.size)
 else if (b.size==1)=true then pure (ym a b #[x] (a.size-1) b.size)
 else mgM (a.size+b.size) (hiA a b) (hi1 a b) (a.size-1) b.size #[x]):=by kernel_rfl
end
noncomputable abbrev Mh (c:Sx)(a b out:Array Keyed)(na nb:Nat):Prop:=Mg (fun x=> -c.rk x) (a.toList++b.toList) out.toList (a.toList.take na).reverse (b.toList.take nb).reverse
structure HiL (c:Sx)(a b:Array Keyed)(n na nb:Nat)(out:Array Keyed):Prop where
 m:Mh c a b out na nb
 ha:na<=a.size
 hb:nb<=b.size
 h1:0<na
 h2:1<nb
 hn:n<=out.size
section
variable {c:Sx} {a b out:Array Keyed} {na nb n mg ac bc k k1 g:Nat} {xs:Array Keyed} {p:Array (Nat × Nat × Nat)}
theorem UA {x:Keyed}(h:0<na)(e:a[na-1]? =some x):(a.toList.take na).reverse=x::(a.toList.take (na-1)).reverse:=by
 obtain ⟨m,rfl⟩:=Nat.exists_eq_add_of_lt h
 rw [Nat.zero_add] at*
 exact (congrArg List.reverse (wV e)).trans List.reverse_append
theorem wY (m:List Keyed)(h:k<=na):(m.take na).reverse=((m.take na).drop k).reverse++(m.take k).reverse:=by
 rw [<-List.reverse_append]
 exact congrArg List.reverse ((List.take_append_drop k (m.take na)).symm.trans (by rw [List.take_take,Nat.min_eq_left h]))
theorem wZ (m:Array Keyed)(k na:Nat):(m.extract k na).reverse.toList=((m.toList.take na).drop k).reverse:=by
 rw [Array.toList_reverse,jV,List.drop_take]
theorem j0H {r:Array Keyed}{o ra rb:List Keyed}(e:r.toList.reverse=o++(ra++rb))(M:Mg (fun x=> -c.rk x) (a.toList++b.toList) o ra rb)(h:∀x∈ra,∀y∈rb,c.rk y<=c.rk x):MFin c.rk a b r:=
 ⟨(List.reverse_perm _).symm.trans (e▸M.perm),(List.pairwise_reverse.mp (e▸M.fin fun x hx y hy=>Int.neg_le_neg (h x hx y hy))).imp fun h=>Int.le_of_neg_le_neg h⟩
theorem yU (m:Array Keyed)(i:Nat):(m.extract 0 i).toList=m.toList.take i:=jV ..
theorem uQ (u v w:Array Keyed):(u++v++w.reverse).toList.reverse=w.toList++(v.toList.reverse++u.toList.reverse):=by
 rw [Array.toList_append,Array.toList_append,Array.toList_reverse,List.reverse_append,List.reverse_reverse,List.reverse_append]
theorem Mh.done (M:Mh c a b out na nb)(h:na=0\/nb=0):MFin c.rk a b (uh a b out na nb):=
 j0H ((uQ ..).trans (by rw [yU,yU])) M.swap fun y hy x hx=>h.elim (fun q=>by subst q;nomatch hx) fun q=>by subst q;nomatch hy
theorem Mh.first (X:Mx c a b)(M:Mh c a b out na nb)(h:nb=1):MFin c.rk a b (ym a b out na nb):=
 j0H ((uQ ..).trans (by rw [yU,yU])) M fun x hx y hy=>Exists.elim (JB X.nb) fun v e=>List.mem_singleton.mp (Eq.mp (congrArg (y∈·) (wV e)) (Eq.mp (congrArg (fun i=>y∈b.toList.take i) h) (List.mem_reverse.mp hy)))▸X.h1 v e x (List.mem_of_mem_take (List.mem_reverse.mp hx))
theorem Mh.pushA {x:Keyed}(M:Mh c a b out na nb)(h:0<na)(e:a[na-1]? =some x)(hle:∀y∈(b.toList.take nb).reverse,-c.rk x<=-c.rk y):Mh c a b (out.push x) (na-1) nb:=Mg.push (UA h e▸M) hle
theorem Mh.pushB {x:Keyed}(M:Mh c a b out na nb)(h:0<nb)(e:b[nb-1]? =some x)(hle:∀y∈(a.toList.take na).reverse,-c.rk x<=-c.rk y):Mh c a b (out.push x) na (nb-1):=(Mg.push (UA h e▸M.swap) hle).swap
theorem UB {x y:Keyed}(S:Up' (fun x=> -c.rk x) (a.toList.take na).reverse)(h:0<na)(e:a[na-1]? =some y)(hle:c.rk y<=c.rk x):∀z∈(a.toList.take na).reverse,-c.rk x<=-c.rk z:=fun z hz=>Int.le_trans (Int.neg_le_neg hle) (j1k (rk:=fun x=> -c.rk x) (UA h e▸S) z (UA h e▸hz))
theorem WQ.galH {α:Type}{Q:α->SortSt->Prop}{left:Bool}{key:Keyed}{f:Nat->StateT SortSt Sem α}{m:StateT SortSt Sem α}(hk:c.P key)(PX:∀x∈a.toList,c.P x)(SX:Up' c.rk a.toList)(hi:na<=a.size)(h0:0<na)
  (h:∀k,k<=na->(∀x∈(a.toList.take k).reverse,-c.rk key<=-c.rk x)->(∀x∈((a.toList.take na).drop k).reverse,c.rk key<=c.rk x)->WQ c (f k) Q (c.S xs p g)):WQ c (J8 left key a 0 na (na-1)>>=fun x=>oM x f m) Q (c.S xs p g):=
 .gal hk PX (Nat.le_trans (Nat.le_of_eq (Nat.zero_add na)) hi) (SX.sublist (List.take_sublist ..)) (Nat.sub_lt h0 Nat.one_pos) fun k h1 h2 h3=>h k h1 (fun x hx=>Int.neg_le_neg (h2 x ((by rw [List.take_take,Nat.min_eq_left h1];exact List.mem_reverse.mp hx:x∈(a.toList.take na).take k)))) fun x hx=>h3 x (List.mem_reverse.mp hx)
variable (X:Mx c a b)
include X
theorem j0I (M:Mh c a b out na nb)(ha:na<=a.size)(hb:nb<=b.size)(h1:0<na)(h2:1<nb)(hn:n<=out.size)(hA:∀z,a[na-1]? =some z->∀y∈(b.toList.take nb).reverse,-c.rk z<=-c.rk y):
  WQ c (hi3 a b na nb out mg k k1) (Gq c xs p (HiL c a b n) (HiL c a b n) (MFin c.rk a b)) (c.S xs p g):=
 .elem X.pa (Nat.sub_one_lt_of_le h1 ha) fun z e=>Gq.fin (fun q=>(M.pushA h1 e (hA z e)).done (.inl q)) fun q=>Gq.both ⟨M.pushA h1 e (hA z e),Nat.le_trans (Nat.sub_le ..) ha,hb,Nat.pos_of_ne_zero q,h2,Nat.le_of_succ_le (size_push z hn)⟩
theorem j1n {z:Keyed}(M:Mh c a b out na nb)(ha:na<=a.size)(hb:nb<=b.size)(h1:0<na)(h2:1<nb)(hn:n<=out.size)(e:a[na-1]? =some z)(c1:k1<=nb)(c2:∀x∈(b.toList.take k1).reverse,-c.rk z<=-c.rk x)(c3:∀x∈((b.toList.take nb).drop k1).reverse,c.rk z<=c.rk x):
  WQ c (hi2N a b na nb mg k out k1) (Gq c xs p (HiL c a b n) (HiL c a b n) (MFin c.rk a b)) (c.S xs p g):=
 have hA:∀z',a[na-1]? =some z'->∀y∈(b.toList.take k1).reverse,-c.rk z'<=-c.rk y:=fun z' e'=>Option.some.inj (e.symm.trans e')▸c2
 have M3:Mh c a b (out++(b.extract k1 nb).reverse) na k1:=(Mg.app (wY _ c1▸M.swap) (wZ b k1 nb) fun x hx=>UB M.upA h1 e (c3 x hx)).swap
 .ite (fun _=>Gq.fin (fun q=>M3.first X q) fun q=>Gq.fin (fun q=>M3.done (.inr q)) fun q2=>j0I X M3 ha (Nat.le_trans c1 hb) h1 (Nat.lt_of_le_of_ne (Nat.pos_of_ne_zero q2) (Ne.symm q)) (um _ hn) hA)
  fun q=>j0I X M ha hb h1 h2 hn ((Nat.le_antisymm c1 (Nat.le_of_sub_eq_zero (Nat.eq_zero_of_not_pos q)))▸hA)
theorem j0J (M:Mh c a b out na nb)(ha:na<=a.size)(hb:nb<=b.size)(h1:0<na)(h2:1<nb)(hn:n<=out.size)(hB:∀v,b[nb-1]? =some v->∀x∈(a.toList.take na).reverse,-c.rk v<=-c.rk x):
  WQ c (hi2 a b na nb out mg k bc) (Gq c xs p (HiL c a b n) (HiL c a b n) (MFin c.rk a b)) (c.S xs p g):=
 have h0:=Nat.lt_of_succ_lt h2
 .elem X.pb (Nat.sub_one_lt_of_le h0 hb) fun y e=>
  have M2:=M.pushB h0 e (hB y e)
  have hb2:=Nat.le_trans (Nat.sub_le nb 1) hb
  have h2':=Nat.le_sub_one_of_lt h2
  Gq.fin (fun q=>M2.first X q) fun q=>.elem X.pa (Nat.sub_one_lt_of_le h1 ha) fun z e2=>.galH (X.pa z (jy e2)) X.pb X.ub hb2 h2' fun k1 c1 c2 c3=>
   j1n X M2 ha hb2 h1 (Nat.lt_of_le_of_ne h2' (Ne.symm q)) (Nat.le_of_succ_le (size_push y hn)) e2 c1 c2 c3
theorem j1o {v:Keyed}(h:HiL c a b n na nb out)(e:b[nb-1]? =some v)(c1:k<=na)(c2:∀x∈(a.toList.take k).reverse,-c.rk v<=-c.rk x)(c3:∀x∈((a.toList.take na).drop k).reverse,c.rk v<=c.rk x):
  WQ c (hi1N a b na nb out mg bc k) (Gq c xs p (HiL c a b n) (HiL c a b n) (MFin c.rk a b)) (c.S xs p g):=
 have hB:∀z',b[nb-1]? =some z'->∀y∈(a.toList.take k).reverse,-c.rk z'<=-c.rk y:=fun z' e'=>Option.some.inj (e.symm.trans e')▸c2
 have M3:Mh c a b (out++(a.extract k na).reverse) k nb:=Mg.app (wY _ c1▸h.m) (wZ a k na) fun x hx=>UB h.m.swap.upA (Nat.lt_of_succ_lt h.h2) e (c3 x hx)
 .ite (fun _=>Gq.fin (fun q=>M3.done (.inl q)) fun q2=>j0J X M3 (Nat.le_trans c1 h.ha) h.hb (Nat.pos_of_ne_zero q2) h.h2 (um _ h.hn) hB)
  fun q=>j0J X h.m h.ha h.hb h.h1 h.h2 h.hn ((Nat.le_antisymm c1 (Nat.le_of_sub_eq_zero (Nat.eq_zero_of_not_pos q)))▸hB)
theorem wq_hi1 (h:HiL c a b n na nb out):WQ c (hi1 a b na nb out mg ac bc) (Gq c xs p (HiL c a b n) (HiL c a b n) (MFin c.rk a b)) (c.S xs p g):=
 .set (.elem X.pb (Nat.sub_one_lt_of_le (Nat.lt_of_succ_lt h.h2) h.hb) fun v e=>.galH (X.pb v (jy e)) X.pa X.ua h.ha h.h1 fun k c1 c2 c3=>j1o X h e c1 c2 c3)
theorem wq_hiA (h:HiL c a b n na nb out):WQ c (hiA a b mg na nb out ac bc) (Gq c xs p (HiL c a b (n+1)) (HiL c a b (n+1)) (MFin c.rk a b)) (c.S xs p g):=
 have h0:=Nat.lt_of_succ_lt h.h2
 have hb:=Nat.sub_one_lt_of_le h0 h.hb
 have ha:=Nat.sub_one_lt_of_le h.h1 h.ha
 .elem X.pb hb fun u eu=>.elem X.pa ha fun v ev=>.lt (X.pb u (jy eu)) (X.pa v (jy ev))
  (fun q=>.elem X.pa ha fun y e=>
   have M:=h.m.pushA h.h1 e (Option.some.inj (ev.symm.trans e)▸UB h.m.swap.upA h0 eu q)
   Gq.fin (fun q=>M.done (.inl q)) fun q=>Gq.both ⟨M,Nat.le_of_lt ha,h.hb,Nat.pos_of_ne_zero q,h.h2,size_push y h.hn⟩)
  fun q=>.elem X.pb hb fun y e=>
   have M:=h.m.pushB h0 e (Option.some.inj (eu.symm.trans e)▸UB h.m.upA h.h1 ev q)
   Gq.fin (fun q=>M.first X q) fun q=>Gq.both ⟨M,h.ha,Nat.le_of_lt hb,h.h1,Nat.lt_of_le_of_ne (Nat.le_sub_one_of_lt h.h2) (Ne.symm q),size_push y h.hn⟩
theorem wq_hi {Q:Array Keyed->SortSt->Prop}(h:∀r g,MFin c.rk a b r->Q r (c.S xs p g)):WQ c (ug a b) Q (c.S xs p g):=
 uP a b▸.rule (.elem X.pa (Nat.sub_lt X.na Nat.one_pos) fun x e=>
  have R:∀{m:Array Keyed},Up' c.rk m.toList->Up' (fun x=> -c.rk x) (m.toList.take m.size).reverse:=fun u=>List.pairwise_reverse.mpr ((u.sublist (List.take_sublist ..)).imp fun h=>Int.neg_le_neg h)
  have M0:Mh c a b #[] a.size b.size:=⟨by
   show ((a.toList.take a.toList.length).reverse++(b.toList.take b.toList.length).reverse).Perm _
   rw [List.take_length,List.take_length]
   exact (List.reverse_perm _).append (List.reverse_perm _),R X.ua,R X.ub⟩
  have M:=M0.pushA X.na e fun y hy=>Int.neg_le_neg (X.h2 x e y (List.mem_of_mem_take (List.mem_reverse.mp hy)))
  .beq (fun q=>wpS_pure (h _ _ (M.done (.inl q)))) fun q=>.beq (fun q=>wpS_pure (h _ _ (M.first X q))) fun q2=>
   j0E (L:=HiL c a b) (wq_hiA X) (wq_hi1 X) (fun h=>⟨h.m,h.ha,h.hb,h.h1,h.h2,Nat.le_of_succ_le h.hn⟩) (Nat.le_trans X.na (Nat.le_add_right ..)) (fun h=>by
    have e:=h.m.perm.length_eq
    rw [List.length_append,List.length_append,List.length_append,List.length_reverse,List.length_take,List.length_reverse] at e
    exact Nat.not_le_of_lt (Nat.lt_of_lt_of_eq (Nat.lt_add_of_pos_right (Nat.add_pos_left (Nat.lt_min.mpr ⟨h.h1,X.na⟩) _)) e) h.hn) ⟨M,Nat.sub_le ..,Nat.le_refl _,Nat.pos_of_ne_zero q,Nat.lt_of_le_of_ne X.nb (Ne.symm q2),Nat.zero_le _⟩ h)
end
structure Keep (lo hi:Nat)(xs ys:Array Keyed):Prop where
 perm:ys.Perm xs
 same:∀i,i<lo\/hi<=i->ys[i]? =xs[i]?
theorem Keep.refl {lo hi:Nat}{xs:Array Keyed}:Keep lo hi xs xs:=⟨.refl _,fun _ _=>rfl⟩
theorem Keep.trans {lo hi:Nat}{xs ys zs:Array Keyed}(h:Keep lo hi xs ys)(h2:Keep lo hi ys zs):Keep lo hi xs zs:=⟨h2.perm.trans h.perm,fun i hi=>(h2.same i hi).trans (h.same i hi)⟩
theorem Keep.size {lo hi:Nat}{xs ys:Array Keyed}(h:Keep lo hi xs ys):ys.size=xs.size:=h.perm.size_eq
theorem Keep.mono {lo hi lo' hi':Nat}{xs ys:Array Keyed}(h:Keep lo hi xs ys)(h1:lo'<=lo)(h2:hi<=hi'):Keep lo' hi' xs ys:=⟨h.perm,fun i hi=>h.same i (z1086 hi h1 h2)⟩
theorem Keep.mirror {lo hi i j:Nat}{xs:Array Keyed}(h1:lo<=i)(h2:j<=hi)(h3:j<=xs.size):Keep lo hi xs (mirror xs i j ((j-i)/2)):=
 ⟨mirror_perm _ _ _ _,fun k hk=>by exact (getElem?_mirror_all h3 ..).trans (if_neg (z1087 hk h1 h2) ..)⟩
theorem Keep.bubble {lo hi src d:Nat}{xs:Array Keyed}(hs:src<xs.size)(h2:src<hi)(h1:lo+d<=src):Keep lo hi xs (bubble xs src d):=
 ⟨bubble_perm _ _ _,fun k hk=>by rw [getElem?_bubble hs d (z899 h1),if_neg (z1088 h1 h2 hk),if_neg (z1089 h1 h2 hk)]⟩
theorem Keep.all {lo hi:Nat}{xs ys:Array Keyed}{P:Keyed->Prop}(h:Keep lo hi xs ys)(hp:∀x∈xs.toList,P x):∀x∈ys.toList,P x:=fun x hx=>hp x ((Array.perm_iff_toList_perm.mp h.perm).mem_iff.mp hx)
section
variable {rk:Keyed->Int}
theorem Yk {xs:Array Keyed}{i j:Nat}(hj:j<=xs.size)(k:Nat):kr rk (mirror xs i j ((j-i)/2)) k=if i<=k/\k<j then kr rk xs (i+j-1-k) else kr rk xs k:=by
 have e:=getElem?_mirror_all (i:=i) hj k
 split
 ·rename_i h;rw [if_pos h] at e;exact jM e
 ·rename_i h;rw [if_neg h] at e;exact jM e
theorem J9 {xs:Array Keyed}{i j:Nat}(hj:j<=xs.size)(heq:∀k,i<=k->k<j->kr rk xs k=kr rk xs (j-1))(k:Nat):kr rk (mirror xs i j ((j-i)/2)) k=kr rk xs k:=by
 rw [Yk hj]
 by_cases q:i<=k/\k<j
 ·rw [if_pos q];exact (heq _ (z879 q.2) (z1118 q.2 q.1)).trans (heq k q.1 q.2).symm
 ·exact if_neg q
theorem j1p {xs:Array Keyed}{lo s t:Nat}(hs:s<xs.size)(h':lo<=t)(h:t<=s)(S:Srt rk xs lo s)(h1:∀i,lo<=i->i<t->kr rk xs i<=kr rk xs s)(h2:∀i,t<=i->i<s->kr rk xs s<=kr rk xs i):Srt rk (bubble xs s (s-t)) lo (s+1):=fun i j h0 hij hj=>by
 have e:∀i,(bubble xs s (s-t))[i]? =if i=t then xs[s]? else if t<i/\i<=s then xs[i-1]? else xs[i]? :=fun i=>by
  have e:=getElem?_bubble hs (s-t) (Nat.sub_le ..) i
  rwa [Nat.sub_sub_self h] at e
 have A:∀i,i<t->kr rk (bubble xs s (s-t)) i=kr rk xs i:=fun i hi=>jM ((e i).trans ((if_neg (Nat.ne_of_lt hi)).trans (if_neg fun q=>Nat.lt_asymm hi q.1)))
 have B:kr rk (bubble xs s (s-t)) t=kr rk xs s:=jM ((e t).trans (if_pos rfl))
 have C:∀i,t<=i->i<s->kr rk (bubble xs s (s-t)) (i+1)=kr rk xs i:=fun i a b=>jM ((e _).trans ((if_neg (Nat.ne_of_gt (Nat.lt_succ_of_le a))).trans (if_pos ⟨Nat.lt_succ_of_le a,b⟩)))
 generalize bubble xs s (s-t)=b at*
 rcases Nat.lt_trichotomy j t with q| q| q
 ·rw [A j q,A i (Nat.lt_of_le_of_lt hij q)];exact S i j h0 hij (Nat.lt_of_lt_of_le q h)
 ·subst q
  rw [B]
  rcases Nat.lt_or_eq_of_le hij with q| q
  ·rw [A i q];exact h1 i h0 q
  ·rw [q,B];exact Int.le_refl _
 ·obtain ⟨j,rfl⟩:=Nat.exists_eq_add_of_le' (Nat.lt_of_le_of_lt (Nat.zero_le t) q)
  have a:=Nat.le_of_lt_succ q
  have b:=Nat.lt_of_succ_lt_succ hj
  rw [C j a b]
  rcases Nat.lt_trichotomy i t with q| q| q
  ·rw [A i q];exact S i j h0 (Nat.le_trans (Nat.le_of_lt q) a) b
  ·rw [q,B];exact h2 j a b
  ·obtain ⟨i,rfl⟩:=Nat.exists_eq_add_of_le' (Nat.lt_of_le_of_lt (Nat.zero_le t) q)
   have hi:=Nat.le_of_succ_le_succ hij
   rw [C i (Nat.le_of_lt_succ q) (Nat.lt_of_le_of_lt hi b)]
   exact S i j (Nat.le_trans h' (Nat.le_of_lt_succ q)) hi b
noncomputable def Drt (rk:Keyed->Int)(a:Array Keyed)(lo hi:Nat):Prop:=∀i j,lo<=i->i<=j->j<hi->-kr rk a i<=-kr rk a j
theorem Yl {f:Nat->Int}{lo x:Nat}(h:∀i j,lo<=i->i<=j->j<lo+x->f i<=f j)(h1:1<=x)(e:f (lo+x-1)<=f (lo+x)):∀i j,lo<=i->i<=j->j<lo+(x+1)->f i<=f j:=fun i j h0 hij hj=>by
 rcases Nat.lt_or_eq_of_le (Nat.le_of_lt_succ hj) with q| q
 ·exact h i j h0 hij q
 ·subst q
  rcases Nat.lt_or_eq_of_le hij with q| q
  ·exact Int.le_trans (h i _ h0 (Nat.le_sub_one_of_lt q) (z1130 h1)) e
  ·exact q▸Int.le_refl _
theorem W0 {f:Nat->Int}{lo:Nat}:∀i j,lo<=i->i<=j->j<lo+1->f i<=f j:=fun i j h0 hij hj=>Nat.le_antisymm hij (Nat.le_trans (Nat.le_of_lt_succ hj) h0)▸Int.le_refl _
theorem Srt.keep {lo hi a b:Nat}{xs ys:Array Keyed}(h:Srt rk xs a b)(k:Keep lo hi xs ys)(hd:b<=lo\/hi<=a):Srt rk ys a b:=fun i j h1 h2 h3=>by
 simp only [jM (k.same i (z1090 h3 h2 h1 hd)),jM (k.same j (z1091 h3 h2 h1 hd))];exact h i j h1 h2 h3
end
section
variable {prog:Program} {w:World} {A:Around} {E:Value->Shared->Prop} {s:Shared} {κ:SortKind} {rk:Keyed->Int} {P:Keyed->Prop}
theorem j1q {st:SortSt}{xs:Array Keyed}{i j:Nat}{Q:Option Bool->SortSt->Prop}(HL:j0b prog w A s κ rk P)(hk:kindOf st=κ)(PX:∀x∈xs.toList,P x)(hi:i<xs.size)(hj:j<xs.size)
  (h:Q (some (decide (kr rk xs i<kr rk xs j))) (setArr st xs)):wpS (model prog w) A E s (ltAt' i j) Q (setArr st xs):=by
 refine Exists.elim (JB hi) fun x ex=> ?_
 obtain ⟨y,ey⟩:=JB hj
 rw [jL ex,jL ey] at h
 refine wpS_bind (wpS_get ?_)
 exact wpS_bind (yR ex (wpS_bind (yR ey (uk HL hk (PX x (jy ex)) (PX y (jy ey)) h))))
end
noncomputable def bsK (lo k:Nat)(s:Option Bool × Nat × Nat):StateT SortSt Sem (ForInStep (Option Bool × Nat × Nat)):=
 if s.2.1>=s.2.2 then pure (.done (none,s.2.1,s.2.2)) else ltAt' (lo+k) (lo+(s.2.1+s.2.2)/2)>>=fun x=>
  oM x (fun w=>if w=true then pure (.yield (none,s.2.1,(s.2.1+s.2.2)/2)) else pure (.yield (none,(s.2.1+s.2.2)/2+1,s.2.2))) (pure (.done (some false,s.2.1,s.2.2)))
noncomputable def bsM (lo k:Nat)(s:Option Bool × Nat × Nat):StateT SortSt Sem (ForInStep (Option Bool × Unit)):=oE s.1 (fun r=>pure (.done (some r,()))) (moveDown' (lo+k) (lo+s.2.1)>>=fun _=>pure (.yield (none,())))
noncomputable def bsT (lo k:Nat):StateT SortSt Sem (ForInStep (Option Bool × Unit)):=forIn [:k] ((none,0,k):Option Bool × Nat × Nat) (fun _ s=>bsK lo k s)>>=bsM lo k
theorem Ym (lo n ok:Nat):binarySort' lo n ok=(forIn [max ok 1:n] ((none,()):Option Bool × Unit) (fun k _=>bsT lo k)>>=fun s=>oE s.1 pure (pure true)):=by kernel_rfl
inductive Bi (c:Sx)(xs:Array Keyed)(p:Array (Nat × Nat × Nat))(g lo n k:Nat):Option Bool × Unit->SortSt->Prop
 | mk {ys:Array Keyed}:Keep lo (lo+n) xs ys->Srt c.rk ys lo (lo+k)->Bi c xs p g lo n k (none,()) (c.S ys p g)
section
variable {c:Sx} {xs ys:Array Keyed} {p:Array (Nat × Nat × Nat)} {g lo n k ok:Nat}
theorem WQ.ltAt {α:Type}{Q:α->SortSt->Prop}{i j:Nat}{m1 m2 m3:StateT SortSt Sem α}(PX:∀x∈xs.toList,c.P x)(hi:i<xs.size)(hj:j<xs.size)(h1:kr c.rk xs i<kr c.rk xs j->WQ c m1 Q (c.S xs p g))(h2:kr c.rk xs j<=kr c.rk xs i->WQ c m2 Q (c.S xs p g)):
  WQ c (ltAt' i j>>=fun r=>oM r (fun w=>if w=true then m1 else m2) m3) Q (c.S xs p g):=by
 refine wpS_bind (j1q (st:=c.S xs p g) (xs:=xs) c.ask rfl PX hi hj ?_)
 by_cases q:kr c.rk xs i<kr c.rk xs j
 ·rw [decide_eq_true q];exact h1 q
 ·rw [decide_eq_false q];exact h2 (Int.not_lt.mp q)
theorem wq_bsT (PX:∀x∈xs.toList,c.P x)(hn:lo+n<=xs.size)(hk:k<n)(K:Keep lo (lo+n) xs ys)(S:Srt c.rk ys lo (lo+k)):WQ c (bsT lo k) (Sq (Bi c xs p g lo n n) (Bi c xs p g lo n (k+1))) (c.S ys p g):=
 have hs:∀{i},i<n->lo+i<ys.size:=fun hi=>Nat.lt_of_lt_of_le (Nat.add_lt_add_left hi lo) (Nat.le_trans hn (Nat.le_of_eq K.size.symm))
 wq_bs (n:=k) (p:=fun i=>decide (kr c.rk ys (lo+i)<=kr c.rk ys (lo+k))) (fun a b e=>decide_eq_true (Int.le_trans (S _ _ (Nat.le_add_right ..) (Nat.add_le_add_left a lo) (Nat.add_lt_add_left b lo)) (of_decide_eq_true e)))
  (fun hr d y=>.ite (fun e=>wpS_pure (d e)) fun e=>
   have m1:=z915 (Nat.le_of_lt (Nat.not_le.mp e))
   have m2:=z918 e
   .ltAt (K.all PX) (hs hk) (hs (Nat.lt_of_lt_of_le m2 (Nat.le_trans hr (Nat.le_of_lt hk)))) (fun w=>wpS_pure ((y _ m1 m2).2 (decide_eq_false (Int.not_le.mpr w)))) fun w=>wpS_pure ((y _ m1 m2).1 (decide_eq_true w)))
  (Nat.zero_le k) (Nat.le_refl k) (Nat.le_refl k) (fun i hi=>nomatch hi) (fun i a b=>absurd b (Nat.not_lt_of_le a)) fun r hr a b=>
   wpS_bind (wpS_modify (wpS_pure (Bi.mk (K.trans (.bubble (hs hk) (Nat.add_lt_add_left hk lo) z1103)) (j1p (hs hk) (Nat.le_add_right ..) (Nat.add_le_add_left hr lo) S (fun i i1 i2=>by
    obtain ⟨i,rfl⟩:=Nat.exists_eq_add_of_le i1
    exact of_decide_eq_true (a i (Nat.lt_of_add_lt_add_left i2))) fun i i1 i2=>by
    obtain ⟨i,rfl⟩:=Nat.exists_eq_add_of_le (Nat.le_trans (Nat.le_add_right ..) i1)
    exact Int.le_of_lt (Int.not_le.mp (of_decide_eq_false (b i (Nat.le_of_add_le_add_left i1) (Nat.lt_of_add_lt_add_left i2))))))))
theorem j1r {Q:Bool->SortSt->Prop}(PX:∀x∈xs.toList,c.P x)(hn:lo+n<=xs.size)(h1:1<=ok)(hok:ok<=n)(S:Srt c.rk xs lo (lo+ok))(h:∀ys,Keep lo (lo+n) xs ys->Srt c.rk ys lo (lo+n)->Q true (c.S ys p g)):WQ c (binarySort' lo n ok) Q (c.S xs p g):=by
 rw [Ym,Nat.max_eq_left h1]
 refine .forA (Bi c xs p g lo n) (Bi c xs p g lo n n) hok (fun k d st _ hk m=> ?_) (fun _ _ m=>m) (.mk .refl S) fun d st m=> ?_
 ·cases m with
  | mk K S=>exact wq_bsT PX hn hk K S
 ·cases m with
  | mk K S=>exact wpS_pure (h _ K S)
end
noncomputable def ascT (lo:Nat)(s:AscSt):StateT SortSt Sem (ForInStep AscSt):=ltAt' (lo+s.2) (lo+s.2-1)>>=fun x=>oM x (fun w=>if w=true then pure (.done (none,s.2)) else pure (.yield (none,s.2+1))) (pure (.done (some none,s.2)))
noncomputable def ascL (lo a nrem:Nat)(K:AscSt->StateT SortSt Sem (Option Nat)):StateT SortSt Sem (Option Nat):=forIn [a:nrem] ((none,a):AscSt) (fun _ s=>ascT lo s)>>=K
noncomputable def UC (lo n nrem:Nat):StateT SortSt Sem (Option Nat):=reverseSlice' lo (lo+n)>>=fun _=>ascL lo n nrem fun s=>oE s.1 pure (pure (some s.2))
noncomputable def desB (lo:Nat)(s:DescSt):StateT SortSt Sem (ForInStep DescSt):=ltAt' (lo+s.2.1-1) (lo+s.2.1)>>=fun x=>oM x (fun w=>if w=true then pure (.done (none,s.2.1,s.2.2)) else pure (.yield (none,s.2.1+1,s.2.2+1))) (pure (.done (some none,s.2.1,s.2.2)))
noncomputable def desA (lo:Nat)(s:DescSt):StateT SortSt Sem (ForInStep DescSt):=if s.2.2>0 then reverseSlice' (lo+s.2.1-(s.2.2+1)) (lo+s.2.1)>>=fun _=>pure (.yield (none,s.2.1+1,0)) else pure (.yield (none,s.2.1+1,0))
noncomputable def desT (lo:Nat)(s:DescSt):StateT SortSt Sem (ForInStep DescSt):=ltAt' (lo+s.2.1) (lo+s.2.1-1)>>=fun x=>oM x (fun w=>if w=true then desA lo s else desB lo s) (pure (.done (some none,s.2.1,s.2.2)))
noncomputable def desE (lo nrem:Nat)(s:DescSt):StateT SortSt Sem (Option Nat):=oE s.1 pure (if s.2.2>0 then reverseSlice' (lo+s.2.1-(s.2.2+1)) (lo+s.2.1)>>=fun _=>UC lo s.2.1 nrem else UC lo s.2.1 nrem)
noncomputable def Yn (lo n nrem:Nat):StateT SortSt Sem (Option Nat):=liftM (rule "list.sort.descending-run")>>=fun _=>forIn [n+1:nrem] ((none,n+1,0):DescSt) (fun _ s=>desT lo s)>>=desE lo nrem
noncomputable def cntK (lo nrem n:Nat):StateT SortSt Sem (Option Nat):=
 if (n==nrem)=true then pure (some n) else if n>1 then ltAt' lo (lo+n-1)>>=fun x=>oM x (fun w=>if w=true then pure (some n) else reverseSlice' lo (lo+n)>>=fun _=>Yn lo n nrem) (pure none) else Yn lo n nrem
theorem un (lo nrem:Nat):countRun' lo nrem=ascL lo 1 nrem fun s=>oE s.1 pure (cntK lo nrem s.2):=by kernel_rfl
inductive As (c:Sx)(xs:Array Keyed)(p:Array (Nat × Nat × Nat))(g lo a nrem:Nat)(b:Nat->Prop):AscSt->SortSt->Prop
 | mk {n:Nat}:a<=n->n<=nrem->Srt c.rk xs lo (lo+n)->b n->As c xs p g lo a nrem b (none,n) (c.S xs p g)
inductive De (c:Sx)(xs:Array Keyed)(p:Array (Nat × Nat × Nat))(g lo nrem:Nat)(b:Nat->Prop):DescSt->SortSt->Prop
 | mk {m q:Nat} {ys:Array Keyed}:Keep lo (lo+nrem) xs ys->(∀k,kr c.rk ys k=kr c.rk xs k)->1<=m->m<=nrem->Drt c.rk xs lo (lo+m)->q+1<=m->(∀i,lo+m-(q+1)<=i->i<lo+m->kr c.rk xs i=kr c.rk xs (lo+m-1))->b m->De c xs p g lo nrem b (none,m,q) (c.S ys p g)
section
variable {c:Sx} {xs:Array Keyed} {p:Array (Nat × Nat × Nat)} {g lo a n nrem:Nat} {Q:Option Nat->SortSt->Prop}
theorem WQ.rev {α:Type}{Q:α->SortSt->Prop}{i j:Nat}{f:Unit->StateT SortSt Sem α}(h:WQ c (f ()) Q (c.S (mirror xs i j ((j-i)/2)) p g)):WQ c (reverseSlice' i j>>=f) Q (c.S xs p g):=wpS_bind (wpS_modify h)
theorem W2 {K:AscSt->StateT SortSt Sem (Option Nat)}(PX:∀x∈xs.toList,c.P x)(hn:lo+nrem<=xs.size)(ha:1<=a)(han:a<=nrem)(S:Srt c.rk xs lo (lo+a))
  (h:∀n,a<=n->n<=nrem->Srt c.rk xs lo (lo+n)->(n=nrem\/kr c.rk xs (lo+n)<kr c.rk xs (lo+n-1))->WQ c (K (none,n)) Q (c.S xs p g)):WQ c (ascL lo a nrem K) Q (c.S xs p g):=by
 refine .forA (fun x=>As c xs p g lo a nrem fun n=>n=x) (As c xs p g lo a nrem fun n=>n=nrem\/kr c.rk xs (lo+n)<kr c.rk xs (lo+n-1)) han (fun x d st _ hx m=> ?_) (fun d st m=> ?_) (.mk (Nat.le_refl a) han S rfl) fun d st m=> ?_
 ·cases m with
  | mk a1 a2 S e=>
   subst e
   exact .ltAt PX (z1112 hn hx) (z1113 hn hx) (fun w=>wpS_pure (As.mk a1 a2 S (.inr w))) fun w=>wpS_pure (As.mk (Nat.le_succ_of_le a1) hx (Yl S (Nat.le_trans ha a1) w) rfl)
 ·cases m with
  | mk a1 a2 S e=>exact .mk a1 a2 S (.inl e)
 ·cases m with
  | mk a1 a2 S e=>exact h _ a1 a2 S e
theorem W3 (PX:∀x∈xs.toList,c.P x)(hn:lo+nrem<=xs.size)(h1:1<=n)(hnn:n<=nrem)(D:Drt c.rk xs lo (lo+n))(h:∀m ys,Keep lo (lo+nrem) xs ys->1<=m->m<=nrem->Srt c.rk ys lo (lo+m)->Q (some m) (c.S ys p g)):WQ c (UC lo n nrem) Q (c.S xs p g):=
 have K:Keep lo (lo+nrem) xs (mirror xs lo (lo+n) ((lo+n-lo)/2)):=.mirror (Nat.le_refl _) (Nat.add_le_add_left hnn lo) (z805 hn hnn)
 .rev (W2 (K.all PX) (K.size.symm▸hn) h1 hnn (fun i j h0 hij hj=>by
  rw [Yk (z805 hn hnn),Yk (z805 hn hnn),if_pos ⟨h0,Nat.lt_of_le_of_lt hij hj⟩,if_pos ⟨Nat.le_trans h0 hij,hj⟩]
  exact Int.le_of_neg_le_neg (D _ _ (z879 hj) (z894 hij) (z1118 hj h0))) fun m m1 m2 S _=>wpS_pure (h m _ K (Nat.le_trans h1 m1) m2 S))
theorem j1s {s:DescSt}{st:SortSt}(PX:∀x∈xs.toList,c.P x)(hn:lo+nrem<=xs.size)(h:∀m ys,Keep lo (lo+nrem) xs ys->1<=m->m<=nrem->Srt c.rk ys lo (lo+m)->Q (some m) (c.S ys p g))(m:De c xs p g lo nrem (fun _=>True) s st):WQ c (desE lo nrem s) Q st:=by
 cases m with
 | mk K k h1 h2 D q e _=>
  have F:∀{zs},Keep lo (lo+nrem) xs zs->(∀k,kr c.rk zs k=kr c.rk xs k)->WQ c (UC lo _ nrem) Q (c.S zs p g):=fun K k=>W3 (K.all PX) (K.size.symm▸hn) h1 h2 (fun i j a b d=>k i▸k j▸D i j a b d) fun m zs hz=>h m zs (K.trans hz)
  have hy:=Nat.le_trans (z805 hn h2) (Nat.le_of_eq K.size.symm)
  exact .ite (fun _=>.rev (F (K.trans (.mirror (z1120 q) (Nat.add_le_add_left h2 lo) hy)) fun i=>(J9 hy (fun i a b=>(k i).trans ((e i a b).trans (k _).symm)) i).trans (k i))) fun _=>F K k
theorem j1t {x:Nat}{s:DescSt}{st:SortSt}(PX:∀x∈xs.toList,c.P x)(hn:lo+nrem<=xs.size)(hx:x<nrem)(m:De c xs p g lo nrem (fun n=>n=x) s st):WQ c (desT lo s) (Sq (De c xs p g lo nrem fun _=>True) (De c xs p g lo nrem fun n=>n=x+1)) st:=by
 cases m with
 | @mk m n ys K k h1 h2 D q e b=>
  subst b
  have PY:=K.all PX
  have i1:=z1097 hn hx K.size
  have i2:lo+_-1<_:=z1119 hn hx K.size
  refine .ltAt PY i1 i2 (fun w=> ?_) fun w=>.ltAt PY i2 i1 (fun _=>wpS_pure (De.mk K k h1 h2 D q e trivial)) fun v=> ?_
  ·have F:∀{zs},Keep lo (lo+nrem) xs zs->(∀k,kr c.rk zs k=kr c.rk xs k)->WQ c (pure (.yield (none,m+1,0))) (Sq (De c xs p g lo nrem fun _=>True) (De c xs p g lo nrem fun n=>n=m+1)) (c.S zs p g):=fun K k'=>
    wpS_pure (De.mk K k' (Nat.le_succ_of_le h1) hx (Yl D h1 (Int.neg_le_neg (k _▸k _▸Int.le_of_lt w))) (Nat.succ_le_succ (Nat.zero_le _)) (fun i a b=>congrArg (kr c.rk xs) (Nat.le_antisymm (Nat.le_sub_one_of_lt b) a)) rfl)
   have hy:=Nat.le_of_lt i1
   exact .ite (fun _=>.rev (F (K.trans (.mirror (z1120 q) (Nat.add_le_add_left h2 lo) hy)) fun i=>(J9 hy (fun i a b=>(k i).trans ((e i a b).trans (k _).symm)) i).trans (k i))) fun _=>F K k
  ·have hq:=(k _).symm.trans ((Int.le_antisymm v w).trans (k _))
   exact wpS_pure (De.mk K k (Nat.le_succ_of_le h1) hx (Yl D h1 (Int.neg_le_neg (Int.le_of_eq hq))) (Nat.succ_le_succ q) (fun i a b=>(Nat.lt_or_eq_of_le (Nat.le_of_lt_succ b)).elim (fun b=>(e i (z1124 (e:=1) a) b).trans hq.symm) fun b=>congrArg (kr c.rk xs) b) rfl)
theorem yG (PX:∀x∈xs.toList,c.P x)(hn:lo+nrem<=xs.size)(hnn:n+1<=nrem)(D:Drt c.rk xs lo (lo+(n+1)))(h:∀m ys,Keep lo (lo+nrem) xs ys->1<=m->m<=nrem->Srt c.rk ys lo (lo+m)->Q (some m) (c.S ys p g)):WQ c (Yn lo n nrem) Q (c.S xs p g):=
 .rule (.forA (fun x=>De c xs p g lo nrem fun n=>n=x) (De c xs p g lo nrem fun _=>True) hnn (fun x d st _ hx m=>j1t PX hn hx m) (fun d st m=>by
  cases m with
  | mk K k h1 h2 D q e b=>exact .mk K k h1 h2 D q e trivial) (.mk .refl (fun _=>rfl) (Nat.succ_le_succ (Nat.zero_le _)) hnn D (Nat.succ_le_succ (Nat.zero_le _)) (fun i a b=>congrArg (kr c.rk xs) (Nat.le_antisymm (Nat.le_sub_one_of_lt b) a)) rfl) fun d st m=>j1s PX hn h m)
theorem W4 (PX:∀x∈xs.toList,c.P x)(hn:lo+nrem<=xs.size)(h1:1<=nrem)(h:∀m ys,Keep lo (lo+nrem) xs ys->1<=m->m<=nrem->Srt c.rk ys lo (lo+m)->Q (some m) (c.S ys p g)):WQ c (countRun' lo nrem) Q (c.S xs p g):=
 un .. ▸W2 PX hn (Nat.le_refl 1) h1 W0 fun n a1 a2 S hor=>.beq (fun _=>wpS_pure (h n xs .refl a1 a2 S)) fun q=>
  have hlt:=hor.resolve_left q
  have hn1:=Nat.lt_of_le_of_ne a2 q
  .ite (fun hg=>.ltAt PX (z1128 h1 hn) (z1129 h1 hn a2) (fun _=>wpS_pure (h n xs .refl a1 a2 S)) fun w=>
    have K:Keep lo (lo+nrem) xs (mirror xs lo (lo+n) ((lo+n-lo)/2)):=.mirror (Nat.le_refl _) (Nat.add_le_add_left a2 lo) (z805 hn a2)
    have e:∀k,lo<=k->k<lo+n->kr c.rk xs k=kr c.rk xs (lo+n-1):=fun k k1 k2=>Int.le_antisymm (S k _ k1 (Nat.le_sub_one_of_lt k2) (z1130 a1)) (Int.le_trans w (S lo k (Nat.le_refl _) k1 k2))
    have k:=J9 (z805 hn a2) e
    .rev (yG (K.all PX) (K.size.symm▸hn) hn1 (Yl (f:=fun i=> -kr c.rk _ i) (fun i j a b d=>Int.le_of_eq (congrArg Neg.neg ((k i).trans ((e i a (Nat.lt_of_le_of_lt b d)).trans ((e j (Nat.le_trans a b) d).symm.trans (k j).symm))))) a1 (Int.neg_le_neg (Int.le_trans (Int.le_of_eq (k (lo+n))) (Int.le_trans (Int.le_of_lt hlt) (Int.le_of_eq (k (lo+n-1)).symm))))) fun m zs hz=>h m zs (K.trans hz)))
   fun hg=>yG PX hn hn1 (Yl (f:=fun i=> -kr c.rk xs i) (Nat.le_antisymm (Nat.not_lt.mp hg) a1▸W0) a1 (Int.neg_le_neg (Int.le_of_lt hlt))) h
end
end Mine
set_option genSizeOf false
namespace Mine
open PySem PyProof.Rows
noncomputable def maT (sa:Nat)(r:Array Keyed):StateT SortSt Sem Bool:=
 modify (fun s=>setArr s (r.toList.zipIdx.foldl (fun a (p,j)=>a.setIfInBounds (sa+j) p) (arrOf s)))>>=fun _=>get>>=fun s=>pure (failedOf s).isNone
noncomputable def maJ (na nb sa:Nat)(x y:Array Keyed):StateT SortSt Sem Bool:=if na<=nb then uf x y>>=maT sa else ug x y>>=maT sa
noncomputable def maB (xs:Array Keyed)(sa na sb k nb:Nat):StateT SortSt Sem Bool:=if (nb==0)=true then pure true else maJ (na-k) nb (sa+k) (xs.extract (sa+k) sb) (xs.extract sb (sb+nb))
noncomputable def maA (xs:Array Keyed)(sa na sb nb k:Nat):StateT SortSt Sem Bool:=
 if (na-k==0)=true then pure true else elem' xs (sa+k+(na-k)-1)>>=fun v=>J8 true v xs sb nb (nb-1)>>=fun o=>oM o (maB xs sa na sb k) (pure false)
noncomputable def maE (xs:Array Keyed)(sa na sb nb:Nat):StateT SortSt Sem Bool:=elem' xs sb>>=fun v=>J8 false v xs sa na 0>>=fun o=>oM o (maA xs sa na sb nb) (pure false)
noncomputable def maK (i:Nat)(s:SortSt)(sa na pw sb nb:Nat):StateT SortSt Sem Bool:=
 set (setPending s (((pendingOf s).setIfInBounds i (sa,na+nb,pw)).eraseIdxIfInBounds (i+1)))>>=fun _=>maE (arrOf s) sa na sb nb
noncomputable def maM (o1 o2:Option (Nat × Nat × Nat))(K:Nat->Nat->Nat->Nat->Nat->StateT SortSt Sem Bool):StateT SortSt Sem Bool:=match (o1,o2) with
 | (some (sa,na,pw),some (sb,nb,_))=>K sa na pw sb nb
 | _=>liftM (unsupported "internal:list.sort.pending":Sem Bool)
theorem uR (i:Nat):mergeAt' i=(get>>=fun s=>maM (pendingOf s)[i]? (pendingOf s)[i+1]? fun sa na pw sb nb=>maK i s sa na pw sb nb):=by kernel_rfl
section
variable {rk:Keyed->Int}
noncomputable def W5 (sa:Nat)(l:List Keyed)(k:Nat)(xs:Array Keyed):Array Keyed:=(l.zipIdx k).foldl (fun a (p,j)=>a.setIfInBounds (sa+j) p) xs
theorem W6 {sa:Nat}{T:List Keyed}(l:List Keyed):∀{k:Nat} {P M:List Keyed},P.length=sa+k->M.length=l.length->W5 sa l k (Array.mk (P++(M++T)))=Array.mk (P++(l++T)):=by
 induction l with
 | nil=>intro k P M _ h2;rw [List.length_eq_zero_iff.mp h2];rfl
 | cons p l ih=>
  intro k P M h1 h2
  cases M with
  | nil=>nomatch h2
  | cons q M=>
   have e:(Array.mk (P++(q::M++T))).setIfInBounds (sa+k) p=Array.mk (P++[p]++(M++T)):=by
    rw [<-h1,List.append_assoc]
    exact (List.setIfInBounds_toArray ..).trans (congrArg List.toArray ((List.set_append_right _ _ (Nat.le_refl _)).trans (by rw [Nat.sub_self];rfl)))
   refine (congrArg (W5 sa l (k+1)) e).trans ((ih ((List.length_append).trans (congrArg (· +1) h1)) (Nat.succ.inj h2)).trans ?_)
   rw [List.append_assoc];rfl
theorem put {xs ys:Array Keyed}{P L M T:List Keyed}(ex:xs.toList=P++(M++T))(ey:ys.toList=P++(L++T))(hp:L.Perm M)(hu:Up' rk L):Keep P.length (P.length+M.length) xs ys/\Srt rk ys P.length (P.length+M.length):=by
 have hl:=hp.length_eq
 refine ⟨⟨Array.perm_iff_toList_perm.mpr (by rw [ex,ey];exact (hp.append_right T).append_left P),fun i hi=> ?_⟩,fun i j a b c=> ?_⟩
 ·rw [<-Array.getElem?_toList,<-Array.getElem?_toList,ex,ey]
  rcases hi with q| q
  ·rw [List.getElem?_append_left q,List.getElem?_append_left q]
  ·have q1:P.length<=i:=Nat.le_trans (Nat.le_add_right ..) q
   have q2:M.length<=i-P.length:=Nat.le_sub_of_add_le' q
   rw [List.getElem?_append_right q1,List.getElem?_append_right q1,List.getElem?_append_right q2,List.getElem?_append_right (hl▸q2),hl]
 ·have f:∀k,k<M.length->ys[P.length+k]? =(Array.mk L)[k]? :=fun k hk=>by
   rw [<-Array.getElem?_toList,ey,List.getElem?_append_right (Nat.le_add_right ..),Nat.add_sub_cancel_left,List.getElem?_append_left (hl▸hk)];exact (List.getElem?_toArray ..).symm
  obtain ⟨i,rfl⟩:=Nat.exists_eq_add_of_le a
  obtain ⟨j,rfl⟩:=Nat.exists_eq_add_of_le (Nat.le_trans a b)
  have hj:=Nat.lt_of_add_lt_add_left c
  have hi:=Nat.le_of_add_le_add_left b
  rw [jM (f i (Nat.lt_of_le_of_lt hi hj)),jM (f j hj)]
  exact j1j hu hi (Nat.lt_of_lt_of_eq hj hl.symm)
theorem j0K {xs:Array Keyed}{i n:Nat}(h:Srt rk xs i (i+n)):Up' rk ((xs.toList.drop i).take n):=
 List.pairwise_iff_getElem.mpr fun a b ha hb hab=>by
  have hb':=Nat.lt_of_lt_of_le hb (List.length_take_le ..)
  rw [<-jL (rk:=rk) ((yF (Nat.lt_trans hab hb')).symm.trans ((List.getElem?_toArray ..).trans (List.getElem?_eq_getElem ha))),<-jL (rk:=rk) ((yF hb').symm.trans ((List.getElem?_toArray ..).trans (List.getElem?_eq_getElem hb)))]
  exact h _ _ (Nat.le_add_right ..) (Nat.add_le_add_left (Nat.le_of_lt hab) i) (Nat.add_lt_add_left hb' i)
end
section
variable {c:Sx} {xs:Array Keyed} {p:Array (Nat × Nat × Nat)} {g sa na nb k m:Nat} {Q:Bool->SortSt->Prop}
theorem wq_maJ {A B A1 A2 B1 B2 P T:List Keyed}(eA:A1++A2=A)(eB:B1++B2=B)(ex:xs.toList=P++((A++B)++T))(X:Mx c (Array.mk A2) (Array.mk B1))(ua:Up' c.rk A)(ub:Up' c.rk B)(k:(P++A1).length=sa)
  (h1:∀x∈A1,∀y∈B,c.rk x<=c.rk y) (h2:∀x∈A,∀y∈B2,c.rk x<=c.rk y)
  (h:∀ys g',Keep P.length (P.length+(A++B).length) xs ys->Srt c.rk ys P.length (P.length+(A++B).length)->Q true (c.S ys p g')):WQ c (maJ na nb sa (Array.mk A2) (Array.mk B1)) Q (c.S xs p g):=by
 subst eA
 subst eB
 have F:∀r g',MFin c.rk (Array.mk A2) (Array.mk B1) r->WQ c (maT sa r) Q (c.S xs p g'):=fun r g' M=>by
  refine wpS_bind (wpS_modify (wpS_bind (wpS_get (wpS_pure ?_))))
  have e:W5 sa r.toList 0 xs=Array.mk ((P++A1)++(r.toList++(B2++T))):=
   (congrArg (W5 sa r.toList 0) (Array.toList_inj.mp (ex.trans (by simp only [List.append_assoc]):xs.toList=(Array.mk ((P++A1)++((A2++B1)++(B2++T)))).toList))).trans (W6 r.toList k M.perm.length_eq.symm)
  have pr:=put (L:=A1++(r.toList++B2)) (ys:=W5 sa r.toList 0 xs) ex (by rw [e];simp only [List.append_assoc]) ((List.Perm.append_left A1 (M.perm.append_right B2)).trans (by rw [List.append_assoc,List.append_assoc])) (List.pairwise_append.mpr ⟨(List.pairwise_append.mp ua).1,List.pairwise_append.mpr ⟨M.srt,(List.pairwise_append.mp ub).2.1,fun x hx y hy=>(List.mem_append.mp (M.perm.mem_iff.mp hx)).elim (fun q=>h2 x (List.mem_append_right _ q) y hy) fun q=>(List.pairwise_append.mp ub).2.2 x q y hy⟩,
   fun x hx y hy=>(List.mem_append.mp hy).elim (fun q=>(List.mem_append.mp (M.perm.mem_iff.mp q)).elim ((List.pairwise_append.mp ua).2.2 x hx y) fun q=>h1 x hx y (List.mem_append_left _ q)) fun q=>h1 x hx y (List.mem_append_right _ q)⟩)
  exact h _ _ pr.1 pr.2
 exact .ite (fun _=>wpS_bind (wq_lo X F)) fun _=>wpS_bind (wq_hi X F)
theorem UD {n i:Nat}{y:Keyed}(S:Up' c.rk ((xs.toList.drop i).take n))(e:xs[i]? =some y):∀z∈(xs.toList.drop i).take n,c.rk y<=c.rk z:=by
 rw [yw e] at*
 cases n with
 | zero=>exact fun _ h=>nomatch h
 | succ n=>exact j1k S
theorem j0f {n i:Nat}{y:Keyed}(S:Up' c.rk ((xs.toList.drop i).take n))(h:i+n<=xs.size)(e:xs[i+(n-1)]? =some y):∀z∈(xs.toList.drop i).take n,c.rk z<=c.rk y:=fun z hz=>by
 obtain ⟨j,hj,q⟩:=wW hz
 have h0:=Nat.sub_lt (Nat.lt_of_le_of_lt (Nat.zero_le _) hj) Nat.one_pos
 have l:(Array.mk ((xs.toList.drop i).take n)).size=n:=by
  show List.length _=n
  rw [List.length_take,List.length_drop]
  exact Nat.min_eq_left (Nat.le_sub_of_add_le' h)
 rw [<-jL (rk:=c.rk) ((yF h0).trans e),<-jL (rk:=c.rk) (a:=Array.mk ((xs.toList.drop i).take n)) (i:=j) (((List.getElem?_toArray ..).trans (List.getElem?_take.trans (if_pos hj))).trans q)]
 exact j1j S (Nat.le_sub_one_of_lt hj) (Nat.lt_of_lt_of_eq h0 l.symm)
theorem wq_maB {A B P T:List Keyed}{y z:Keyed}{sb:Nat}(ex:xs.toList=P++((A++B)++T))(PX:∀x∈xs.toList,c.P x)(ua:Up' c.rk A)(ub:Up' c.rk B)(lP:P.length=sa)(lA:A.length=na)(lB:B.length=nb)(hy:∀x∈B,c.rk y<=c.rk x)(hz:∀x∈A,c.rk x<=c.rk z)(ey:B[0]? =some y)(ez:A[na-1]? =some z)
  (k1:k<=na) (k2:∀x∈A.take k,c.rk x<=c.rk y) (k3:∀x∈A.drop k,c.rk y<=c.rk x) (q1:na-k≠0) (m1:m<=nb) (m2:∀x∈B.take m,c.rk x<=c.rk z) (m3:∀x∈B.drop m,c.rk z<=c.rk x) (x1:xs.extract (sa+k) sb=Array.mk (A.drop k)) (x2:xs.extract sb (sb+m)=Array.mk (B.take m))
  (h:∀ys g',Keep P.length (P.length+(A++B).length) xs ys->Srt c.rk ys P.length (P.length+(A++B).length)->Q true (c.S ys p g')):WQ c (maB xs sa na sb k m) Q (c.S xs p g):=by
 have pm:∀x,x∈A++B->c.P x:=fun x hx=>PX x (ex▸List.mem_append_right _ (List.mem_append_left _ hx))
 have l1:(A.drop k).length=na-k:=List.length_drop.trans (congrArg (· -k) lA)
 have h2:∀x∈A,∀v∈B.drop m,c.rk x<=c.rk v:=fun x hx v hv=>Int.le_trans (hz x hx) (m3 v hv)
 refine .beq (fun q=> ?_) fun q=> ?_
 ·have pr:=put ex ex (.refl _) (List.pairwise_append.mpr ⟨ua,ub,(q▸h2:∀x∈A,∀v∈B.drop 0,c.rk x<=c.rk v)⟩)
  exact wpS_pure (h xs g pr.1 pr.2)
 ·rw [x1,x2]
  refine wq_maJ (List.take_append_drop k A) (List.take_append_drop m B) ex ⟨fun x hx=>pm x (List.mem_append_left _ (List.mem_of_mem_drop hx)),fun x hx=>pm x (List.mem_append_right _ (List.mem_of_mem_take hx)),ua.sublist (List.drop_sublist ..),ub.sublist (List.take_sublist ..),Nat.lt_of_lt_of_eq (Nat.pos_of_ne_zero q1) l1.symm,Nat.lt_of_lt_of_eq (Nat.pos_of_ne_zero q) (List.length_take_of_le (lB.symm▸m1)).symm,fun v e=> ?_,fun v e=> ?_⟩ ua ub
   (List.length_append.trans (by rw [lP,List.length_take_of_le (lA.symm▸k1)])) (fun x hx v hv=>Int.le_trans (k2 x hx) (hy v hv)) h2 h
  ·rw [List.getElem?_toArray,List.getElem?_take,if_pos (Nat.pos_of_ne_zero q),ey] at e
   exact Option.some.inj e▸k3
  ·rw [List.getElem?_toArray,List.getElem?_drop,show (Array.mk (A.drop k)).size=na-k from l1,<-Nat.add_sub_assoc (Nat.pos_of_ne_zero q1),Nat.add_sub_cancel' k1,ez] at e
   exact Option.some.inj e▸m2
theorem wa {i pw pw2:Nat}(PX:∀x∈xs.toList,c.P x)(e1:p[i]? =some (sa,na,pw))(e2:p[i+1]? =some (sa+na,nb,pw2))(h1:1<=na)(h2:1<=nb)(h5:sa+na+nb<=xs.size)(SA:Srt c.rk xs sa (sa+na))(SB:Srt c.rk xs (sa+na) (sa+na+nb))
  (h:∀ys g',Keep sa (sa+na+nb) xs ys->Srt c.rk ys sa (sa+na+nb)->Q true (c.S ys ((p.setIfInBounds i (sa,na+nb,pw)).eraseIdxIfInBounds (i+1)) g')):WQ c (mergeAt' i) Q (c.S xs p g):=by
 rw [uR]
 refine wpS_bind (wpS_get ?_)
 show WQ c (maM p[i]? p[i+1]? _) Q _
 rw [e1,e2]
 have ha:=Nat.le_trans (Nat.le_add_right _ nb) h5
 have ua:=j0K SA
 have ub:=j0K SB
 have lP:(xs.toList.take sa).length=sa:=List.length_take_of_le (Nat.le_trans (Nat.le_add_right sa na) ha)
 have lA:((xs.toList.drop sa).take na).length=na:=List.length_take_of_le (List.length_drop▸Nat.le_sub_of_add_le' ha)
 have lB:((xs.toList.drop (sa+na)).take nb).length=nb:=List.length_take_of_le (List.length_drop▸Nat.le_sub_of_add_le' h5)
 have ex:xs.toList=xs.toList.take sa++(((xs.toList.drop sa).take na++(xs.toList.drop (sa+na)).take nb)++xs.toList.drop (sa+na+nb)):=by
  rw [List.append_assoc,<-yT,<-yT,List.take_append_drop]
 have xA:∀k,xs.extract (sa+k) (sa+na)=Array.mk (((xs.toList.drop sa).take na).drop k):=fun k=>Array.toList_inj.mp ((jV ..).trans (by rw [List.drop_take,List.drop_drop,Nat.add_sub_add_left]))
 have xB:∀m,m<=nb->xs.extract (sa+na) (sa+na+m)=Array.mk (((xs.toList.drop (sa+na)).take nb).take m):=fun m hm=>Array.toList_inj.mp ((Ue ..).trans (by rw [List.take_take,Nat.min_eq_left hm]))
 have hq:∀ys g',Keep (xs.toList.take sa).length ((xs.toList.take sa).length+((xs.toList.drop sa).take na++(xs.toList.drop (sa+na)).take nb).length) xs ys->Srt c.rk ys (xs.toList.take sa).length ((xs.toList.take sa).length+((xs.toList.drop sa).take na++(xs.toList.drop (sa+na)).take nb).length)->Q true (c.S ys ((p.setIfInBounds i (sa,na+nb,pw)).eraseIdxIfInBounds (i+1)) g'):=by
  rw [lP,List.length_append,lA,lB,<-Nat.add_assoc];exact h
 refine wpS_bind (wpS_modify (?_:WQ c (maE xs sa na (sa+na) nb) Q (c.S xs _ g)))
 refine WQ.elem PX (Nat.lt_of_lt_of_le (Nat.lt_add_of_pos_right h2) h5) fun y ey=>.gal (PX y (jy ey)) PX ha ua h1 fun k k1 k2 k3=>.beq (fun q=> ?_) fun q1=> ?_
 ·rw [List.take_of_length_le (Nat.le_trans (Nat.le_of_eq lA) (Nat.le_of_sub_eq_zero q))] at k2
  have pr:=put ex ex (.refl _) (List.pairwise_append.mpr ⟨ua,ub,fun x hx v hv=>Int.le_trans (k2 x hx) (UD ub ey v hv)⟩)
  exact wpS_pure (hq xs g pr.1 pr.2)
 ·rw [show sa+k+(na-k)-1=sa+(na-1) by rw [Nat.add_assoc,Nat.add_sub_cancel' k1,Nat.add_sub_assoc h1]]
  have h0:=Nat.sub_lt h1 Nat.one_pos
  exact .elem PX (Nat.lt_of_lt_of_le (Nat.add_lt_add_left h0 sa) ha) fun z ez=>.gal (PX z (jy ez)) PX h5 ub (Nat.sub_lt h2 Nat.one_pos) fun m m1 m2 m3=>
   wq_maB ex PX ua ub lP lA lB (UD ub ey) (j0f ua ha ez) (((List.getElem?_toArray ..).symm.trans (yF h2)).trans ey) (((List.getElem?_toArray ..).symm.trans (yF h0)).trans ez) k1 k2 k3 q1 m1 m2 m3 (xA k) (xB m m1) hq
end
noncomputable def Chain (rk:Keyed->Int)(ys:Array Keyed):Nat->List (Nat × Nat × Nat)->Nat->Prop
 | a,[],b=>a=b
 | a,x::l,b=>x.1=a/\1<=x.2.1/\Srt rk ys a (a+x.2.1)/\Chain rk ys (a+x.2.1) l b
section
variable {rk:Keyed->Int} {ys zs:Array Keyed} {l r:List (Nat × Nat × Nat)} {a b m lo hi i pw:Nat}
theorem Chain.le (h:Chain rk ys a l b):a+l.length<=b:=by
 induction l generalizing a with
 | nil=>exact Nat.le_of_eq h
 | cons x l ih=>exact Nat.le_trans (Nat.le_of_eq (Nat.succ_add_eq_add_succ ..).symm) (Nat.le_trans (Nat.add_le_add_right (Nat.add_le_add_left h.2.1 a) _) (ih h.2.2.2))
theorem Chain.split (h:Chain rk ys a (l++r) b):∃m,Chain rk ys a l m/\Chain rk ys m r b:=by
 induction l generalizing a with
 | nil=>exact ⟨a,rfl,h⟩
 | cons x l ih=>exact Exists.elim (ih h.2.2.2) fun m e=>⟨m,⟨h.1,h.2.1,h.2.2.1,e.1⟩,e.2⟩
theorem Chain.join (h:Chain rk ys a l m)(h2:Chain rk ys m r b):Chain rk ys a (l++r) b:=by
 induction l generalizing a with
 | nil=>exact (show a=m from h)▸h2
 | cons x l ih=>exact ⟨h.1,h.2.1,h.2.2.1,ih h.2.2.2⟩
theorem Chain.keep (h:Chain rk ys a l b)(k:Keep lo hi ys zs)(hd:b<=lo\/hi<=a):Chain rk zs a l b:=by
 induction l generalizing a with
 | nil=>exact h
 | cons x l ih=>exact ⟨h.1,h.2.1,h.2.2.1.keep k (hd.imp_left fun q=>Nat.le_trans (Nat.le_trans (Nat.le_add_right ..) h.2.2.2.le) q),ih h.2.2.2 (hd.imp_right fun q=>Nat.le_trans q (Nat.le_add_right ..))⟩
theorem Chain.power (h:Chain rk ys a l b):Chain rk ys a (l.modify i fun x=>(x.1,x.2.1,pw)) b:=by
 induction l generalizing a i with
 | nil=>cases i<;>exact h
 | cons x l ih=>
  cases i with
  | zero=>exact h
  | succ i=>exact ⟨h.1,h.2.1,h.2.2.1,ih h.2.2.2⟩
end
noncomputable def oT {β:Type}(o:Option (Nat × Nat × Nat))(a:Nat->Nat->Nat->β)(b:β):β:=match o with
 | some (x,y,z)=>a x y z
 | _=>b
noncomputable abbrev SrS:=ForInStep (Option Unit × Nat)
noncomputable def srT (lo n:Nat):StateT SortSt Sem SrS:=modify (fun s=>setPending s ((pendingOf s).push (lo,n,0)))>>=fun _=>pure (.yield (none,lo+n))
noncomputable def srM (i:Nat):StateT SortSt Sem (ForInStep (Option Unit × Unit)):=mergeAt' i>>=fun b=>if (!b)=true then pure (.done (some (),())) else pure (.yield (none,()))
noncomputable def srL (pw:Nat):StateT SortSt Sem (ForInStep (Option Unit × Unit)):=get>>=fun st=>
 oT (if (pendingOf st).size>1 then (pendingOf st)[(pendingOf st).size-2]? else none) (fun _ _ older=>if older<=pw then pure (.done (none,())) else srM ((pendingOf st).size-2)) (pure (.done (none,())))
noncomputable def srB (size lo n:Nat):StateT SortSt Sem SrS:=get>>=fun st=>oT (pendingOf st).back? (fun s1 n1 _=>
 forIn [:size] ((none,()):Option Unit × Unit) (fun _ _=>srL (power' size (2*s1+n1) (2*s1+n1+n1+n) size))>>=fun t=>oE t.1 (fun r=>pure (.done (some r,lo)))
  (modify (fun s=>setPending s ((pendingOf s).modify ((pendingOf s).size-1) fun x=>(x.1,x.2.1,power' size (2*s1+n1) (2*s1+n1+n1+n) size)))>>=fun _=>srT lo n)) (srT lo n)
noncomputable def srN (size lo N n:Nat):StateT SortSt Sem SrS:=liftM (rule "list.sort.binary-insertion")>>=fun _=>binarySort' lo N n>>=fun b=>if (!b)=true then pure (.done (some (),lo)) else srB size lo N
noncomputable def srC (size mr lo n:Nat):StateT SortSt Sem SrS:=if n<mr then srN size lo (min (size-lo) mr) n else srB size lo n
noncomputable def srA (size mr lo:Nat):StateT SortSt Sem SrS:=if lo>=size then pure (.done (none,lo)) else countRun' lo (size-lo)>>=fun x=>oM x (srC size mr lo) (pure (.done (some (),lo)))
noncomputable def srF:StateT SortSt Sem (ForInStep (Option Unit × Unit)):=get>>=fun st=>if (pendingOf st).size<=1 then pure (.done (none,())) else
 srM (if Option.any (fun x=>decide (x<(pendingOf st)[(pendingOf st).size-2+1]?.elim 0 fun x=>x.2.1)) (if (pendingOf st).size-2>0 then Option.map (fun x=>x.2.1) (pendingOf st)[(pendingOf st).size-2-1]? else none)=true then (pendingOf st).size-2-1 else (pendingOf st).size-2)
theorem uo:sortRuns'=(get>>=fun st=>forIn [:(arrOf st).size] ((none,0):Option Unit × Nat) (fun _ s=>srA (arrOf st).size (minRun' (arrOf st).size (arrOf st).size 0) s.2)>>=fun s=>oE s.1 pure
 (forIn [:(arrOf st).size] ((none,()):Option Unit × Unit) (fun _ _=>srF)>>=fun s=>oE s.1 pure (pure ()))):=by kernel_rfl
inductive Fr (c:Sx)(xs:Array Keyed){δ:Type}(f:Nat->δ)(T:Nat->Array Keyed->Nat->Prop):δ->SortSt->Prop
 | mk {lo g:Nat} {ys:Array Keyed} {p:Array (Nat × Nat × Nat)}:lo<=xs.size->Keep 0 xs.size xs ys->Chain c.rk ys 0 p.toList lo->T lo ys p.size->Fr c xs f T (f lo) (c.S ys p g)
theorem j1u {b:Prop} [Decidable b] {m n k:Nat}(h:m<=k)(g:n<=k):(if b then m else n)<=k:=by split<;>assumption
theorem Chain.one {rk:Keyed->Int}{ys:Array Keyed}{l:List (Nat × Nat × Nat)}{b:Nat}(h1:1<=b)(hl:l.length<=1)(C:Chain rk ys 0 l b):Srt rk ys 0 b:=by
 cases l with
 | nil=>exact absurd (C:0=b) (Nat.ne_of_lt h1)
 | cons x l=>
  cases l with
  | nil=>exact (show 0+x.2.1=b from C.2.2.2)▸C.2.2.1
  | cons y l=>exact absurd hl (Nat.not_le.mpr (Nat.succ_lt_succ (Nat.zero_lt_succ _)))
section
variable {c:Sx} {xs ys:Array Keyed} {p:Array (Nat × Nat × Nat)} {g i lo n mr pw:Nat}
theorem j0L {Q:ForInStep (Option Unit × Unit)->SortSt->Prop}(PX:∀x∈xs.toList,c.P x)(hlo:lo<=xs.size)(K:Keep 0 xs.size xs ys)(C:Chain c.rk ys 0 p.toList lo)(hi:i+1<p.size)
  (h:∀zs q g',Keep 0 xs.size xs zs->Chain c.rk zs 0 q.toList lo->Keep 0 lo ys zs->q.size+1=p.size->Q (.yield (none,())) (c.S zs q g')):WQ c (srM i) Q (c.S ys p g):=by
 have hi':=Nat.lt_of_succ_lt hi
 have e:p.toList=p.toList.take i++p[i]::p[i+1]::p.toList.drop (i+2):=by
  conv=>lhs;rw [<-List.take_append_drop i p.toList,List.drop_eq_getElem_cons hi',List.drop_eq_getElem_cons hi]
  rfl
 have ex:p[i]? =some p[i]:=Array.getElem?_eq_getElem hi'
 have ey:p[i+1]? =some p[i+1]:=Array.getElem?_eq_getElem hi
 revert ex ey e
 generalize p[i]=x
 generalize p[i+1]=y
 intro e ex ey
 obtain ⟨m,C1,hx,nx,S1,hy,ny,S2,C2⟩:=(e▸C:Chain c.rk ys 0 (p.toList.take i++x::y::p.toList.drop (i+2)) lo).split
 subst hx
 have hz:=Nat.le_trans (Nat.le_add_right ..) C2.le
 refine wpS_bind (wa (K.all PX) ex (ey.trans (congrArg some (Prod.ext hy rfl:y=(x.1+x.2.1,y.2.1,y.2.2)))) nx ny (Nat.le_trans (Nat.le_trans hz hlo) (Nat.le_of_eq K.size.symm)) S1 S2 fun zs g' K2 S3=>wpS_pure (h zs _ g' (K.trans (K2.mono (Nat.zero_le _) (Nat.le_trans hz hlo))) ?_ (K2.mono (Nat.zero_le _) hz) ?_))
 ·have li:(p.toList.take i).length=i:=List.length_take_of_le (Nat.le_of_lt hi')
  rw [Array.toList_eraseIdxIfInBounds,Array.toList_setIfInBounds,e,List.set_append_right _ _ (Nat.le_of_eq li),List.eraseIdx_append_of_length_le (Nat.le_trans (Nat.le_of_eq li) (Nat.le_succ i)),li,Nat.sub_self,show i.succ-i=1 from Nat.add_sub_cancel_left i 1]
  exact (C1.keep K2 (.inl (Nat.le_refl _))).join ⟨rfl,Nat.le_trans nx (Nat.le_add_right ..),Nat.add_assoc .. ▸S3,Nat.add_assoc .. ▸C2.keep K2 (.inr (Nat.le_refl _))⟩
 ·rw [<-Array.length_toList,Array.toList_eraseIdxIfInBounds,List.length_eraseIdx_of_lt (by simp;exact hi)]
  simp;exact z1193 hi
noncomputable abbrev Rn (c:Sx)(lo n l:Nat)(ys:Array Keyed)(_:Nat):Prop:=l=lo/\Srt c.rk ys lo (lo+n)
noncomputable abbrev uu (_:Nat):Option Unit × Unit:=(none,())
theorem wq_srL {d:Option Unit × Unit}{st:SortSt}(PX:∀x∈xs.toList,c.P x)(m:Fr c xs uu (Rn c lo n) d st):WQ c (srL pw) (Sq (Fr c xs uu (Rn c lo n)) (Fr c xs uu (Rn c lo n))) st:=by
 have m0:=m
 cases m with
 | @mk l g ys p hl K C S=>
  refine wpS_bind (wpS_get (?_:WQ c (oT (if p.size>1 then p[p.size-2]? else none) _ _) _ _))
  by_cases hp:p.size>1
  ·rw [if_pos hp,Array.getElem?_eq_getElem (z1201 hp)]
   exact WQ.ite (fun _=>wpS_pure m0) fun _=>j0L PX hl K C (z1202 hp) fun zs q g' a b c _=>Fr.mk hl a b ⟨S.1,S.2.keep c (.inr (Nat.le_of_eq S.1))⟩
  ·rw [if_neg hp]
   exact wpS_pure m0
noncomputable abbrev Lw (x l:Nat)(_:Array Keyed)(_:Nat):Prop:=x<=l
noncomputable abbrev ul (l:Nat):Option Unit × Nat:=(none,l)
theorem j0M {x:Nat}{R:Option Unit × Nat->SortSt->Prop}(hx:x<=lo)(hn:lo+n<=xs.size)(h1:1<=n)(K:Keep 0 xs.size xs ys)(C:Chain c.rk ys 0 p.toList lo)(S:Srt c.rk ys lo (lo+n)):WQ c (srT lo n) (Sq R (Fr c xs ul (Lw (x+1)))) (c.S ys p g):=
 wpS_bind (wpS_modify (wpS_pure (Fr.mk (p:=p.push (lo,n,0)) hn K (Array.toList_push▸C.join ⟨rfl,h1,S,rfl⟩) (Nat.le_trans (Nat.succ_le_succ hx) (Nat.add_le_add_left h1 lo)))))
theorem wq_srB {x:Nat}{R:Option Unit × Nat->SortSt->Prop}(PX:∀x∈xs.toList,c.P x)(hx:x<=lo)(hn:lo+n<=xs.size)(h1:1<=n)(K:Keep 0 xs.size xs ys)(C:Chain c.rk ys 0 p.toList lo)(S:Srt c.rk ys lo (lo+n)):WQ c (srB xs.size lo n) (Sq R (Fr c xs ul (Lw (x+1)))) (c.S ys p g):=by
 refine wpS_bind (wpS_get (?_:WQ c (oT p.back? _ _) _ _))
 cases p.back? with
 | none=>exact j0M hx hn h1 K C S
 | some t=>
  refine WQ.forB (fun _=>Fr c xs uu (Rn c lo n)) (Fr c xs uu (Rn c lo n)) (fun x d st m=>wq_srL PX m) (fun _ _ m=>m) (Fr.mk (Nat.le_trans (Nat.le_add_right ..) hn) K C ⟨rfl,S⟩) fun d st m=> ?_
  clear K C S
  cases m with
  | @mk l g ys p hl K C S=>
   obtain ⟨rfl,S⟩:=S
   exact wpS_bind (wpS_modify (j0M (ys:=ys) (p:=p.modify (p.size-1) _) hx hn h1 K (Array.toList_modify .. ▸C.power) S))
theorem wq_srA {x:Nat}{d:Option Unit × Nat}{st:SortSt}(PX:∀x∈xs.toList,c.P x)(m:Fr c xs ul (Lw x) d st):WQ c (srA xs.size mr d.2) (Sq (Fr c xs ul (Lw xs.size)) (Fr c xs ul (Lw (x+1)))) st:=by
 cases m with
 | @mk lo g ys p hl K C S_=>
  refine .ite (fun q=>wpS_pure (Fr.mk hl K C q)) fun q=>wpS_bind (W4 (K.all PX) (Nat.le_trans (Nat.le_of_eq (Nat.add_sub_cancel' hl)) (Nat.le_of_eq K.size.symm)) (Nat.sub_pos_of_lt (Nat.not_le.mp q)) fun m zs KZ m1 m2 SZ=> ?_)
  have hz:=Nat.add_sub_cancel' hl
  have K2:=K.trans (KZ.mono (Nat.zero_le _) (Nat.le_of_eq hz))
  have C2:=C.keep KZ (.inl (Nat.le_refl _))
  have F:∀{n zs g},1<=n->n<=xs.size-lo->Keep 0 xs.size xs zs->Chain c.rk zs 0 p.toList lo->Srt c.rk zs lo (lo+n)->WQ c (srB xs.size lo n) (Sq (Fr c xs ul (Lw xs.size)) (Fr c xs ul (Lw (x+1)))) (c.S zs p g):=fun n1 n2 K C S=>wq_srB PX S_ (Nat.le_trans (Nat.add_le_add_left n2 lo) (Nat.le_of_eq hz)) n1 K C S
  refine (.ite (fun hm=>.rule (wpS_bind (j1r (K2.all PX) (Nat.le_trans (Nat.add_le_add_left (Nat.min_le_left ..) lo) (Nat.le_trans (Nat.le_of_eq hz) (Nat.le_of_eq K2.size.symm))) m1 (Nat.le_min.mpr ⟨m2,Nat.le_of_lt hm⟩) SZ fun ws KW SW=> ?_))) fun _=>F m1 m2 K2 C2 SZ:WQ c (srC xs.size mr lo m) _ _)
  exact F (Nat.le_trans m1 (Nat.le_min.mpr ⟨m2,Nat.le_of_lt hm⟩)) (Nat.min_le_left ..) (K2.trans (KW.mono (Nat.zero_le _) (Nat.le_trans (Nat.add_le_add_left (Nat.min_le_left ..) lo) (Nat.le_of_eq hz)))) (C2.keep KW (.inl (Nat.le_refl _))) SW
noncomputable abbrev Jn (xs:Array Keyed)(x l:Nat)(_:Array Keyed)(m:Nat):Prop:=l=xs.size/\(m<=1\/m+x<=xs.size)
theorem Yo {Q:Unit->SortSt->Prop}(PX:∀x∈xs.toList,c.P x)(h1:1<=xs.size)(h:∀ys p g',Keep 0 xs.size xs ys->Srt c.rk ys 0 xs.size->Q () (c.S ys p g')):WQ c sortRuns' Q (c.S xs #[] g):=by
 rw [uo]
 refine wpS_bind (wpS_get (WQ.forB (n:=xs.size) (fun x=>Fr c xs ul (Lw x)) (Fr c xs ul (Lw xs.size)) (fun x d st m=>wq_srA PX m) (fun _ _ m=>m) (Fr.mk (Nat.zero_le _) .refl rfl (Nat.le_refl 0)) fun d st m=> ?_))
 cases m with
 | @mk lo g ys p hl K C S=>
  refine WQ.forB (n:=xs.size) (fun x=>Fr c xs uu (Jn xs x)) (Fr c xs uu (Jn xs xs.size)) (fun x d st m=> ?_) (fun _ _ m=>m) (Fr.mk hl K C ⟨Nat.le_antisymm hl S,.inr (Nat.le_trans (Nat.le_trans (Nat.le_of_eq (Nat.zero_add _).symm) C.le) hl)⟩) fun d st m=> ?_
  ·have m0:=m
   cases m with
   | @mk lo g ys p hl K C S=>
    refine wpS_bind (wpS_get (?_:WQ c (if p.size<=1 then _ else srM _) _ _))
    refine .ite (fun q=>wpS_pure (Fr.mk hl K C ⟨S.1,.inl q⟩)) fun q=> ?_
    refine j0L PX hl K C ?_ fun zs q' g' K' C' _ hq=>Fr.mk hl K' C' ⟨S.1,.inr (Nat.le_trans (Nat.le_of_eq ((Nat.succ_add_eq_add_succ q'.size x).symm.trans (congrArg (· +x) hq))) (S.2.resolve_left q))⟩
    have e:p.size-2+1<p.size:=Nat.lt_of_lt_of_le (Nat.lt_succ_self _) (Nat.le_of_eq (Nat.sub_add_cancel (Nat.not_le.mp q)))
    exact Nat.lt_of_le_of_lt (Nat.add_le_add_right (j1u (Nat.sub_le ..) (Nat.le_refl _)) 1) e
  ·cases m with
   | @mk lo g ys p hl K C S=> 
    obtain ⟨e,S⟩:=S
    exact wpS_pure (h _ _ _ K (e▸C.one (e▸h1) (S.elim id fun h=>Nat.le_of_add_le_add_right (Nat.le_trans h (Nat.le_add_left _ 1)))))
end
end Mine
set_option maxHeartbeats 1000000
namespace Mine
open PySem PySem.Calls PyProof.Rows PySem.W PySem.SeqAt
noncomputable def Rel2 {α β:Type}(R:α->β->Prop):List α->List β->Prop
 | [],[]=>True
 | a::l,b::m=>R a b/\Rel2 R l m
 | _,_=>False
theorem Rel2.len {α β:Type}{R:α->β->Prop}:∀{l:List α} {m:List β},Rel2 R l m->l.length=m.length
 | [],[],_=>rfl
 | _::l,_::m,h=>by simp [h.2.len]
 | [],_::_,h=>h.elim
 | _::_,[],h=>h.elim
theorem Rel2.at {α β:Type}{R:α->β->Prop}:∀{l:List α} {m:List β} {i:Nat} {a:α} {b:β},Rel2 R l m->l[i]? =some a->m[i]? =some b->R a b
 | [],[],_,_,_,_,h,_=>by contradiction
 | _::l,_::m,0,a,b,h,e1,e2=>by
  simp only [List.getElem?_cons_zero,Option.some.injEq] at e1 e2
  subst e1;subst e2;exact h.1
 | _::l,_::m,i+1,a,b,h,e1,e2=>by
  exact h.2.at e1 e2
 | [],_::_,_,_,_,h,_,_=>h.elim
 | _::_,[],_,_,_,h,_,_=>h.elim
theorem Rel2.perm {α β:Type}{R:α->β->Prop}{l l':List α}(p:l.Perm l'):∀{m:List β},Rel2 R l' m->∃m',m'.Perm m/\Rel2 R l m':=by
 induction p with
 | nil=>exact fun {m} h=>⟨m,.refl _,h⟩
 | cons x p ih=>
  intro m h
  match m,h with
  | b::m,h=>
   obtain ⟨m',p',h'⟩:=ih h.2
   exact ⟨b::m',p'.cons _,h.1,h'⟩
 | swap x y l=>
  intro m h
  match m,h with
  | b::b2::m,h=>exact ⟨b2::b::m,.swap _ _ _,h.2.1,h.1,h.2.2⟩
 | trans p q ih1 ih2=>
  intro m h
  obtain ⟨m1,p1,h1⟩:=ih2 h
  obtain ⟨m2,p2,h2⟩:=ih1 h1
  exact ⟨m2,p2.trans p1,h2⟩
theorem Rel2.mem {α β:Type}{R:α->β->Prop}:∀{l:List α} {m:List β} {a:α},Rel2 R l m->a∈l->∃b∈m,R a b
 | [],_,_,_,h=>by contradiction
 | a::l,b::m,x,h,hx=>by
  rcases List.mem_cons.mp hx with rfl| hx
  ·exact ⟨b,.head _,h.1⟩
  ·obtain ⟨y,hy,hr⟩:=h.2.mem hx
   exact ⟨y,.tail _ hy,hr⟩
 | _::_,[],_,h,_=>h.elim
section
variable {K:List Addr} {h:Heap}
theorem Vs.inj:∀{xs ys:List Int} {vs:List Value},Vs K h (xs.map .int) vs->Vs K h (ys.map .int) vs->xs=ys
 | [],[],_,_,_=>rfl
 | [],y::ys,vs,a,b=>by
  simp only [List.map_nil,List.map_cons] at a b
  unfold Vs at a b;subst a;obtain ⟨_,_,e,_⟩:=b;contradiction
 | x::xs,[],vs,a,b=>by
  simp only [List.map_nil,List.map_cons] at a b
  unfold Vs at a b;subst b;obtain ⟨_,_,e,_⟩:=a;contradiction
 | x::xs,y::ys,vs,a,b=>by
  simp only [List.map_cons] at a b
  obtain ⟨v,us,e1,x1,x2⟩:=a
  obtain ⟨v',us',e2,y1,y2⟩:=b
  replace e2:=(e1 ..).symm.trans e2;cases e2
  obtain ⟨t,rfl⟩:=x1.toInt
  obtain ⟨t',e⟩:=y1.toInt
  injection e with e;subst e
  exact congrArg _ (Vs.inj x2 y2 ..)
theorem V.rowInj {xs ys:List Int}{v:Value}(a:V K h (row xs) v)(b:V K h (row ys) v):xs=ys:=by
 obtain ⟨p,vs,n,rfl,_,g,r⟩:=a
 obtain ⟨p',vs',n',e,_,g',r'⟩:=b
 injection e with e;subst e
 replace g':=(g ..).symm.trans g'
 have e:vs=vs':=by
  have:=congrArg (fun o:Option Obj=>o) g'
  simp at this
  exact this.1
 subst e
 exact Vs.inj r r'
theorem V.keyInj {xs ys:List Int}{v:Value}(a:V K h (keyD xs) v)(b:V K h (keyD ys) v):xs=ys:=by
 obtain ⟨p,n,t,w,rfl,g,r⟩:=a.key
 obtain ⟨p',n',t',w',e,g',r'⟩:=b.key
 injection e with e;subst e
 replace g':=(g ..).symm.trans g'
 have e:w=w':=by
  simp at g'
  exact g'.1.2
 subst e
 exact r.rowInj r'
open Classical in
noncomputable def wb (K:List Addr)(h:Heap)(rows:List (List Int))(x:Keyed):Int:=if q:∃r,V K h (keyD r) x.1 then (rows.countP fun r'=>jE r' q.choose:Nat) else 0
theorem Je {rows:List (List Int)}{x:Keyed}{r:List Int}(e:V K h (keyD r) x.1):wb K h rows x=(rows.countP fun r'=>jE r' r:Nat):=by
 have q:∃r,V K h (keyD r) x.1:=⟨r,e⟩
 unfold wb
 rw [dif_pos q,V.keyInj q.choose_spec e]
theorem yV {rows:List (List Int)}{a b:List Int}(ha:a∈rows):decide (((rows.countP fun r=>jE r a:Nat):Int)<(rows.countP fun r=>jE r b:Nat))=jE a b:=by
 cases h:jE a b with
 | true=>
  have:=uH (p:=fun r=>jE r a) (q:=fun r=>jE r b) ha h (Jb _) fun y _ e=>JT e h
  simp;exact this
 | false=>
  have:rows.countP (fun r=>jE r b)<=rows.countP (fun r=>jE r a):=List.countP_mono_left fun y _ e=>by
   cases h2:jE b a with
   | true=>exact JT e h2
   | false=>rw [JU h h2];exact e
  simp;exact this
theorem Rel2.ofVs:∀{rows:List (List Int)} {ks vs:List Value},Vs K h (rows.map keyD) ks->Vs K h (rows.map row) vs->Rel2 (fun (x:Keyed) r=>V K h (keyD r) x.1/\V K h (row r) x.2) (ks.zip vs) rows
 | [],ks,vs,a,b=>by
  subst a;trivial
 | r::rows,ks,vs,a,b=>by
  obtain ⟨v,us,rfl,x1,x2⟩:=a
  obtain ⟨v',us',rfl,y1,y2⟩:=b
  exact ⟨⟨x1,y1⟩,Rel2.ofVs x2 y2⟩
theorem Rel2.toVs {F:Keyed->Value}{G:List Int->D}{R:Keyed->List Int->Prop}(hR:∀x r,R x r->V K h (G r) (F x)):∀{rows:List (List Int)} {l:List Keyed},Rel2 R l rows->Vs K h (rows.map G) (l.map F)
 | [],[],_=>Vs.nil
 | r::rows,x::l,a=>by
  exact Vs.cons (hR _ _ a.1) (Rel2.toVs hR a.2)
 | [],_::_,a=>a.elim
 | _::_,[],a=>a.elim
end
section
variable {c:Cx} {A:Around} {fr:List Addr} {σ:Sto} {X:Addr->Sto->Prop} {Q:D->Sto->Prop}
theorem W7 {rows:List (List Int)}{ks vs:List Value}{K:List Addr}{a kS:Addr}{e1:Nat}{s:Shared}{P:PySem.Fin->Shared->Prop}{E:Value->Shared->Prop}(hu:A.units+12<cLine)(hk:Vs K s.heap (rows.map keyD) ks)(hv:Vs K s.heap (rows.map row) vs)
  (h:∀(st:SortSt) (us:List Value) (out:List (List Int)),failedOf st=none->(arrOf st).map (·.2)=us.toArray->out.Perm rows->out.Pairwise yu->Vs K s.heap (out.map row) us->wpAny (model c.prog c.w) A (ksk_tail a false e1 (.ref kS) st) P E s):
  wpAny (model c.prog c.w) A (ksk_end a false vs.toArray e1 (.ref kS) ks.toArray) P E s:=by
 have hvl:vs.length=rows.length:=by simpa using hv.length
 have R0:=Rel2.ofVs hk hv
 unfold ksk_end
 dsimp only [Bool.false_eq_true,if_false]
 have ez:(ks.toArray.zip vs.toArray).toList=ks.zip vs:=by simp
 by_cases h2:vs.toArray.size<2
 ·rw [if_pos h2,if_pos h2]
  refine wpAny_bind (wpAny_pure ?_)
  refine wpAny_bind (Q:=_) (m:=(pure ():StateT SortSt Sem Unit).run _) ?_
  refine wpAny_pure ?_
  have h2':rows.length<2:=by simpa [hvl] using h2
  refine h _ ((ks.zip vs).map (·.2)) rows rfl ?_ (.refl _) (Uq h2') (Rel2.toVs (fun x r hr=>hr.2) R0)
  apply Array.toList_inj.mp
  rw [Array.toList_map]
  exact congrArg _ ez
 ·rw [if_neg h2,if_neg h2]
  have h2':2<=rows.length:=by simp [hvl] at h2;exact h2
  obtain ⟨fs,t1,t2,t3⟩:=KatTups.of hk
  refine wpAny_bind (kat_kind (T:=.type "int") t1 (z955 h2' t2) (fun v hv'=>by obtain ⟨i,t,rfl⟩:=t3 v hv';exact Looks.of_pure rfl) rfl ?_)
  have hz:(ks.toArray.zip vs.toArray).size=rows.length:=by simp [(by exact hk.length),hvl]
  refine wpAny_bind (wpAny_mono (Yo (c:=⟨c.prog,c.w,A,E,s,tuples' true,wb K s.heap rows,fun x=>∃r∈rows,V K s.heap (keyD r) x.1,fun x y ⟨r,hr,hx⟩ ⟨r',hr',hy⟩ Q E hq=> ?_⟩) (xs:=ks.toArray.zip vs.toArray) (g:=7)
   (Q:=fun _ st'=>failedOf st'=none/\Keep 0 (ks.toArray.zip vs.toArray).size (ks.toArray.zip vs.toArray) (arrOf st')/\Srt (wb K s.heap rows) (arrOf st') 0 rows.length) (fun x hx=> ?_) (by omega) fun ys p g' K1 S1=>⟨rfl,K1,by rw [<-hz];exact S1⟩) ?_ fun _ _ x=>x)
  ·refine Y9 hu hx hy ?_
   rw [Je hx,Je hy,yV hr] at hq
   exact hq
  ·rw [ez] at hx
   obtain ⟨r,hr,hh⟩:=R0.mem hx
   exact ⟨r,hr,hh.1⟩
  ·rintro ⟨⟨⟩,st'⟩ s' ⟨rfl,a1,a2,a3⟩
   have hp:(arrOf st').toList.Perm (ks.zip vs):=by rw [<-ez];exact Array.perm_iff_toList_perm.mp a2.perm
   obtain ⟨out,o1,o2⟩:=Rel2.perm hp R0
   refine h st' ((arrOf st').toList.map (·.2)) out a1 (by apply Array.toList_inj.mp;simp) o1 ?_ (Rel2.toVs (fun x r hr=>hr.2) o2)
   rw [List.pairwise_iff_getElem]
   intro i j hi hj hij
   have hol:=o1.length_eq
   have hal:=o2.len
   have i1:(arrOf st').toList[i]? =some (arrOf st').toList[i]:=List.getElem?_eq_getElem (z23 hi hal)
   have j1:(arrOf st').toList[j]? =some (arrOf st').toList[j]:=List.getElem?_eq_getElem (z23 hj hal)
   have ri:=o2.at i1 (List.getElem?_eq_getElem hi)
   have rj:=o2.at j1 (List.getElem?_eq_getElem hj)
   have:=a3 i j (Nat.zero_le _) (z24 hij) (z39 hj hol)
   rw [Array.getElem?_toList] at i1 j1
   rw [jL i1,jL j1,Je ri.1,Je rj.1] at this
   unfold yu
   rw [<-yV (o1.mem_iff.mp (List.getElem_mem hj))]
   simpa using this
theorem uS {sd:SD}{rows:List (List Int)}{f:Addr}{P:Around->Prop}{s:Shared}{v:Value}(hL:sd.isL=true)(hd:sd.ds=rows.map row)(inv:sd.inv σ)(h64:rows.length<=16777216)(hu:A.units+20<cLine)(hP:P A.in1.in1)
  (hf:∀r∈rows,WC c P (.ref f) [row r] σ (fun d σ'=>σ'=σ/\d=keyD r) NoX) (ok:Ok c A fr σ s.heap) (hv:V (keys σ++fr) s.heap sd.d v)
  (h:∀out:List (List Int),out.Perm rows->out.Pairwise yu->QL Q (out.map row) σ):W c A none fr σ (call (.builtin "sorted") [v] [(Str.ofString "key",.ref f)]) V Q X s:=by
 obtain ⟨l,rfl,z⟩:=SD.of_v hv
 obtain ⟨vs,n,g,r⟩:=z.list ok inv hL
 simp only [hd] at r
 have hlen:vs.length=rows.length:=by simpa using r.length
 refine call_function_entry_kw kind_sorted plain_sorted entry_sorted (ksk_s1 _ _) ?_
 refine wpAny_bind (m:=checkCount "sorted" 1 1 _) (wpAny_pure ?_)
 refine wpAny_bind (collect_list ⟨_,g,rfl,n,rfl⟩ ?_ (by rw [sizeLine_eq];exact z645 hlen h64))
 refine wpAny_bind (wpAny_newList ?_ (by rw [sizeLine_eq];exact z645 hlen h64))
 have hsz:((s.heap.push (seqObj "list" #[] 0)).update s.heap.objs.size (Obj.mapSeq (· ++vs.toArray))).objs.size=s.heap.objs.size+1:=by
  rw [Heap.size_update,size_push']
 have hoL:(((s.heap.push (seqObj "list" #[] 0)).update s.heap.objs.size (Obj.mapSeq (· ++vs.toArray))).push (seqObj "list" vs.toArray 0)).get? (s.heap.objs.size+1)=some (seqObj "list" vs.toArray 0):=by
  rw [<-hsz];exact Heap.get?_push_size _ rfl
 have keep:∀b o,s.heap.get? b=some o->(((s.heap.push (seqObj "list" #[] 0)).update s.heap.objs.size (Obj.mapSeq (· ++vs.toArray))).push (seqObj "list" vs.toArray 0)).get? b=some o:=fun b o q=>by
  have hlt:b<s.heap.objs.size:=Heap.lt_size q
  rw [Heap.get?_push_ne _ _ _ (by rw [hsz];exact Nat.ne_of_lt (Nat.lt_succ_of_lt hlt)),Heap.get?_update_ne _ _ _ _ (Nat.ne_of_lt hlt),Heap.get?_push_ne _ _ _ (Nat.ne_of_lt hlt)]
  exact q
 have hsz2:(((s.heap.push (seqObj "list" #[] 0)).update s.heap.objs.size (Obj.mapSeq (· ++vs.toArray))).push (seqObj "list" vs.toArray 0)).objs.size=s.heap.objs.size+2:=by rw [size_push',hsz]
 show wpAny _ _ _ _ _ {s with heap:=((s.heap.push (seqObj "list" #[] 0)).update s.heap.objs.size (Obj.mapSeq (· ++vs.toArray))).push (seqObj "list" vs.toArray 0)}
 rw [hsz]
 revert hoL keep hsz2
 generalize ((s.heap.push (seqObj "list" #[] 0)).update s.heap.objs.size (Obj.mapSeq (· ++vs.toArray))).push (seqObj "list" vs.toArray 0)=H1
 intro hoL keep hsz2
 refine wpAny_bind (wpAny_holding (wpAny_call_entry_kw slot_list_sort ⟨_,hoL,rfl⟩ entry_list_sort ?body (ksk_l1 _ _)))
 show wpAny (model c.prog c.w) A.in1.in1 (Builtin.«list.sort» ⟨[.ref (s.heap.objs.size+1)],[(Str.ofString "key",.ref f)]⟩) _ _ _
 rw [ksk_t1]
 have hnone:∀b,s.heap.objs.size<=b->s.heap.get? b=none:=fun b hb=>jg hb
 unfold ksk_tree
 refine wpAny_bind (listItems_at hoL rfl ?_)
 obtain ⟨e1,ho1⟩:∃e1,(H1.update (s.heap.objs.size+1) (Obj.mapSeq fun _=>(#[]:Array Value))).get? (s.heap.objs.size+1)=some (seqObj "list" #[] e1):=⟨_,get?_update_seq hoL fun _=> #[]⟩
 refine wpAny_bind (listUpdate_at hoL rfl ?_ (by rw [List.size_toArray,sizeLine_eq];exact z645 hlen h64) (Nat.zero_le _))
 refine wpAny_bind (seqEpoch_at ho1 rfl ?_)
 refine wpAny_bind (wpAny_newTuple ?_ (by show vs.length<=_;rw [sizeLine_eq];exact z645 hlen h64))
 refine wpAny_bind (wpAny_newList ?_ (Nat.zero_le _))
 refine wpAny_holding ?_
 have hszk:((H1.update (s.heap.objs.size+1) (Obj.mapSeq fun _=>(#[]:Array Value))).push (seqObj "tuple" vs.toArray 0)).objs.size=s.heap.objs.size+3:=by rw [size_push',Heap.size_update,hsz2]
 show wpAny (model c.prog c.w) A.in1.in1 (ksk_rest (s.heap.objs.size+1) (.ref f) false vs.toArray e1 (.ref ((H1.update (s.heap.objs.size+1) (Obj.mapSeq fun _=>(#[]:Array Value))).push (seqObj "tuple" vs.toArray 0)).objs.size)) _ _ {s with heap:=((H1.update (s.heap.objs.size+1) (Obj.mapSeq fun _=>(#[]:Array Value))).push (seqObj "tuple" vs.toArray 0)).push (seqObj "list" #[] 0)}
 have gk:(((H1.update (s.heap.objs.size+1) (Obj.mapSeq fun _=>(#[]:Array Value))).push (seqObj "tuple" vs.toArray 0)).push (seqObj "list" #[] 0)).get? (s.heap.objs.size+3)=some (jk [] 0):=by rw [<-hszk];exact Heap.get?_push_size _ rfl
 have ga:(((H1.update (s.heap.objs.size+1) (Obj.mapSeq fun _=>(#[]:Array Value))).push (seqObj "tuple" vs.toArray 0)).push (seqObj "list" #[] 0)).get? (s.heap.objs.size+1)=some (jk [] e1):=Heap.get?_push_of_some _ (Heap.get?_push_of_some _ ho1)
 have keep4:∀b o,s.heap.get? b=some o->(((H1.update (s.heap.objs.size+1) (Obj.mapSeq fun _=>(#[]:Array Value))).push (seqObj "tuple" vs.toArray 0)).push (seqObj "list" #[] 0)).get? b=some o:=fun b o q=>by
  have hlt:b<s.heap.objs.size:=Heap.lt_size q
  refine Heap.get?_push_of_some _ (Heap.get?_push_of_some _ ?_)
  rw [Heap.get?_update_ne _ _ _ _ (Nat.ne_of_lt (Nat.lt_succ_of_lt hlt))]
  exact keep b o q
 rw [hszk]
 revert gk ga keep4
 generalize ((H1.update (s.heap.objs.size+1) (Obj.mapSeq fun _=>(#[]:Array Value))).push (seqObj "tuple" vs.toArray 0)).push (seqObj "list" #[] 0)=H4
 intro gk ga keep4
 have hn:∀b∈[s.heap.objs.size+1,s.heap.objs.size+3],s.heap.get? b=none:=fun b hb=>by
  simp only [List.mem_cons,List.not_mem_nil,or_false] at hb
  rcases hb with rfl| rfl
  ·exact hnone _ (Nat.le_add_right _ _)
  ·exact hnone _ (Nat.le_add_right _ _)
 have hne13:s.heap.objs.size+1≠s.heap.objs.size+3:=fun e=>by
  have:=Nat.add_left_cancel e
  cases this
 have ok4:Ok c A.in1.in1 ([s.heap.objs.size+1,s.heap.objs.size+3]++fr) σ H4:=(ok.more keep4 hn (fun b hb=>by
  simp only [List.mem_cons,List.not_mem_nil,or_false] at hb
  rcases hb with rfl| rfl
  ·exact ⟨_,ga⟩
  ·exact ⟨_,gk⟩) (by simp only [List.nodup_cons,List.mem_singleton,List.not_mem_nil,not_false_eq_true,List.nodup_nil,and_true];exact hne13)).around rfl
 have p4:Post [] fr σ s {s with heap:=H4,toks:=s.toks} σ:=Post.keeps keep4
 have r4:Vs (keys σ++([s.heap.objs.size+1,s.heap.objs.size+3]++fr)) H4 (rows.map row) vs:=Vs.move (K:=keys σ++fr) (fun b o _ e=>keep4 b o e) (jC hn) _ _ r
 unfold ksk_rest
 refine wpAny_bind (wpAny_rule ?_)
 rw [List.forIn_toArray]
 generalize hA:s.heap.objs.size+1=a at*
 generalize hK:s.heap.objs.size+3=kS at*
 have hin:=ok.frames_in
 have mem_a:a∈[a,kS]++fr:=by simp
 have mem_k:kS∈[a,kS]++fr:=by simp
 let J:Nat->Shared->Prop:=fun i s'=>Post [a,kS] ([a,kS]++fr) σ {s with heap:=H4,toks:=s.toks} s' σ/\Ok c A.in1.in1 ([a,kS]++fr) σ s'.heap/\s'.heap.get? a=some (jk [] e1)/\
  (∃ks e,s'.heap.get? kS=some (jk ks e)/\Vs (keys σ++([a,kS]++fr)) s'.heap ((rows.take i).map keyD) ks)/\Vs (keys σ++([a,kS]++fr)) s'.heap (rows.map row) vs
 refine wpAny_bind (ksk_fold J vs 0 _ ⟨Post.refl ..,ok4,ga,⟨[],0,gk,Vs.nil⟩,r4⟩ (fun j x s' hx hJ=> ?_) fun s' hJ=> ?_)
 ·obtain ⟨q1,okj,gaj,⟨ks,e,gkj,hks⟩,hvs⟩:=hJ
  rw [Nat.zero_add] at hks⊢
  obtain ⟨d,hd1,hx1⟩:=hvs.get hx
  rw [List.getElem?_map] at hd1
  obtain ⟨rw_,hr1,rfl⟩:=Option.map_eq_some_iff.mp hd1
  have hksl:ks.length+1<=16777216:=by have e1:=hks.length;have e2:=(List.getElem?_eq_some_iff.mp hr1).1;simp only [List.length_map,List.length_take] at e1;exact z1210 e2 e1 h64
  refine wpAny_bind (wpAny_attempt ?_)
  refine wpAny_mono (hf rw_ (List.mem_of_getElem? hr1) A.in1.in1 ([a,kS]++fr) s' [x] hP okj (Vs.cons hx1 Vs.nil)) (fun k s'' ⟨dk,σ',pk,okk,xk,e2,e3⟩=> ?_) fun _ _ x=>(Ex.no x).elim
  have e2':=e2.symm
  subst e2';subst e3
  obtain ⟨sl,gk2,hs2⟩:=pk.slots kS _ mem_k (by simp) gkj
  have gk3:s''.heap.get? kS=some (jk ks e):=by rw [hs2 (by intro es n z;cases z)] at gk2;exact gk2
  obtain ⟨sl',ga2,hs2'⟩:=pk.slots a _ mem_a (by simp) gaj
  have ga3:s''.heap.get? a=some (jk [] e1):=by rw [hs2' (by intro es n z;cases z)] at ga2;exact ga2
  dsimp only
  refine wpAny_bind (listUpdate_at gk3 rfl ?_ (by rw [List.size_toArray,sizeLine_eq];exact z32 hksl) (Nat.le_trans (Nat.le_of_eq (Array.size_push ..)) (by rw [List.size_toArray,sizeLine_eq];exact z689 hksl)))
  refine wpAny_pure ⟨rfl,?_⟩
  have ea:ks.toArray.push k=(ks++[k]).toArray:=by simp
  obtain ⟨c2,hc2⟩:∃c2,(s''.heap.update kS (Obj.mapSeq (·.push k))).get? kS=some (jk (ks++[k]) c2):=⟨_,by have:=get?_update_seq gk3 (·.push k);rw [ea] at this;exact this⟩
  have kp:∀b o,b≠kS->s''.heap.get? b=some o->(s''.heap.update kS (Obj.mapSeq (·.push k))).get? b=some o:=fun b o hb q=>by rw [Heap.get?_update_ne _ _ _ _ hb];exact q
  have ow:Ow [a,kS] s''.heap (s''.heap.update kS (Obj.mapSeq (·.push k))):=⟨fun b o hb q=>kp b o (fun e=>hb (by rw [e];simp)) q,fun b hb=>by
   simp only [List.mem_cons,List.not_mem_nil,or_false] at hb
   rcases hb with rfl| rfl
   ·exact ⟨_,kp _ _ hne13 ga3⟩
   ·exact ⟨_,hc2⟩⟩
  have pw:Post [a,kS] ([a,kS]++fr) σ s'' {s'' with heap:=s''.heap.update kS (Obj.mapSeq (·.push k)),toks:=s''.toks} σ:=Post.ow (F:=[]) (tk:=s''.toks) ow
  have stw:Stay (keys σ++([a,kS]++fr)) s''.heap (s''.heap.update kS (Obj.mapSeq (·.push k))):=pw.stay
  refine ⟨(q1.trans (pk.wide (by simp))).trans pw,okk.ow (fun b hb o q es n=> ?_) ow,kp _ _ hne13 ga3,⟨_,c2,hc2,?_⟩,pw.vs (pk.vs hvs)⟩
  ·simp only [List.mem_cons,List.not_mem_nil,or_false] at hb
   rcases hb with rfl| rfl
   ·rw [ga3] at q;cases q;exact fun z=>by cases z
   ·rw [gk3] at q;cases q;exact fun z=>by cases z
  ·exact Vs.snocMap (pw.vs (pk.vs hks)) hr1 (pw.v xk)
 ·obtain ⟨q1,okj,gaj,⟨ks,e,gkj,hks⟩,hvs⟩:=hJ
  rw [Nat.zero_add,hlen,List.take_length] at hks
  have hksl:ks.length=rows.length:=by have:=hks.length;simpa using this
  refine wpAny_bind (listItems_at gkj rfl ?_)
  refine W7 (by show A.units+1+1+12<cLine;exact z961 hu) hks hvs fun st us out hst l3 l4 l5 l6=> ?_
  have l2:us.length=rows.length:=by
   have e1:=l6.length
   have e2:=l4.length_eq
   rw [List.length_map] at e1;exact z1002 e1 e2
  unfold ksk_tail
  dsimp only
  rw [l3]
  refine wpAny_bind (listUpdate_at gkj rfl ?_ (by rw [List.size_toArray,sizeLine_eq];exact z645 hksl h64) (Nat.zero_le _))
  refine wpAny_bind (wpAny_letGo ?_)
  have kp:∀b o,b≠kS->s'.heap.get? b=some o->(s'.heap.update kS (Obj.mapSeq fun _=> #[])).get? b=some o:=fun b o hb q=>by rw [Heap.get?_update_ne _ _ _ _ hb];exact q
  obtain ⟨ck,hck⟩:∃ck,(s'.heap.update kS (Obj.mapSeq fun _=>(#[]:Array Value))).get? kS=some (jk [] ck):=⟨_,get?_update_seq gkj fun _=> #[]⟩
  have ga5:=kp _ _ hne13 gaj
  refine wpAny_bind (seqEpoch_at ga5 rfl ?_)
  refine wpAny_bind (listUpdate_at ga5 rfl ?_ (Nat.zero_le _) (Nat.le_trans (Nat.le_of_eq (by simp [l2])) (by rw [sizeLine_eq];exact z689 h64:rows.length<=sizeLine+1)))
  rw [hst]
  simp only [bne_self_eq_false,Bool.false_eq_true,if_false]
  refine wpAny_pure ⟨_,rfl,wpAny_pure ⟨_,rfl,?_⟩⟩
  obtain ⟨cz,hcz⟩:∃cz,((s'.heap.update kS (Obj.mapSeq fun _=>(#[]:Array Value))).update a (Obj.mapSeq fun _=>us.toArray)).get? a=some (jk us cz):=⟨_,get?_update_seq ga5 fun _=>us.toArray⟩
  have kp2:∀b o,b∉[a,kS]->s'.heap.get? b=some o->((s'.heap.update kS (Obj.mapSeq fun _=>(#[]:Array Value))).update a (Obj.mapSeq fun _=>us.toArray)).get? b=some o:=fun b o hb q=>by
   simp only [List.mem_cons,List.not_mem_nil,or_false,not_or] at hb
   rw [Heap.get?_update_ne _ _ _ _ hb.1]
   exact kp b o hb.2 q
  have ow:Ow [a,kS] s'.heap ((s'.heap.update kS (Obj.mapSeq fun _=>(#[]:Array Value))).update a (Obj.mapSeq fun _=>us.toArray)):=⟨kp2,fun b hb=>by
   simp only [List.mem_cons,List.not_mem_nil,or_false] at hb
   rcases hb with rfl| rfl
   ·exact ⟨_,hcz⟩
   ·refine ⟨jk [] ck,?_⟩
    rw [Heap.get?_update_ne _ _ _ _ (fun e=>hne13 e.symm)];exact hck⟩
  have pw:Post [a,kS] ([a,kS]++fr) σ s' {s' with heap:=(s'.heap.update kS (Obj.mapSeq fun _=>(#[]:Array Value))).update a (Obj.mapSeq fun _=>us.toArray),toks:=s'.toks} σ:=Post.ow (F:=[]) (tk:=s'.toks) ow
  have okw:Ok c A ([a]++([kS]++fr)) σ ((s'.heap.update kS (Obj.mapSeq fun _=>(#[]:Array Value))).update a (Obj.mapSeq fun _=>us.toArray)):=(okj.ow (fun b hb o q es n=>by
   simp only [List.mem_cons,List.not_mem_nil,or_false] at hb
   rcases hb with rfl| rfl
   ·rw [gaj] at q;cases q;exact fun z=>by cases z
   ·rw [gkj] at q;cases q;exact fun z=>by cases z) ow).around rfl
  have pf:Post (Fo none) fr σ s {s' with heap:=(s'.heap.update kS (Obj.mapSeq fun _=>(#[]:Array Value))).update a (Obj.mapSeq fun _=>us.toArray),toks:=s'.toks} σ:=Post.drop (F:=[]) p4 hn (q1.trans pw)
  have hvz:Vs (keys σ++([a]++fr)) ((s'.heap.update kS (Obj.mapSeq fun _=>(#[]:Array Value))).update a (Obj.mapSeq fun _=>us.toArray)) (out.map row) us:=by
   have:=pw.vs l6
   exact Vs.move (K:=keys σ++([a,kS]++fr)) (fun b o _ q=>q) (fun b hb=>.inl (by
    simp only [List.mem_append,List.mem_cons,List.not_mem_nil,or_false] at hb⊢
    rcases hb with hb| hb| hb
    ·exact .inl hb
    ·exact .inr (.inl (.inl hb))
    ·exact .inr (.inr hb))) _ _ this
  exact QL.use (G:=none) (h _ l4 l5) pf (Ok.less (ex:=[a]) okw hin) hin hcz hvz (hn a (by simp))
end
section
variable {c:Cx} {A:Around} {fr:List Addr} {σ:Sto} {X:Addr->Sto->Prop} {Q:D->Sto->Prop} {env:Env} {m:Vars} {B:List Stmt} {bs:List (Str × Value)}
theorem WE.sortedN (T:Tp c B bs){f x k:Str}{fp np kp kpos pos:Pos}{n:Nat}(r:Room (n+2) A)(hk:env.kindOf f=some .globalImplicit)(hb:bs.lookup f=some (.builtin "sorted"))(hk2:env.kindOf k=some .globalImplicit)(hdf:Dfn c k)
  (h:WE c A fr env m σ (.Name x np) (fun d σ1=>∃(sd:SD) (rows:List (List Int)),d=sd.d/\sd.isL=true/\sd.ds=rows.map row/\sd.inv σ1/\rows.length<=16777216/\(∀r∈rows,WF c (Room (n+1)) k [row r] σ1 (fun d σ'=>σ'=σ1/\d=keyD r) NoX)/\
   ∀out:List (List Int),out.Perm rows->out.Pairwise yu->QL Q (out.map row) σ1) X) (hdb:(f==("__debug__":Str))=false:=by decide) (hdb2:(k==("__debug__":Str))=false:=by decide):
  WE c A fr env m σ (.Call (.Name f fp) [.Name x np] [⟨some (Str.ofString "key"),.Name k kp,kpos⟩] pos) Q X:=fun s ok fm=>by
 obtain ⟨a,o,fd,g1,g2,g3⟩:=hdf
 refine wpAny_bind (Name_function_global fm.kind hk (loadGlobal_builtin (by rw [fm.glob];exact T.good.g.keeps ok.base) (T.bn _ _ hb).1 (by rw [fm.bui];exact T.good.b.keeps ok.base) (T.bn _ _ hb).2 ?_) hdb)
 refine callWith_kw ?_
 refine wpAny_mono ((WA.cons (h.mono (fun d σ1 q=>WA.nil ⟨d,rfl,q⟩) fun _ _ y=>y):WA c A fr env m σ [.Name x np] (fun ds σ1=>∃d,ds=[d]/\∃(sd:SD) (rows:List (List Int)),d=sd.d/\sd.isL=true/\sd.ds=rows.map row/\sd.inv σ1/\rows.length<=16777216/\(∀r∈rows,WF c (Room (n+1)) k [row r] σ1 (fun d σ'=>σ'=σ1/\d=keyD r) NoX)/\
   ∀out:List (List Int),out.Perm rows->out.Pairwise yu->QL Q (out.map row) σ1) X) pos s ok fm) (fun vs s1 ⟨ds,σ1,p1,ok1,x1,d,e1,sd,rows,e2,hL,hds,inv,h64,hf,hq⟩=> ?_) fun _ _ y=>y
 subst e1;subst e2
 obtain ⟨v,us,rfl,xv,x2⟩:=x1
 subst x2
 show wpAny _ A (evalAll [do let v<-eval (.Name k kp) env;standAt pos;pure v]) _ _ s1
 refine evalAll_cons (wpAny_bind ?_)
 have fm1:=fm.move p1
 refine Name_function_global fm1.kind hk2 (loadGlobal_global (by rw [fm1.glob];exact T.good.g.keeps ok1.base) g1 ?_) hdb2
 refine wpAny_bind (wpAny_standAt (wpAny_pure (evalAll_nil ?_)))
 refine wpAny_mono (uS (P:=Room (n+1)) hL hds inv h64 (by exact z966 (r.1.2) (rfl)) r.in2 (fun r hr=>hf r hr a g1) ok1 xv hq) (fun v s2 ⟨d,σ2,p2,ok2,x2,q2⟩=>⟨d,σ2,p1.trans p2,ok2,x2,q2⟩) fun _ _ x=>Ex.back p1 x fun _ _ y=>y
end
end Mine
set_option maxHeartbeats 1000000
namespace Mine
open PySem PySem.Calls PyProof.Rows PySem.W PySem.SeqAt
noncomputable def j1v (a:Addr)(before:Nat)(s:SortSt):Sem PySem.Fin:=do
 let sorted:=(arrOf s).map (·.2)
 let touched:=(<-seqEpoch a) !=before
 Builtin.List.listUpdate (.ref a) fun _=>sorted
 if let some e:=failedOf s then rule "list.sort.comparison-raised";throw e
 if touched then rule "list.sort.modified";raiseError "ValueError" "list modified during sort"
 ret .none
noncomputable def endP (a:Addr)(items:Array Value)(before:Nat):Sem PySem.Fin:=do
 let kind<-if items.size<2 then pure general' else keyKind' items
 let ((),s)<-(if items.size<2 then pure () else sortRuns').run (SortSt.mk' kind (items.zip items) #[] 7 none)
 j1v a before s
theorem Uf (a:Addr):Builtin.«list.sort» ⟨[.ref a],[]⟩=(do
  let items<-Builtin.List.listItems (.ref a)
  Builtin.List.listUpdate (.ref a) fun _=> #[]
  let before<-seqEpoch a
  let held<-newTuple items.toList
  let keyStore<-newList []
  holding [held,keyStore] (endP a items before)):=rfl
section
variable {K:List Addr} {h:Heap}
theorem Rel2.ofVs2 {F G:List Int->D}:∀{rows:List (List Int)} {ks vs:List Value},Vs K h (rows.map F) ks->Vs K h (rows.map G) vs->Rel2 (fun (x:Keyed) r=>V K h (F r) x.1/\V K h (G r) x.2) (ks.zip vs) rows
 | [],ks,vs,a,b=>by
  subst a;trivial
 | r::rows,ks,vs,a,b=>by
  obtain ⟨v,us,rfl,x1,x2⟩:=a
  obtain ⟨v',us',rfl,y1,y2⟩:=b
  exact ⟨⟨x1,y1⟩,Rel2.ofVs2 x2 y2⟩
end
section
variable {c:Cx} {A:Around} {fr:List Addr} {σ:Sto} {X:Addr->Sto->Prop} {Q:D->Sto->Prop}
theorem W8 {rows:List (List Int)}{vs:List Value}{K:List Addr}{a:Addr}{e1:Nat}{s:Shared}{P:PySem.Fin->Shared->Prop}{E:Value->Shared->Prop}(hu:A.units+12<cLine)(hk:Vs K s.heap (rows.map keyD) vs)
  (h:∀(st:SortSt) (us:List Value) (out:List (List Int)),failedOf st=none->(arrOf st).map (·.2)=us.toArray->out.Perm rows->out.Pairwise yu->Vs K s.heap (out.map keyD) us->wpAny (model c.prog c.w) A (j1v a e1 st) P E s):
  wpAny (model c.prog c.w) A (endP a vs.toArray e1) P E s:=by
 have hvl:vs.length=rows.length:=by simpa using hk.length
 have R0:=Rel2.ofVs2 (F:=keyD) (G:=keyD) hk hk
 unfold endP
 have ez:(vs.toArray.zip vs.toArray).toList=vs.zip vs:=by simp
 by_cases h2:vs.toArray.size<2
 ·rw [if_pos h2,if_pos h2]
  refine wpAny_bind (wpAny_pure ?_)
  refine wpAny_bind (Q:=_) (m:=(pure ():StateT SortSt Sem Unit).run _) ?_
  refine wpAny_pure ?_
  have h2':rows.length<2:=by simpa [hvl] using h2
  refine h _ ((vs.zip vs).map (·.2)) rows rfl ?_ (.refl _) (Uq h2') (Rel2.toVs (fun x r hr=>hr.2) R0)
  apply Array.toList_inj.mp
  simp only [Array.toList_map]
  exact congrArg _ ez
 ·rw [if_neg h2,if_neg h2]
  have h2':2<=rows.length:=by simp [hvl] at h2;exact h2
  obtain ⟨fs,t1,t2,t3⟩:=KatTups.of hk
  refine wpAny_bind (kat_kind (T:=.type "int") t1 (z955 h2' t2) (fun v hv'=>by obtain ⟨i,t,rfl⟩:=t3 v hv';exact Looks.of_pure rfl) rfl ?_)
  have hz:(vs.toArray.zip vs.toArray).size=rows.length:=by simp [hvl]
  refine wpAny_bind (wpAny_mono (Yo (c:=⟨c.prog,c.w,A,E,s,tuples' true,wb K s.heap rows,fun x=>∃r∈rows,V K s.heap (keyD r) x.1,fun x y ⟨r,hr,hx⟩ ⟨r',hr',hy⟩ Q E hq=> ?_⟩) (xs:=vs.toArray.zip vs.toArray) (g:=7)
   (Q:=fun _ st'=>failedOf st'=none/\Keep 0 (vs.toArray.zip vs.toArray).size (vs.toArray.zip vs.toArray) (arrOf st')/\Srt (wb K s.heap rows) (arrOf st') 0 rows.length) (fun x hx=> ?_) (by omega) fun ys p g' K1 S1=>⟨rfl,K1,by rw [<-hz];exact S1⟩) ?_ fun _ _ x=>x)
  ·refine Y9 hu hx hy ?_
   rw [Je hx,Je hy,yV hr] at hq
   exact hq
  ·rw [ez] at hx
   obtain ⟨r,hr,hh⟩:=R0.mem hx
   exact ⟨r,hr,hh.1⟩
  ·rintro ⟨⟨⟩,st'⟩ s' ⟨rfl,a1,a2,a3⟩
   have hp:(arrOf st').toList.Perm (vs.zip vs):=by rw [<-ez];exact Array.perm_iff_toList_perm.mp a2.perm
   obtain ⟨out,o1,o2⟩:=Rel2.perm hp R0
   refine h st' ((arrOf st').toList.map (·.2)) out a1 (by apply Array.toList_inj.mp;simp) o1 ?_ (Rel2.toVs (fun x r hr=>hr.2) o2)
   rw [List.pairwise_iff_getElem]
   intro i j hi hj hij
   have hol:=o1.length_eq
   have hal:=o2.len
   have i1:(arrOf st').toList[i]? =some (arrOf st').toList[i]:=List.getElem?_eq_getElem (z23 hi hal)
   have j1:(arrOf st').toList[j]? =some (arrOf st').toList[j]:=List.getElem?_eq_getElem (z23 hj hal)
   have ri:=o2.at i1 (List.getElem?_eq_getElem hi)
   have rj:=o2.at j1 (List.getElem?_eq_getElem hj)
   have:=a3 i j (Nat.zero_le _) (z24 hij) (z39 hj hol)
   rw [Array.getElem?_toList] at i1 j1
   rw [jL i1,jL j1,Je ri.1,Je rj.1] at this
   unfold yu
   rw [<-yV (o1.mem_iff.mp (List.getElem_mem hj))]
   simpa using this
theorem uT {sd:SD}{rows:List (List Int)}{s:Shared}{v:Value}(hL:sd.isL=true)(hd:sd.ds=rows.map keyD)(inv:sd.inv σ)(h64:rows.length<=16777216)(hu:A.units+20<cLine)
  (ok:Ok c A fr σ s.heap) (hv:V (keys σ++fr) s.heap sd.d v)
  (h:∀out:List (List Int),out.Perm rows->out.Pairwise yu->QL Q (out.map keyD) σ):W c A none fr σ (call (.builtin "sorted") [v]) V Q X s:=by
 obtain ⟨l,rfl,z⟩:=SD.of_v hv
 obtain ⟨vs,n,g,r⟩:=z.list ok inv hL
 simp only [hd] at r
 have hlen:vs.length=rows.length:=by simpa using r.length
 refine Calls.call_function_entry kind_sorted plain_sorted entry_sorted (args_sorted1 _) ?_
 refine wpAny_bind (m:=checkCount "sorted" 1 1 _) (wpAny_pure ?_)
 refine wpAny_bind (collect_list ⟨_,g,rfl,n,rfl⟩ ?_ (by rw [sizeLine_eq];exact z645 hlen h64))
 refine wpAny_bind (wpAny_newList ?_ (by rw [sizeLine_eq];exact z645 hlen h64))
 have hsz:((s.heap.push (seqObj "list" #[] 0)).update s.heap.objs.size (Obj.mapSeq (· ++vs.toArray))).objs.size=s.heap.objs.size+1:=by
  exact (Heap.size_update ..).trans (size_push' ..)
 have hoL:(((s.heap.push (seqObj "list" #[] 0)).update s.heap.objs.size (Obj.mapSeq (· ++vs.toArray))).push (seqObj "list" vs.toArray 0)).get? (s.heap.objs.size+1)=some (seqObj "list" vs.toArray 0):=by
  exact (congrArg _ (hsz ..).symm).trans (Heap.get?_push_size _ rfl)
 have keep:∀b o,s.heap.get? b=some o->(((s.heap.push (seqObj "list" #[] 0)).update s.heap.objs.size (Obj.mapSeq (· ++vs.toArray))).push (seqObj "list" vs.toArray 0)).get? b=some o:=fun b o q=>by
  have hlt:=Heap.lt_size q
  rw [Heap.get?_push_ne _ _ _ (by simp only [hsz];exact Nat.ne_of_lt (Nat.lt_succ_of_lt hlt)),Heap.get?_update_ne _ _ _ _ (Nat.ne_of_lt hlt),Heap.get?_push_ne _ _ _ (Nat.ne_of_lt hlt)]
  exact q
 have hsz2:(((s.heap.push (seqObj "list" #[] 0)).update s.heap.objs.size (Obj.mapSeq (· ++vs.toArray))).push (seqObj "list" vs.toArray 0)).objs.size=s.heap.objs.size+2:=by simp only [size_push',hsz]
 show wpAny _ _ _ _ _ {s with heap:=((s.heap.push (seqObj "list" #[] 0)).update s.heap.objs.size (Obj.mapSeq (· ++vs.toArray))).push (seqObj "list" vs.toArray 0)}
 rw [hsz]
 revert hoL keep hsz2
 generalize ((s.heap.push (seqObj "list" #[] 0)).update s.heap.objs.size (Obj.mapSeq (· ++vs.toArray))).push (seqObj "list" vs.toArray 0)=H1
 intro hoL keep hsz2
 refine wpAny_bind (wpAny_holding (wpAny_call_entry slot_list_sort ⟨_,hoL,rfl⟩ entry_list_sort ?body (args_list_sort _)))
 simp only [Uf]
 have hnone:∀b,s.heap.objs.size<=b->s.heap.get? b=none:=fun b hb=>jg hb
 refine wpAny_bind (listItems_at hoL rfl ?_)
 obtain ⟨e1,ho1⟩:∃e1,(H1.update (s.heap.objs.size+1) (Obj.mapSeq fun _=>(#[]:Array Value))).get? (s.heap.objs.size+1)=some (seqObj "list" #[] e1):=⟨_,get?_update_seq hoL fun _=> #[]⟩
 refine wpAny_bind (listUpdate_at hoL rfl ?_ (by exact z645 hlen h64) (Nat.zero_le _))
 refine wpAny_bind (seqEpoch_at ho1 rfl ?_)
 refine wpAny_bind (wpAny_newTuple ?_ (by exact z645 hlen h64))
 refine wpAny_bind (wpAny_newList ?_ (Nat.zero_le _))
 refine wpAny_holding ?_
 show wpAny (model c.prog c.w) A.in1.in1 (endP (s.heap.objs.size+1) vs.toArray e1) _ _ {s with heap:=((H1.update (s.heap.objs.size+1) (Obj.mapSeq fun _=>(#[]:Array Value))).push (seqObj "tuple" vs.toArray 0)).push (seqObj "list" #[] 0)}
 have gk:(((H1.update (s.heap.objs.size+1) (Obj.mapSeq fun _=>(#[]:Array Value))).push (seqObj "tuple" vs.toArray 0)).push (seqObj "list" #[] 0)).get? (s.heap.objs.size+3)=some (jk [] 0):=by rw [<-(by rw [size_push',Heap.size_update,hsz2]:((H1.update (s.heap.objs.size+1) (Obj.mapSeq fun _=>(#[]:Array Value))).push (seqObj "tuple" vs.toArray 0)).objs.size=s.heap.objs.size+3)];exact Heap.get?_push_size _ rfl
 have ga:(((H1.update (s.heap.objs.size+1) (Obj.mapSeq fun _=>(#[]:Array Value))).push (seqObj "tuple" vs.toArray 0)).push (seqObj "list" #[] 0)).get? (s.heap.objs.size+1)=some (jk [] e1):=Heap.get?_push_of_some _ (Heap.get?_push_of_some _ ho1)
 have keep4:∀b o,s.heap.get? b=some o->(((H1.update (s.heap.objs.size+1) (Obj.mapSeq fun _=>(#[]:Array Value))).push (seqObj "tuple" vs.toArray 0)).push (seqObj "list" #[] 0)).get? b=some o:=fun b o q=>by
  have hlt:b<s.heap.objs.size:=Heap.lt_size q
  refine Heap.get?_push_of_some _ (Heap.get?_push_of_some _ ?_)
  rw [Heap.get?_update_ne _ _ _ _ (Nat.ne_of_lt (Nat.lt_succ_of_lt hlt))]
  exact keep b o q
 revert gk ga keep4
 generalize ((H1.update (s.heap.objs.size+1) (Obj.mapSeq fun _=>(#[]:Array Value))).push (seqObj "tuple" vs.toArray 0)).push (seqObj "list" #[] 0)=H4
 intro gk ga keep4
 have hn:∀b∈[s.heap.objs.size+1,s.heap.objs.size+3],s.heap.get? b=none:=fun b hb=>by
  simp only [List.mem_cons,List.not_mem_nil,or_false] at hb
  rcases hb with rfl| rfl
  ·exact hnone _ (Nat.le_add_right _ _)
  ·exact hnone _ (Nat.le_add_right _ _)
 have hne13:s.heap.objs.size+1≠s.heap.objs.size+3:=fun e=>by
  have:=Nat.add_left_cancel e
  cases this
 have ok4:Ok c A.in1.in1 ([s.heap.objs.size+1,s.heap.objs.size+3]++fr) σ H4:=(ok.more keep4 hn (fun b hb=>by
  simp only [List.mem_cons,List.not_mem_nil,or_false] at hb
  rcases hb with rfl| rfl
  ·exact ⟨_,ga⟩
  ·exact ⟨_,gk⟩) (by simp only [List.nodup_cons,List.mem_singleton,List.not_mem_nil,not_false_eq_true,List.nodup_nil,and_true];exact hne13)).around rfl
 have p4:Post [] fr σ s {s with heap:=H4,toks:=s.toks} σ:=Post.keeps keep4
 have r4:Vs (keys σ++([s.heap.objs.size+1,s.heap.objs.size+3]++fr)) H4 (rows.map keyD) vs:=Vs.move (K:=keys σ++fr) (fun b o _ e=>keep4 b o e) (jC hn) _ _ r
 generalize hA:s.heap.objs.size+1=a at*
 generalize hK:s.heap.objs.size+3=kS at*
 have hin:=ok.frames_in
 have mem_a:a∈[a,kS]++fr:=by simp
 have mem_k:kS∈[a,kS]++fr:=by simp
 refine W8 (by show A.units+1+1+12<cLine;exact z961 hu) r4 fun st us out hst l3 l4 l5 l6=> ?_
 have l2:us.length=rows.length:=by
  have e1:=l6.length
  have e2:=l4.length_eq
  rw [List.length_map] at e1;exact z1002 e1 e2
 unfold j1v
 dsimp only
 rw [l3]
 refine wpAny_bind (seqEpoch_at ga rfl ?_)
 refine wpAny_bind (listUpdate_at ga rfl ?_ (Nat.zero_le _) (Nat.le_trans (Nat.le_of_eq (by simp [l2])) (by rw [sizeLine_eq];exact z689 h64:rows.length<=sizeLine+1)))
 rw [hst]
 simp only [bne_self_eq_false,Bool.false_eq_true,if_false]
 refine wpAny_pure ⟨_,rfl,wpAny_pure ⟨_,rfl,?_⟩⟩
 obtain ⟨cz,hcz⟩:∃cz,(H4.update a (Obj.mapSeq fun _=>us.toArray)).get? a=some (jk us cz):=⟨_,get?_update_seq ga fun _=>us.toArray⟩
 have kp2:∀b o,b∉[a,kS]->H4.get? b=some o->(H4.update a (Obj.mapSeq fun _=>us.toArray)).get? b=some o:=fun b o hb q=>by
  simp only [List.mem_cons,List.not_mem_nil,or_false,not_or] at hb
  rw [Heap.get?_update_ne _ _ _ _ hb.1]
  exact q
 have ow:Ow [a,kS] H4 (H4.update a (Obj.mapSeq fun _=>us.toArray)):=⟨kp2,fun b hb=>by
  simp only [List.mem_cons,List.not_mem_nil,or_false] at hb
  rcases hb with rfl| rfl
  ·exact ⟨_,hcz⟩
  ·refine ⟨jk [] 0,?_⟩
   rw [Heap.get?_update_ne _ _ _ _ (fun e=>hne13 e.symm)];exact gk⟩
 have pw:Post [a,kS] ([a,kS]++fr) σ {s with heap:=H4,toks:=s.toks} {s with heap:=H4.update a (Obj.mapSeq fun _=>us.toArray),toks:=s.toks} σ:=Post.ow (F:=[]) (s:={s with heap:=H4,toks:=s.toks}) (tk:=s.toks) ow
 have okw:Ok c A ([a]++([kS]++fr)) σ (H4.update a (Obj.mapSeq fun _=>us.toArray)):=(ok4.ow (fun b hb o q es n=>by
  simp only [List.mem_cons,List.not_mem_nil,or_false] at hb
  rcases hb with rfl| rfl
  ·rw [ga] at q;cases q;exact fun z=>by cases z
  ·rw [gk] at q;cases q;exact fun z=>by cases z) ow).around rfl
 have pf:Post (Fo none) fr σ s {s with heap:=H4.update a (Obj.mapSeq fun _=>us.toArray),toks:=s.toks} σ:=Post.drop (F:=[]) p4 hn pw
 have hvz:Vs (keys σ++([a]++fr)) (H4.update a (Obj.mapSeq fun _=>us.toArray)) (out.map keyD) us:=by
  have:=pw.vs l6
  exact Vs.move (K:=keys σ++([a,kS]++fr)) (fun b o _ q=>q) (fun b hb=>.inl (by
   simp only [List.mem_append,List.mem_cons,List.not_mem_nil,or_false] at hb⊢
   rcases hb with hb| hb| hb
   ·exact .inl hb
   ·exact .inr (.inl (.inl hb))
   ·exact .inr (.inr hb))) _ _ this
 exact QL.use (G:=none) (h _ l4 l5) pf (Ok.less (ex:=[a]) okw hin) hin hcz hvz (hn a (by simp))
theorem At1.sortedP {sd:SD}{rows:List (List Int)}{j:Nat}(r:Room j A)(hL:sd.isL=true)(hd:sd.ds=rows.map keyD)(inv:sd.inv σ)(h64:rows.length<=16777216)(h:∀out:List (List Int),out.Perm rows->out.Pairwise yu->QL Q (out.map keyD) σ):At1 c A fr σ (.builtin "sorted") [sd.d] Q X:=
 .one fun s v ok hv=>uT hL hd inv h64 (by exact z966 (r.1.2) (rfl)) ok hv h
end
end Mine
namespace Mine
noncomputable def boxL:List Nat->List (List Int)
 | []=>[[]]
 | b::bs=>(List.range b).flatMap fun (i:Nat)=>(boxL bs).map fun r=>(i:Int)::r
theorem UE:∀bs:List Nat,(boxL bs).length=bs.foldr (· *·) 1
 | []=>rfl
 | b::bs=>by
  simp only [boxL,List.length_flatMap]
  simp only [List.length_map,List.foldr_cons]
  rw [UE bs]
  induction b with
  | zero=>simp
  | succ b ih=>simp only [List.range_succ,List.map_append,List.sum_append,ih];simp [Nat.succ_mul]
theorem UF:∀{bs:List Nat} {v:List Int},v.length=bs.length->(∀i,i<bs.length->0<=v.getD i 0/\v.getD i 0<bs.getD i 0)->v∈boxL bs
 | [],v,hl,_=>by cases v<;>simp [boxL] at hl⊢
 | b::bs,v,hl,h=>by
  cases v with
  | nil=>contradiction
  | cons x v=>
   rw [boxL,List.mem_flatMap]
   have h0:=h 0 (by simp)
   simp at h0
   refine ⟨x.toNat,List.mem_range.mpr (z309 h0.1 h0.2),List.mem_map.mpr ⟨v,UF (by simpa using hl) fun i hi=> ?_,by rw [Int.toNat_of_nonneg h0.1]⟩⟩
   simpa using h (i+1) (by simpa using hi)
theorem uU {l:List (List Int)}{bs:List Nat}(nd:l.Nodup)(h:∀v∈l,v.length=bs.length+1/\∀i,i<bs.length->0<=v.getD (i+1) 0/\v.getD (i+1) 0<bs.getD i 0)(inj:∀v∈l,∀u∈l,v.tail=u.tail->v=u):l.length<=bs.foldr (· *·) 1:=by
 rw [<-UE,<-List.length_map (f:=List.tail)]
 refine jp ?_ fun x hx=> ?_
 ·rw [List.Nodup,List.pairwise_map]
  exact List.Pairwise.imp_of_mem (fun {a b} ha hb hab e=>hab (inj a ha b hb e)) nd
 ·obtain ⟨v,hv,rfl⟩:=List.mem_map.mp hx
  obtain ⟨h1,h2⟩:=h v hv
  refine UF (by rw [List.length_tail,h1];rfl) fun i hi=> ?_
  cases v with
  | nil=>contradiction
  | cons a v=>exact (h2 i hi)
structure Fits (E:List (List Int))(n:Nat)(once:Bool):Prop where
 len:∀e∈E,e.length=n
 ends:∃K,∀k,K<=k->(stF E n once k).2=[]
 front:∀k,(stF E n once k).2.length<=16000000
 found:∀k,(stF E n once k).1.length<=16000000
 most:∀s,Least E n s->(once=true->s.getD (n-1) 0<2)->s.sum<=100000000
theorem Ug {E:List (List Int)}{n:Nat}{once:Bool}{K:Nat}(hE:∀e∈E,e.length=n)(hK:∀R v,Alive E n once R v->v.sum<=K){s:List Int}(ls:Least E n s)(ho:once=true->s.getD (n-1) 0<2):s.sum<=K:=by
 have I:=Inv.at (once:=once) hE K
 rcases Int.lt_or_le K s.sum with q| q
 ·obtain ⟨v,hv,_⟩:=(I.all s ls ho).2 (by assumption)
  obtain ⟨R,x⟩:=I.alive hv
  have:=hK R v x
  have:=(I.reach v hv).2
  exact (z127 this ‹_›).elim
 ·exact q
theorem Fits.of {E:List (List Int)}{n:Nat}{once:Bool}{bs:List Nat}{K:Nat}(hE:∀e∈E,e.length=n)(hn:n=bs.length+1)(hK:∀R v,Alive E n once R v->v.sum<=K)(hb:∀R v,Alive E n once R v->∀i,i<bs.length->v.getD (i+1) 0<bs.getD i 0)
  (h:bs.foldr (· *·) 1<=16000000) (hK2:K<=100000000:=by decide):Fits E n once where
 len:=hE
 most:=fun s ls ho=>Int.le_trans (Ug hE hK ls ho) (Int.ofNat_le.mpr hK2)
 ends:=⟨K,fun k hk=>by
  have I:=Inv.at (once:=once) hE k
  cases e:(stF E n once k).2 with
  | nil=>rfl
  | cons v r=>
   have hv:v∈(stF E n once k).2:=by rw [e];exact .head _
   obtain ⟨R,x⟩:=I.alive hv
   have:=hK R v x
   have:=(I.reach v hv).2
   lia⟩
 front:=fun k=>by
  have I:=Inv.at (once:=once) hE k
  refine Nat.le_trans (uU I.nd (fun v hv=> ?_) fun v hv u hu e=> ?_) h
  ·obtain ⟨R,x⟩:=I.alive hv
   exact ⟨by exact (x.reach.row.len ..).trans (hn ..),fun i hi=>⟨x.reach.row.pos _,hb R v x i hi⟩⟩
  ·obtain ⟨⟨R,x⟩,hs⟩:=I.reach v hv
   obtain ⟨⟨R',x'⟩,hs'⟩:=I.reach u hu
   have h1:=x.row.len
   have h2:=x'.row.len
   cases v with
   | nil=>simp at h1;lia
   | cons a v=>
    cases u with
    | nil=>simp at h2;lia
    | cons b u=>
     simp only [List.tail_cons] at e
     subst e
     simp only [List.sum_cons] at hs hs'
     have:a=b:=z310 hs hs'
     rw [this]
 found:=fun k=>by
  have I:=Inv.at (once:=once) hE k
  have al:∀k v,v∈(stF E n once k).1->∃R,Alive E n once R v:=by
   intro k
   induction k with
   | zero=>intro v hv;contradiction
   | succ k ih=>
    intro v hv
    rcases List.mem_append.mp (show v∈(stF E n once k).1++_ from hv) with h| h
    ·exact ih v h
    ·exact (Inv.at hE k).alive (List.mem_filter.mp h).1
  refine Nat.le_trans (uU I.ndf (fun v hv=> ?_) fun v hv u hu e=> ?_) h
  ·obtain ⟨R,x⟩:=al k v hv
   exact ⟨by exact (x.reach.row.len ..).trans (hn ..),fun i hi=>⟨x.reach.row.pos _,hb R v x i hi⟩⟩
  ·have lv:=(I.least v hv).1
   have lu:=(I.least u hu).1
   have h1:=lv.row.len
   have h2:=lu.row.len
   have key:∀a b:List Int,a.length=n->b.length=n->a.tail=b.tail->a.getD 0 0<=b.getD 0 0->Le a b:=by
    intro a b ha hb' e h0 i
    cases a with
    | nil=>simp at ha;exact (z311 ha hn).elim
    | cons x a=>
     cases b with
     | nil=>simp at hb';exact (z311 hb' hn).elim
     | cons y b=>
      simp only [List.tail_cons] at e
      subst e
      cases i with
      | zero=>trivial
      | succ i=>simp
   rcases Int.le_total (v.getD 0 0) (u.getD 0 0) with q| q
   ·exact lu.least v lv.row lv.even lv.pos (key v u h1 h2 e q)
   ·exact (lv.least u lu.row lu.even lu.pos (key u v h2 h1 e.symm q)).symm
theorem jH {n:Nat}{v:List Int}(r:Row n v)(i:Nat):v.getD i 0<=v.sum:=by
 by_cases hi:i<n
 ·rw [r.sum]
  have h:=jJ (n:=n) (f:=fun j=>v.getD i 0*if j=i then 1 else 0) (g:=fun j=>v.getD j 0) fun j _=>by
   split
   ·rename_i e;subst e;simp
   ·simpa using (r.pos j)
  rw [Jt hi (fun _=>v.getD i 0)] at h
  exact h
 ·rw [List.getD_eq_getElem?_getD,List.getElem?_eq_none (by rw [r.len];exact z12 hi)]
  exact r.sum_nonneg
theorem Fits.level {E:List (List Int)}{n:Nat}{once:Bool}{K:Nat}(hE:∀e∈E,e.length=n)(hn:0<n)(hK:∀R v,Alive E n once R v->v.sum<=K)(h:(K+1)^(n-1)<=16000000)(hK2:K<=100000000:=by decide):Fits E n once:=
 Fits.of (bs:=List.replicate (n-1) (K+1)) (K:=K) hE (by simp;exact z312 hn) hK (fun R v x i hi=>by
  have h1:=hK R v x
  have h2:=jH x.reach.row (i+1)
  simp only [List.length_replicate] at hi
  simp [hi] at h2⊢
  exact z313 h1 h2) (by
  have:∀(m b:Nat),(List.replicate m b).foldr (· *·) 1=b^m:=by
   intro m b
   induction m with
   | zero=>rfl
   | succ m ih=>simp only [List.replicate_succ,List.foldr_cons,ih,Nat.pow_succ,Nat.mul_comm]
  rw [this];exact h) hK2
theorem Fits.none {n:Nat}{once:Bool}(hn:0<n)(hn2:n<=24):Fits [] n once:=
 Fits.level (K:=1) (by simp) hn (fun R v x=>by
  have:R=[]:=by
   cases R with
   | nil=>rfl
   | cons r R=>exact absurd (fun y hy=>by cases hy) (x.reach.back r (.head _)).2.2.2
  rw [x.reach.len,this];decide) (by
  exact Nat.le_trans (Nat.pow_le_pow_right (by decide) (show n-1<=23 by exact z314 hn2)) (by decide))
noncomputable abbrev col (E:List (List Int))(n p:Nat):List Int:=wor E (jj n p)
theorem UG {E:List (List Int)}{n p:Nat}{v:List Int}(r:Row n v):wor E (addR v (jj n p))=addR (wor E v) (col E n p):=j01 (by exact (r.len ..).trans (jx ..).symm)
theorem W9 (a:Int)(e v:List Int):dot (e.map (a*·)) v=a*dot e v:=by
 induction e generalizing v with
 | nil=>simp [jU]
 | cons x e ih=>
  cases v with
  | nil=>simp [Jk]
  | cons y v=>simp only [List.map_cons,je,je,ih,Int.mul_add,Int.mul_assoc]
theorem uq (as:List Int)(e v:List Int):wor (as.map fun a=>e.map (a*·)) v=as.map (· *dot e v):=by
 simp [wor,W9,Function.comp_def]
theorem j0g (as:List Int)(x y:Int):dot (as.map (· *x)) (as.map (· *y))=dot as as*(x*y):=by
 induction as with
 | nil=>simp [jU]
 | cons a as ih=>
  simp only [List.map_cons,je,je,Int.add_mul]
  congr 1
  simp only [Int.mul_assoc,<-Int.mul_assoc x a y,Int.mul_comm x a]
theorem YI {as e:List Int}{n w:Nat}{once:Bool}(he:e.length=n)(hw:∀x∈e,-(w:Int)<=x/\x<=w)(R:List (List Int))(v:List Int)(x:Alive (as.map fun a=>e.map (a*·)) n once R v):v.sum<=(2*w+2:Nat):=by
 have:=x.level (F:=(List.range (2*w+1)).map fun (i:Nat)=>as.map (· *((i:Int)-w))) fun r hr=>by
  obtain ⟨h1,h2⟩:=(x.reach.inv (P:=fun v=> -(w:Int)<=dot e v/\dot e v<=w) (fun p hp=>by
   exact (JJ he hp)▸hw _ (jX (z23 hp he))) fun R v p y hv ne hp hd _=>by
  simp only [uq,uq,j0g] at hd
  rw [yO (by exact (y.row.len ..).trans (jx ..).symm),JJ he hp]
  rw [JJ he hp] at hd
  have hp:=hw _ (jX (a:=e) (i:=p) (z23 hp he))
  have h0:=jn as
  generalize dot e v=a at*
  generalize e.getD p 0=b at*
  have hab:a*b<0:=by
   by_cases q:a*b<0
   ·exact q
   ·have:=Int.mul_nonneg h0 (show 0<=a*b by exact z21 q);exact (z22 hd this).elim
  rcases Int.lt_trichotomy a 0 with ha| ha| ha
  ·have:0<b:=by
    by_cases q:0<b
    ·exact q
    ·have:=Int.mul_nonneg_of_nonpos_of_nonpos (show a<=0 by exact z275 ha) (show b<=0 by exact z21 q);exact (z22 hab this).elim
   exact z475 this ha hv.1 hp.2
  ·subst ha;simp at hab
  ·have:b<0:=by
    by_cases q:b<0
    ·exact q
    ·have:=Int.mul_nonneg (show 0<=a by exact z275 ha) (show 0<=b by exact z21 q);exact (z22 hab this).elim
   exact z476 ha this hv.2 hp.1).2 r hr
  simp only [uq]
  exact List.mem_map.mpr ⟨(dot e r+w).toNat,List.mem_range.mpr (z345 h2),by rw [Int.toNat_of_nonneg (z194 h1)];congr 1;funext a;congr 1;simp⟩
 rw [List.length_map,List.length_range] at this
 assumption
theorem Fits.line {as e:List Int}{n w:Nat}{once:Bool}(he:e.length=n)(hn:0<n)(hw:∀x∈e,-(w:Int)<=x/\x<=w)(h:(2*w+3)^(n-1)<=16000000)(hw2:w<=20:=by decide):Fits (as.map fun a=>e.map (a*·)) n once:=
 Fits.level (K:=2*w+2) (fun f hf=>by
  obtain ⟨a,_,rfl⟩:=List.mem_map.mp hf;simpa using he) hn (YI he hw) h (z477 hw2)
theorem Fits.one {e:List Int}{n w:Nat}{once:Bool}(he:e.length=n)(hn:0<n)(hw:∀x∈e,-(w:Int)<=x/\x<=w)(h:(2*w+3)^(n-1)<=16000000)(hw2:w<=20:=by decide):Fits [e] n once:=by
 have:=Fits.line (as:=[1]) (once:=once) he hn hw h hw2
 have e1:([1]:List Int).map (fun a=>e.map (a*·))=[e]:=by simp
 rw [e1] at this;exact this
theorem uV {E:List (List Int)}{n:Nat}{once:Bool}{F:List (List Int)}(G:List Int->Prop)(hG:∀w,G w->w∈F)(h0:∀p,p<n->G (col E n p))(hs:∀w p,p<n->G w->dot w (col E n p)<0->G (addR w (col E n p))):
  ∀R v,Alive E n once R v->v.sum<=(F.length+1:Nat):=fun R v x=>by
 exact (x.level (F:=F) fun r hr=>hG _ ((x.reach.inv (P:=fun v=>G (wor E v)) h0 fun R v p y hv ne hp hd _=>by rw [UG y.row];exact hs _ _ hp hv hd).2 r hr))
noncomputable def boxZ (lo:Int)(b:Nat):Nat->List (List Int)
 | 0=>[[]]
 | m+1=>(List.range b).flatMap fun (i:Nat)=>(boxZ lo b m).map fun r=>(lo+i)::r
theorem yW {lo:Int}{b:Nat}:∀{v:List Int},(∀x∈v,lo<=x/\x<lo+b)->v∈boxZ lo b v.length
 | [],_=>by exact .head _
 | x::v,h=>by
  rw [List.length_cons,boxZ,List.mem_flatMap]
  have h0:=h x (.head _)
  exact ⟨(x-lo).toNat,List.mem_range.mpr (z478 h0.2 h0.1),List.mem_map.mpr ⟨v,yW fun y hy=>h y (.tail _ hy),by rw [Int.toNat_of_nonneg (z13 h0.1)];congr 1;exact z479⟩⟩
theorem Jj (E:List (List Int))(n p:Nat):(col E n p).length=E.length:=ue _ _
theorem JY {E:List (List Int)}{n p:Nat}(hE:∀e∈E,e.length=n)(hp:p<n){w:Int}(hw:∀e∈E,∀x∈e,-w<=x/\x<=w):∀x∈col E n p,-w<=x/\x<=w:=fun x hx=>by
 obtain ⟨e,he,rfl⟩:=List.mem_map.mp hx
 exact (JJ (hE e he) hp)▸hw e he _ (jX (by exact (hE e he)▸hp))
noncomputable def j0h (m:Nat):List (List Int):=(boxZ (-2) 5 m).filter fun w=>decide (dot w w<=4)
theorem wd (m:Nat)(hm:m<=3):((j0h m).all fun w=>(boxZ (-1) 3 m).all fun c=> !decide (dot w c<0)|| decide (dot (addR w c) (addR w c)<=4))=true:=by
 match m,hm with
 | 0,_=>decide+kernel
 | 1,_=>decide+kernel
 | 2,_=>decide+kernel
 | 3,_=>decide+kernel
theorem Wa (m:Nat)(hm:m<=3):(j0h m).length<=33:=by
 match m,hm with
 | 0,_=>decide+kernel
 | 1,_=>decide+kernel
 | 2,_=>decide+kernel
 | 3,_=>decide+kernel
theorem we {a:Int}(h:a*a<=4): -2<=a/\a<3:=by
 constructor
 ·apply Classical.byContradiction
  intro q
  have h1:=Int.mul_le_mul_of_nonneg_left (show 3<=-a by exact z480 q) (show 0<=-a by exact z481 q)
  lia
 ·apply Classical.byContradiction
  intro q
  have h1:=Int.mul_le_mul_of_nonneg_left (show 3<=a by exact z21 q) (show 0<=a by exact z482 q)
  exact z483 h1 h q
theorem mem_sq {w:List Int}:∀x∈w,x*x<=dot w w:=by
 induction w with
 | nil=>intro x hx;cases hx
 | cons a w ih=>
  intro x hx
  rw [je]
  have h1:=ji a
  have h2:=jn w
  rcases List.mem_cons.mp hx with rfl| hx
  ·exact z115 h2
  ·have:=ih x hx;exact z484 h1 this
theorem uW {w:List Int}{m:Nat}(hl:w.length=m)(h:dot w w<=4):w∈j0h m:=by
 subst hl
 refine List.mem_filter.mpr ⟨yW fun x hx=> ?_,by simpa using h⟩
 have:=we (a:=x) (by have:=mem_sq x hx;exact z485 h this)
 assumption
theorem YJ {E:List (List Int)}{n:Nat}{once:Bool}(hE:∀e∈E,e.length=n)(hm:E.length<=3)(hw:∀e∈E,∀x∈e,-1<=x/\x<=1):∀R v,Alive E n once R v->v.sum<=(34:Nat):=by
 intro R v x
 have hc:=fun p hp=>by
  have:=yW (lo:= -1) (b:=3) (v:=col E n p) fun x hx=>by have:=JY hE hp hw x hx;exact z486 this.1 this.2
  rw [Jj] at this;exact this
 have h:=uV (E:=E) (n:=n) (once:=once) (F:=j0h E.length) (fun w=>w.length=E.length/\dot w w<=4) (fun w hw=>uW hw.1 hw.2) (fun p hp=>⟨Jj E n p,by
   have:∀c:List Int,(∀x∈c,-1<=x/\x<=1)->dot c c<=c.length:=by
    intro c
    induction c with
    | nil=>intro _;exact Int.le_refl _
    | cons a c ih=>
     intro h
     have h1:=ih fun x hx=>h x (.tail _ hx)
     have h2:=h a (.head _)
     simp only [je,List.length_cons]
     have:a= -1\/a=0\/a=1:=z487 h2.1 h2.2
     rcases this with rfl| rfl| rfl<;>skip<;>lia
   have:=this (col E n p) (JY hE hp hw)
   rw [Jj] at this;exact z491 this hm⟩) (fun w p hp hw' hd=>⟨yM hw'.1 (Jj E n p),by
   simpa [hd] using (List.all_eq_true.mp (List.all_eq_true.mp (wd E.length hm) w (uW hw'.1 hw'.2)) _ (hc p hp))⟩) R v x
 have:=Wa E.length hm
 exact z492 h this
theorem Fits.ones {E:List (List Int)}{n:Nat}{once:Bool}(hE:∀e∈E,e.length=n)(hm:E.length<=3)(hw:∀e∈E,∀x∈e,-1<=x/\x<=1)(hn:0<n)(hn5:n<=5):Fits E n once:=
 Fits.level hE hn (YJ hE hm hw) (Nat.le_trans (Nat.pow_le_pow_right (by decide) (show n-1<=4 by exact z474 hn5)) (by decide))
theorem j1w {E:List (List Int)}{n p:Nat}{v:List Int}(hE:∀e∈E,e.length=n)(r:Row n v):dot (wor E v) (col E n p)=sumN n (fun j=>v.getD j 0*dot (col E n p) (col E n j)):=by
 exact (jR ..).trans (Ua hE r.len ..)
theorem UH {E:List (List Int)}{n:Nat}{once:Bool}(h:∀p,p<n->∀j,j<n->0<=dot (col E n p) (col E n j)):∀R v,Alive E n once R v->R=[]:=by
 intro R v x
 have:∀{R v},Reach E n once R v->R=[]:=by
  intro R v y
  induction y with
  | unit hp=>rfl
  | step y ne hp hd ho ih=>
   subst ih
   cases y with
   | unit hq=>exact absurd hd (Int.not_lt.mpr (h _ hq _ hp))
 exact this x.reach
theorem Fits.size1 {E:List (List Int)}{once:Bool}(hE:∀e∈E,e.length=1):Fits E 1 once:=
 Fits.level (K:=1) hE (by decide) (fun R v x=>by
  rw [x.reach.len,(UH (fun p hp j hj=>by
   obtain rfl:p=0:=z493 hp
   obtain rfl:j=0:=z493 hj
   exact jn _) R v x)];decide) (by decide)
theorem Wb {w:Nat}:∀{a b:List Int},a.length=b.length->(∀x∈a,-(w:Int)<=x/\x<=w)->(∀x∈b,-(w:Int)<=x/\x<=w)->-((a.length*(w*w):Nat):Int)<=dot a b/\dot a b<=(a.length*(w*w):Nat)
 | [],[],_,_,_=>by simp [jU]
 | [],_::_,h,_,_=>by contradiction
 | _::_,[],h,_,_=>by contradiction
 | x::a,y::b,h,ha,hb=>by
  have ih:=Wb (a:=a) (b:=b) (by simpa using h) (fun z hz=>ha z (.tail _ hz)) fun z hz=>hb z (.tail _ hz)
  have hx:=ha x (.head _)
  have hy:=hb y (.head _)
  simp only [je,List.length_cons]
  have h1:x.natAbs*y.natAbs<=w*w:=Nat.mul_le_mul (z192 hx.1 hx.2) (z192 hy.1 hy.2)
  rw [<-Int.natAbs_mul] at h1
  have h1:=nabs h1
  lia
theorem JN:∀(w z:List Int),(∀x∈z,x=0)->dot w z=0:=by
 intro w
 induction w with
 | nil=>intro z _;rfl
 | cons a w ih=>
  intro z h
  cases z with
  | nil=>rfl
  | cons b z=>simp only [je,ih z fun x hx=>h x (.tail _ hx),h b (.head _)];simp
theorem yx {a b:Int}(ha:0<=a)(hb:1<=b):a<=b*a:=by
 have:=Int.mul_le_mul_of_nonneg_right hb ha
 exact z494 this
theorem jD {a b c d:Int}(h1:a<=c)(h2:b<=d)(ha:0<=a)(hd:0<=d):a*b<=c*d:=
 Int.le_trans (Int.mul_le_mul_of_nonneg_left h2 ha) (Int.mul_le_mul_of_nonneg_right h1 hd)
theorem wf {E:List (List Int)}{once:Bool}(hE:∀e∈E,e.length=2){p q r:Int}(hp:dot (col E 2 0) (col E 2 0)=p)(hq:dot (col E 2 0) (col E 2 1)= -q)(hr:dot (col E 2 1) (col E 2 1)=r)(h0:0<q){R:List (List Int)}{v:List Int}(x:Reach E 2 once R v):
  p*v.getD 0 0-q*v.getD 1 0<=p/\r*v.getD 1 0-q*v.getD 0 0<=r:=by
 have hq':dot (col E 2 1) (col E 2 0)= -q:=by exact (jR ..).trans (hq)
 have hp0:0<=p:=hp▸jn _
 have hr0:0<=r:=hr▸jn _
 have key:∀{v},Row 2 v->dot (wor E v) (col E 2 0)=p*v.getD 0 0-q*v.getD 1 0/\dot (wor E v) (col E 2 1)=r*v.getD 1 0-q*v.getD 0 0:=by
  intro v rv
  simp only [j1w hE rv]
  simp only [jm,yi]
  simp only [hp,hq,hq',hr]
  refine ⟨?_,?_⟩
  ·simp only [Int.mul_neg,Int.mul_comm p,Int.mul_comm q];exact z495
  ·simp only [Int.mul_neg,Int.mul_comm r,Int.mul_comm q];exact z496
 refine (x.inv (P:=fun v=>p*v.getD 0 0-q*v.getD 1 0<=p/\r*v.getD 1 0-q*v.getD 0 0<=r) (fun j hj=> ?_) fun R v j y hv ne hj hd _=> ?_).1
 ·have:j=0\/j=1:=z252 hj
  rcases this with rfl| rfl
  ·rw [jr 2 0 0 (by decide),jr 2 0 1 (by decide)];simp;exact z497 h0 hr0
  ·rw [jr 2 1 0 (by decide),jr 2 1 1 (by decide)];simp;exact z497 h0 hp0
 ·have hl:v.length=(jj 2 (j:Nat)).length:=by exact (y.row.len ..).trans (jx ..).symm
  rw [JI hl,JI hl]
  refine And.elim (fun k1 k2=> ?_) (key y.row)
  have:j=0\/j=1:=z252 hj
  rcases this with rfl| rfl
  ·rw [k1] at hd
   rw [jr 2 0 0 (by decide),jr 2 0 1 (by decide)]
   lia
  ·rw [k2] at hd
   rw [jr 2 1 0 (by decide),jr 2 1 1 (by decide)]
   lia
theorem Yp {E:List (List Int)}{once:Bool}(hE:∀e∈E,e.length=2)(hm:E.length<=3)(hw:∀e∈E,∀x∈e,-20<=x/\x<=20):∀R v,Alive E 2 once R v->v.getD 0 0<=2880000/\v.getD 1 0<=2880000:=by
 intro R v x
 have hc:∀i j,i<2->j<2->-1200<=dot (col E 2 i) (col E 2 j)/\dot (col E 2 i) (col E 2 j)<=1200:=fun i j hi hj=>by
  have h1:=Wb (w:=20) (a:=col E 2 i) (b:=col E 2 j) (by exact (Jj ..).trans (Jj ..).symm) (JY hE hi hw) (JY hE hj hw)
  rw [Jj] at h1
  exact z498 h1.1 h1.2 hm
 have hP:=hc 0 0 (by decide) (by decide)
 have hQ:=hc 0 1 (by decide) (by decide)
 have hR:=hc 1 1 (by decide) (by decide)
 have hp0:=jn (col E 2 0)
 have hr0:=jn (col E 2 1)
 obtain ⟨p,ep⟩:∃p,dot (col E 2 0) (col E 2 0)=p:=⟨_,rfl⟩
 obtain ⟨q,eq⟩:∃q,dot (col E 2 0) (col E 2 1)= -q:=⟨-dot (col E 2 0) (col E 2 1),by simp⟩
 obtain ⟨r,er⟩:∃r,dot (col E 2 1) (col E 2 1)=r:=⟨_,rfl⟩
 rw [ep] at hP hp0;rw [eq] at hQ;rw [er] at hR hr0
 have rv:=x.reach.row
 by_cases h0:0<q
 ·obtain ⟨k1,k2⟩:=wf hE ep eq er h0 x.reach
  have hx:=rv.pos 0
  have hy:=rv.pos 1
  have hs0:=jH rv 0
  obtain ⟨X,eX⟩:∃X,v.getD 0 0=X:=⟨_,rfl⟩
  obtain ⟨Y,eY⟩:∃Y,v.getD 1 0=Y:=⟨_,rfl⟩
  rw [eX,eY] at k1 k2
  rw [eX] at hx⊢
  rw [eY] at hy⊢
  have hr1:1<=r:=by
   by_cases q1:1<=r
   ·exact q1
   ·have:=JN (col E 2 0) (col E 2 1) (jK (by rw [er];exact z273 q1));exact (z274 h0 eq this).elim
  have hp1:1<=p:=by
   by_cases q1:1<=p
   ·exact q1
   ·have:=JN (col E 2 1) (col E 2 0) (jK (by rw [ep];exact z273 q1));rw [jR] at this;exact (z274 h0 eq this).elim
  by_cases hD:1<=p*r-q*q
  ·have a1:(p*r-q*q)*X=r*(p*X-q*Y)+q*(r*Y-q*X):=by grind
   have a2:(p*r-q*q)*Y=q*(p*X-q*Y)+p*(r*Y-q*X):=by grind
   have b1:=Int.mul_le_mul_of_nonneg_left k1 hr0
   have b2:=Int.mul_le_mul_of_nonneg_left k2 (show 0<=q by exact z275 h0)
   have b3:=Int.mul_le_mul_of_nonneg_left k1 (show 0<=q by exact z275 h0)
   have b4:=Int.mul_le_mul_of_nonneg_left k2 hp0
   have c1:=yx hx hD
   have c2:=yx hy hD
   have d1:=jD (show r<=1200 by exact hR.2) (show p<=1200 by exact hP.2) hr0 (by decide)
   have d2:=jD (show q<=1200 by exact z499 hQ.1) (show r<=1200 by exact hR.2) (z275 h0) (by decide)
   have d3:=jD (show q<=1200 by exact z499 hQ.1) (show p<=1200 by exact hP.2) (z275 h0) (by decide)
   have d4:=jD (show p<=1200 by exact hP.2) (show r<=1200 by exact hR.2) hp0 (by decide)
   exact z500 a2 a1 d4 d2 d3 d1 c2 b4 b3 b2 b1 c1
  ·have ru:Row 2 [q,p]:=.of rfl fun z hz=>by
    simp at hz;rcases hz with rfl| rfl<;>lia
   have eu:Even E [q,p]:=by
    refine jK ?_
    have h1:∀w,dot w (wor E [q,p])=q*dot w (col E 2 0)+p*dot w (col E 2 1):=fun w=>by
     rw [Ua hE (d:=[q,p]) rfl]
     simp only [jm,yi]
     simp
     rfl
    rw [h1,jR _ (col E 2 0),jR _ (col E 2 1),h1,h1,ep,er,eq,jR (col E 2 1),eq]
    have:q*(q*p+p* -q)+p*(q* -q+p*r)=p*(p*r-q*q):=by grind
    rw [this]
    exact Int.mul_nonpos_of_nonneg_of_nonpos hp0 (z273 hD)
   have hb:=x.bare [q,p] ru eu (by simp;exact z501 hp1 h0)
   by_cases hX:X<q
   ·have b1:=jD (show q<=1200 by exact z499 hQ.1) (show X<=1200 by exact z502 hQ.1 hX) (z275 h0) (by decide)
    have c2:=yx hy hr1
    exact z503 hQ.1 k2 hX hR.2 b1 c2
   ·by_cases hY:Y<p
    ·have b1:=Int.mul_le_mul_of_nonneg_left (show Y<=p by exact z275 hY) (show 0<=q by exact z275 h0)
     have b2:p*X<=p*(1+q):=by rw [Int.mul_add,Int.mul_one,Int.mul_comm p q];exact z504 k1 b1
     have:=Int.le_of_mul_le_mul_left b2 (z283 hp1)
     exact z505 hQ.1 hY this hP.2
    ·have:=hb fun i=>by
      match i with
      | 0=>rw [eX];simp;exact z21 hX
      | 1=>rw [eY];simp;exact z21 hY
      | i+2=>have:=rv.pos (i+2);simpa using this
     rw [<-this] at eX eY
     simp at eX eY
     exact z506 hQ.1 eX eY hP.2
 ·have h:=UH (fun i hi j hj=>by
   have:i=0\/i=1:=z252 hi
   have:j=0\/j=1:=z252 hj
   rcases ‹i=0\/i=1› with rfl| rfl<;>rcases ‹j=0\/j=1› with rfl| rfl
   ·rw [ep];exact hp0
   ·rw [eq];exact z61 h0
   ·rw [jR,eq];exact z61 h0
   ·rw [er];exact hr0) R v x
  have h1:=x.reach.len
  rw [h] at h1
  have:=jH rv 0
  have:=jH rv 1
  simp at h1
  exact z507 h1 this ‹_›
theorem Fits.size2 {E:List (List Int)}{once:Bool}(hE:∀e∈E,e.length=2)(hm:E.length<=3)(hw:∀e∈E,∀x∈e,-20<=x/\x<=20):Fits E 2 once:=
 Fits.of (bs:=[2880001]) (K:=5760000) hE rfl (fun R v x=>by
  have h:=Yp hE hm hw R v x
  have hs:=x.reach.row.sum
  simp only [jm,yi] at hs
  exact z508 hs h.2 h.1) (fun R v x i hi=>by
  have h:=Yp hE hm hw R v x
  simp at hi;subst hi
  simp at h⊢
  exact z509 h.2) (by decide)
theorem Row.three {v:List Int}(r:Row 3 v):∃x y z,v=[x,y,z]/\0<=x/\0<=y/\0<=z:=by
 obtain ⟨x,y,z,rfl⟩:=ln3 (r.len)
 exact ⟨x,y,z,rfl,by exact r.pos 0,by exact r.pos 1,by exact r.pos 2⟩
theorem Yq {x:Int}(h: -2<=x/\x<=2):x= -2\/x= -1\/x=0\/x=1\/x=2:=z510 h.1 h.2
theorem j0i {a w:Int}(h: -w<=a/\a<=w):a*a<=w*w:=by
 have h1:0<=(w-a)*(w+a):=Int.mul_nonneg (z13 h.2) (z511 h.1)
 lia
theorem sq3 {x:Int}(h: -2<=x/\x<=2):x*x<=1\/x=2\/x= -2:=by
 rcases Yq h with rfl| rfl| rfl| rfl| rfl<;>decide
theorem grow2 {a b c x y z:Int}(ha: -2<=a/\a<=2)(hb: -2<=b/\b<=2)(hc: -2<=c/\c<=2)(h:x*a+(y*b+(z*c+0))<0):2*(x*a+(y*b+(z*c+0)))+(a*a+(b*b+(c*c+0)))<=8:=by
 have qa:=j0i ha
 have qb:=j0i hb
 have qc:=j0i hc
 rcases sq3 ha with h1| h1
 ·exact z512 h h1 qc qb
 rcases sq3 hb with h2| h2
 ·exact z513 h h2 qc qa
 rcases sq3 hc with h3| h3
 ·exact z514 h h3 qb qa
 clear qa qb qc ha hb hc
 rcases h1 with rfl| rfl<;>rcases h2 with rfl| rfl<;>rcases h3 with rfl| rfl<;>lia
theorem dotL3:∀{w c:List Int},w.length=c.length->c.length<=3->dot w c=w.getD 0 0*c.getD 0 0+(w.getD 1 0*c.getD 1 0+(w.getD 2 0*c.getD 2 0+0))
 | [],[],_,_=>rfl
 | [x],[a],_,_=>rfl
 | [x,y],[a,b],_,_=>rfl
 | [x,y,z],[a,b,c],_,_=>rfl
 | [],_::_,h,_=>by contradiction
 | _::_,[],h,_=>by contradiction
 | [_],_::_::_,h,_=>by nomatch h
 | _::_::_,[_],h,_=>by nomatch h
 | [_,_],_::_::_::_,h,_=>by nomatch h
 | _::_::_::_,[_,_],h,_=>by nomatch h
 | _,_::_::_::_::_,_,h=>absurd h (by simp)
 | _::_::_::_::_,[_,_,_],h,_=>by nomatch h
theorem Wc {w c:List Int}(hl:w.length=c.length)(h3:c.length<=3)(hc:∀x∈c,-2<=x/\x<=2)(h:dot w c<0):2*dot w c+dot c c<=8:=by
 have b:=fun i=>by
  by_cases q:i<c.length
  ·exact hc _ (jX q)
  ·rw [List.getD_eq_getElem?_getD,List.getElem?_eq_none (z12 q)];decide
 rw [dotL3 hl h3] at h⊢
 simp only [dotL3 rfl h3]
 exact grow2 (b 0) (b 1) (b 2) h
theorem j0j {w c:List Int}(hl:w.length=c.length):dot (addR w c) (addR w c)=dot w w+(2*dot w c+dot c c):=by
 simp only [jR (addR w c) w,jR (addR w c) c,yO hl,jR c w];exact z523
theorem wg {E:List (List Int)}{n:Nat}{once:Bool}(hE:∀e∈E,e.length=n)(hm:E.length<=3)(hw:∀e∈E,∀x∈e,-2<=x/\x<=2){R:List (List Int)}{v:List Int}(x:Reach E n once R v):dot (wor E v) (wor E v)<=8*v.sum+4:=by
 refine (x.inv (P:=fun v=>dot (wor E v) (wor E v)<=8*v.sum+4) (fun p hp=> ?_) fun R v p y hv ne hp hd _=> ?_).1
 ·have h1:=Wb (w:=2) (a:=col E n p) (b:=col E n p) rfl (JY hE hp hw) (JY hE hp hw)
  rw [Jj] at h1
  rw [yP hp]
  lia
 ·have hl:(wor E v).length=(col E n p).length:=by exact (ue ..).trans (Jj ..).symm
  simp only [UG y.row,j0j hl,Jd y.row hp]
  have:=Wc hl (by rw [Jj];exact hm) (JY hE hp hw) hd
  exact z524 this hv
structure Three (E:List (List Int))(w:Int)(a1 b1 c1 a2 b2 c2 a3 b3 c3:Int):Prop where
 norm:∀x y z,dot (wor E [x,y,z]) (wor E [x,y,z])=(a1*x+b1*y+c1*z)*(a1*x+b1*y+c1*z)+(a2*x+b2*y+c2*z)*(a2*x+b2*y+c2*z)+(a3*x+b3*y+c3*z)*(a3*x+b3*y+c3*z)
 mem:∀e∈E,e=[a1,b1,c1]\/e=[a2,b2,c2]\/e=[a3,b3,c3]
 s1:(-w<=a1/\a1<=w)/\(-w<=b1/\b1<=w)/\(-w<=c1/\c1<=w)
 s2:(-w<=a2/\a2<=w)/\(-w<=b2/\b2<=w)/\(-w<=c2/\c2<=w)
 s3:(-w<=a3/\a3<=w)/\(-w<=b3/\b3<=w)/\(-w<=c3/\c3<=w)
theorem sq_pad {v:List Int}:∀{E:List (List Int)},E.length<=3->dot (wor E v) (wor E v)=dot (E.getD 0 []) v*dot (E.getD 0 []) v+dot (E.getD 1 []) v*dot (E.getD 1 []) v+dot (E.getD 2 []) v*dot (E.getD 2 []) v
 | [],_=>rfl
 | [e],_=>(je (dot e v) (dot e v) [] []).trans (Int.add_zero _).symm
 | [e,f],_=>by
  show dot [dot e v,dot f v] [dot e v,dot f v]=dot e v*dot e v+dot f v*dot f v+0*0
  simp only [je,je,jU];simp
 | [e,f,g],_=>by
  show dot [dot e v,dot f v,dot g v] [dot e v,dot f v,dot g v]=dot e v*dot e v+dot f v*dot f v+dot g v*dot g v
  simp only [je,je,je,jU];exact z525
 | _::_::_::_::_,h=>absurd h (by simp)
theorem dot3 {x y z:Int}:∀{e:List Int},e.length=3\/e=[]->dot e [x,y,z]=e.getD 0 0*x+e.getD 1 0*y+e.getD 2 0*z
 | [],_=>by simp [dot]
 | [a,b,c],_=>by
  show a*x+(b*y+(c*z+0))=a*x+b*y+c*z
  exact z525
 | [_],h=>(h.elim (fun h=>by cases h) fun h=>by contradiction)
 | [_,_],h=>(h.elim (fun h=>by cases h) fun h=>by contradiction)
 | _::_::_::_::_,h=>(h.elim (fun h=>by simp at h) fun h=>by contradiction)
theorem Wd {e:List Int}(h:e.length=3):e=[e.getD 0 0,e.getD 1 0,e.getD 2 0]:=by
 obtain ⟨a,b,c,rfl⟩:=ln3 h
 rfl
theorem j0k {E:List (List Int)}{w:Int}(hw0:0<=w)(hE:∀e∈E,e.length=3)(hm:E.length<=3)(hw:∀e∈E,∀x∈e,-w<=x/\x<=w):∃a1 b1 c1 a2 b2 c2 a3 b3 c3,Three E w a1 b1 c1 a2 b2 c2 a3 b3 c3:=by
 have g:∀k,E.getD k []∈E\/E.getD k []=[]:=fun k=>by
  by_cases q:k<E.length
  ·exact .inl (by rw [List.getD_eq_getElem?_getD,List.getElem?_eq_getElem q];exact List.getElem_mem q)
  ·exact .inr (by rw [List.getD_eq_getElem?_getD,List.getElem?_eq_none (z12 q)];rfl)
 have l3:=fun k=>(g k).imp (hE _) id
 have b:∀k i,-w<=(E.getD k []).getD i 0/\(E.getD k []).getD i 0<=w:=fun k i=>by
  have z: -w<=(0:Int)/\(0:Int)<=w:=⟨z526 hw0,hw0⟩
  rcases g k with h| h
  ·by_cases q:i<(E.getD k []).length
   ·exact hw _ h _ (jX q)
   ·rw [List.getD_eq_getElem?_getD,List.getElem?_eq_none (z12 q)];exact z
  ·rw [h];trivial
 refine ⟨_,_,_,_,_,_,_,_,_,⟨fun x y z=>by simp only [sq_pad hm,dot3 (l3 0),dot3 (l3 1),dot3 (l3 2)],fun e he=> ?_,⟨b 0 0,b 0 1,b 0 2⟩,⟨b 1 0,b 1 1,b 1 2⟩,⟨b 2 0,b 2 1,b 2 2⟩⟩⟩
 obtain ⟨k,hk,ek⟩:=List.mem_iff_getElem.mp he
 have e1:E.getD k []=e:=by rw [List.getD_eq_getElem?_getD,List.getElem?_eq_getElem hk,ek];rfl
 have e2:=Wd (hE e he)
 rw [<-e1] at e2⊢
 have:k=0\/k=1\/k=2:=z359 hk hm
 rcases this with rfl| rfl| rfl
 ·exact .inl e2
 ·exact .inr (.inl e2)
 ·exact .inr (.inr e2)
theorem Three.even {E:List (List Int)}{w a1 b1 c1 a2 b2 c2 a3 b3 c3:Int}(T:Three E w a1 b1 c1 a2 b2 c2 a3 b3 c3){x y z:Int}(h1:a1*x+b1*y+c1*z=0)(h2:a2*x+b2*y+c2*z=0)(h3:a3*x+b3*y+c3*z=0):Even E [x,y,z]:=
 jK (by rw [T.norm,h1,h2,h3];decide)
theorem cs3 (a b c x y z:Int):(a*x+b*y+c*z)*(a*x+b*y+c*z)<=(a*a+b*b+c*c)*(x*x+y*y+z*z):=by
 have h1:=ji (a*y-b*x)
 have h2:=ji (a*z-c*x)
 have h3:=ji (b*z-c*y)
 lia
theorem j0l {a b c x y z:Int}:(b*z-c*y)*(b*z-c*y)+(c*x-a*z)*(c*x-a*z)+(a*y-b*x)*(a*y-b*x)<=(a*a+b*b+c*c)*(x*x+y*y+z*z):=by
 have h1:=ji (a*x+b*y+c*z)
 lia
theorem sq_pos {a:Int}(h:a≠0):1<=a*a:=by
 have h1:=ji a
 have:a*a≠0:=fun e=>by rcases Int.mul_eq_zero.mp e with h2| h2<;>exact h h2
 exact z527 h1 this
theorem j0m {a b:Int}(hb:0<=b)(h:a*a<b*b):a<b:=by
 by_cases q:a<b
 ·exact q
 ·have:=jD (show b<=a by exact z21 q) (show b<=a by exact z21 q) hb (z528 hb q);exact (z22 h this).elim
theorem We {D x w1 w2 w3 y1 y2 y3 N M:Int}(hD:D≠0)(e:D*x=w1*y1+w2*y2+w3*y3)(hN:w1*w1+w2*w2+w3*w3=N)(hM:y1*y1+y2*y2+y3*y3<=M):x*x<=N*M:=by
 have h1:=cs3 w1 w2 w3 y1 y2 y3
 rw [<-e,hN] at h1
 have hN0:0<=N:=by have:=ji w1;have:=ji w2;have:=ji w3;exact z529 ‹_› ‹_› this hN
 have h2:=Int.mul_le_mul_of_nonneg_left hM hN0
 have h3:=Int.mul_le_mul_of_nonneg_right (sq_pos hD) (ji x)
 lia
theorem Wf {E:List (List Int)}{once:Bool}{a1 b1 c1 a2 b2 c2 a3 b3 c3:Int}(T:Three E 2 a1 b1 c1 a2 b2 c2 a3 b3 c3)(hN:∀R v,Reach E 3 once R v->dot (wor E v) (wor E v)<=8*v.sum+4)
  (hD:a1*(b2*c3-c2*b3)-b1*(a2*c3-c2*a3)+c1*(a2*b3-b2*a3)≠0):∀R v,Alive E 3 once R v->∀i,v.getD i 0<3500:=by
 intro R v al
 obtain ⟨x,y,z,rfl,hx,hy,hz⟩:=al.reach.row.three
 have h:=hN R _ al.reach
 rw [T.norm] at h
 simp only [List.sum_cons,List.sum_nil] at h
 obtain ⟨N,eN⟩:∃N,(a1*x+b1*y+c1*z)*(a1*x+b1*y+c1*z)+(a2*x+b2*y+c2*z)*(a2*x+b2*y+c2*z)+(a3*x+b3*y+c3*z)*(a3*x+b3*y+c3*z)=N:=⟨_,rfl⟩
 simp only [eN] at h
 obtain ⟨⟨A1,B1,C1⟩,⟨A2,B2,C2⟩,⟨A3,B3,C3⟩⟩:_/\_/\_:=⟨T.s1,T.s2,T.s3⟩
 have q:∀{a:Int},-2<=a/\a<=2->a*a<=4:=fun h=>j0i h
 have na:a1*a1+a2*a2+a3*a3<=12:=by have:=q A1;have:=q A2;have:=q A3;exact z299 this ‹_› ‹_›
 have nb:b1*b1+b2*b2+b3*b3<=12:=by have:=q B1;have:=q B2;have:=q B3;exact z299 this ‹_› ‹_›
 have nc:c1*c1+c2*c2+c3*c3<=12:=by have:=q C1;have:=q C2;have:=q C3;exact z299 this ‹_› ‹_›
 have pr:∀{a b c x y z:Int},a*a+b*b+c*c<=12->x*x+y*y+z*z<=12->(b*z-c*y)*(b*z-c*y)+(c*x-a*z)*(c*x-a*z)+(a*y-b*x)*(a*y-b*x)<=144:=fun {a b c x y z} h1 h2=>
  Int.le_trans j0l (jD h1 h2 ((fun a b c=>by have:=ji a;have:=ji b;have:=ji c;exact z296 this ‹_› ‹_›:∀a b c:Int,0<=a*a+b*b+c*c) _ _ _) (by decide))
 have kx:=We (x:=x) (M:=144) hD (w1:=a1*x+b1*y+c1*z) (w2:=a2*x+b2*y+c2*z) (w3:=a3*x+b3*y+c3*z) (y1:=b2*c3-b3*c2) (y2:=b3*c1-b1*c3) (y3:=b1*c2-b2*c1) (by grind) eN (pr nb nc)
 have ky:=We (x:=y) (M:=144) hD (w1:=a1*x+b1*y+c1*z) (w2:=a2*x+b2*y+c2*z) (w3:=a3*x+b3*y+c3*z) (y1:=c2*a3-c3*a2) (y2:=c3*a1-c1*a3) (y3:=c1*a2-c2*a1) (by grind) eN (pr nc na)
 have kz:=We (x:=z) (M:=144) hD (w1:=a1*x+b1*y+c1*z) (w2:=a2*x+b2*y+c2*z) (w3:=a3*x+b3*y+c3*z) (y1:=a2*b3-a3*b2) (y2:=a3*b1-a1*b3) (y3:=a1*b2-a2*b1) (by grind) eN (pr na nb)
 have hk:x+(y+(z+0))<=10368:=by
  apply Classical.byContradiction
  intro hk
  obtain ⟨k,ek⟩:∃k,x+(y+(z+0))=k:=⟨_,rfl⟩
  have h1:(x+(y+(z+0)))*(x+(y+(z+0)))<=3*(x*x+y*y+z*z):=by
   have:=ji (x-y);have:=ji (x-z);have:=ji (y-z)
   lia
  rw [ek] at h1
  have h2:=Int.mul_le_mul_of_nonneg_right (show 10369<=k by exact z530 ek hk) (show 0<=k by exact z531 ek hk)
  exact z532 h2 ek h1 h ky kz kx hk
 have f:∀{t:Int},t*t<=N*144->t<3500:=fun {t} ht=>j0m (by decide) (z533 hk h ht)
 intro i
 match i with
 | 0=>exact f kx
 | 1=>exact f ky
 | 2=>exact f kz
 | i+3=>simp
theorem Jf {a b:Int}(ha:1<=a)(hb:0<=b):b<=b*a:=by
 have:=Int.mul_le_mul_of_nonneg_left ha hb;exact z534 this
theorem opp {vi vj ui uj B:Int}(hi:0<=vi)(hj:0<=vj)(h1:1<=ui)(h2:uj<=-1)(h: -B<=vi*uj-vj*ui/\vi*uj-vj*ui<=B):vi+vj<=B:=by
 have b:=Jf (show 1<=-uj by exact z535 h2) hi
 rw [Int.mul_neg] at b
 exact z536 h.1 b (Jf h1 hj)
theorem uX {vi vl ui ul B c:Int}(hi:0<=vi)(hc:vi<=c)(hl:0<=vl)(hu:1<=ui\/ui<=-1)(h8: -8<=ul/\ul<=8)(h: -B<=vi*ul-vl*ui/\vi*ul-vl*ui<=B):vl<=B+8*c:=by
 have p:vi*ul<=8*c:=by
  have:=jD hc h8.2 hi (by decide);exact z537 this
 have n: -(8*c)<=vi*ul:=by
  have:=jD hc (show-ul<=8 by exact z538 h8.1) hi (by decide);rw [Int.mul_neg] at this;exact z539 this
 rcases hu with hu| hu
 ·have:=Jf hu hl;exact z540 h.1 this p
 ·have:=Jf (show 1<=-ui by exact z535 hu) hl;rw [Int.mul_neg] at this;exact z541 n h.2 this
theorem uY {x y z u1 u2 u3 B:Int}(hx:0<=x)(hy:0<=y)(hz:0<=z)(hB:0<=B)(p1:0<=u1/\u1<=8)(p2:0<=u2/\u2<=8)(p3:0<=u3/\u3<=8)
  (h12: -B<=x*u2-y*u1/\x*u2-y*u1<=B) (h23: -B<=y*u3-z*u2/\y*u3-z*u2<=B) (h31: -B<=z*u1-x*u3/\z*u1-x*u3<=B) (hal:u1<=x->u2<=y->u3<=z->x=u1/\y=u2/\z=u3):x<=B+56/\y<=B+56/\z<=B+56:=by
 by_cases q1:u1<=x
 ·by_cases q2:u2<=y
  ·by_cases q3:u3<=z
   ·have:=hal q1 q2 q3;exact z542 hB this.1 this.2.1 this.2.2 p3.2 p2.2 p1.2
   ·have a:=uX (vi:=z) (vl:=x) (ui:=u3) (ul:=u1) (B:=B) (c:=7) hz (z543 p3.2 q3) hx (.inl (z544 hz q3)) (z545 p1.1 p1.2) h31
    have b:=uX (vi:=z) (vl:=y) (ui:=u3) (ul:=u2) (B:=B) (c:=7) hz (z543 p3.2 q3) hy (.inl (z544 hz q3)) (z545 p2.1 p2.2) (z421 h23.1 h23.2)
    exact z546 h12.1 p3.2 h12.2 b a q3
  ·have a:=uX (vi:=y) (vl:=x) (ui:=u2) (ul:=u1) (B:=B) (c:=7) hy (z543 p2.2 q2) hx (.inl (z544 hy q2)) (z545 p1.1 p1.2) (z421 h12.1 h12.2)
   have b:=uX (vi:=y) (vl:=z) (ui:=u2) (ul:=u3) (B:=B) (c:=7) hy (z543 p2.2 q2) hz (.inl (z544 hy q2)) (z545 p3.1 p3.2) h23
   exact z547 hB p2.2 b a q2
 ·have b:=uX (vi:=x) (vl:=z) (ui:=u1) (ul:=u3) (B:=B) (c:=7) hx (z543 p1.2 q1) hz (.inl (z544 hx q1)) (z545 p3.1 p3.2) (z421 h31.1 h31.2)
  exact z548 hB p1.2 b (uX (vi:=x) (vl:=y) (ui:=u1) (ul:=u2) (B:=B) (c:=7) hx (z543 p1.2 q1) hy (.inl (z544 hx q1)) (z545 p2.1 p2.2) h12) q1
theorem JO {vi vj vl ui uj ul B T:Int}(eB:B=2*T)(hi:0<=vi)(hj:0<=vj)(hl:0<=vl)(h1:1<=ui)(h2:uj<=-1)(h8: -8<=ul/\ul<=8)(hij: -B<=vi*uj-vj*ui/\vi*uj-vj*ui<=B)(hil: -B<=vi*ul-vl*ui/\vi*ul-vl*ui<=B)(hjl: -B<=vj*ul-vl*uj/\vj*ul-vl*uj<=B):vi+vj<=2*T/\vl<=10*T:=by
 have h:=opp hi hj h1 h2 hij
 refine ⟨z549 eB h,?_⟩
 by_cases q:vi<=T
 ·have:=uX hi q hl (.inl h1) h8 hil;exact z550 eB this
 ·have:=uX (c:=T) hj (z551 h eB q) hl (.inr h2) h8 hjl;exact z550 eB this
theorem Wg {x y z u1 u2 u3 T:Int}(hx:0<=x)(hy:0<=y)(hz:0<=z)(hT:0<=T)(p1: -8<=u1/\u1<=8)(p2: -8<=u2/\u2<=8)(p3: -8<=u3/\u3<=8)
  (h12: -(2*T)<=x*u2-y*u1/\x*u2-y*u1<=2*T) (h23: -(2*T)<=y*u3-z*u2/\y*u3-z*u2<=2*T) (h31: -(2*T)<=z*u1-x*u3/\z*u1-x*u3<=2*T)
  (hal:0<=u1->0<=u2->0<=u3->u1<=x->u2<=y->u3<=z->x=u1/\y=u2/\z=u3) (hal2:0<=-u1->0<=-u2->0<=-u3->-u1<=x->-u2<=y->-u3<=z->x= -u1/\y= -u2/\z= -u3):
  x<=10*T+56/\y<=10*T+56/\z<=10*T+56/\x+y+z<=12*T+168:=by
 by_cases s1:1<=u1/\u2<=-1
 ·have:=JO (vl:=z) (ul:=u3) rfl hx hy hz s1.1 s1.2 p3 h12 (z421 h31.1 h31.2) h23;exact z552 hy hx this.1 this.2
 by_cases s2:1<=u2/\u1<=-1
 ·have:=JO (vl:=z) (ul:=u3) rfl hy hx hz s2.1 s2.2 p3 (z421 h12.1 h12.2) h23 (z421 h31.1 h31.2);exact z553 hy hx this.1 this.2
 by_cases s3:1<=u1/\u3<=-1
 ·have:=JO (vl:=y) (ul:=u2) rfl hx hz hy s3.1 s3.2 p2 (z421 h31.1 h31.2) h12 (z421 h23.1 h23.2);exact z554 hz hx this.1 this.2
 by_cases s4:1<=u3/\u1<=-1
 ·have:=JO (vl:=y) (ul:=u2) rfl hz hx hy s4.1 s4.2 p2 h31 (z421 h23.1 h23.2) h12;exact z555 hz hx this.1 this.2
 by_cases s5:1<=u2/\u3<=-1
 ·have:=JO (vl:=x) (ul:=u1) rfl hy hz hx s5.1 s5.2 p1 h23 (z421 h12.1 h12.2) h31;exact z556 hz hy this.1 this.2
 by_cases s6:1<=u3/\u2<=-1
 ·have:=JO (vl:=x) (ul:=u1) rfl hz hy hx s6.1 s6.2 p1 (z421 h23.1 h23.2) h31 (z421 h12.1 h12.2);exact z557 hz hy this.1 this.2
 by_cases t:0<=u1/\0<=u2/\0<=u3
 ·have:=uY hx hy hz (z558 hT) ⟨t.1,p1.2⟩ ⟨t.2.1,p2.2⟩ ⟨t.2.2,p3.2⟩ h12 h23 h31 (hal t.1 t.2.1 t.2.2);exact z559 hT this.1 this.2.1 this.2.2
 ·have:=uY (u1:= -u1) (u2:= -u2) (u3:= -u3) (B:=2*T) hx hy hz (z558 hT) (z560 p1.1 t s3 s1) (z561 p2.1 t s5 s2) (by lia) (by rw [Int.mul_neg,Int.mul_neg];lia) (by rw [Int.mul_neg,Int.mul_neg];lia) (by lia) (hal2 (by lia) (by lia) (by lia));lia
theorem mulb {a b:Int}(ha: -2<=a/\a<=2)(hb: -2<=b/\b<=2): -4<=a*b/\a*b<=4:=by
 rcases Yq ha with rfl| rfl| rfl| rfl| rfl<;>lia
theorem yz {a b c d:Int}(ha: -2<=a/\a<=2)(hb: -2<=b/\b<=2)(hc: -2<=c/\c<=2)(hd: -2<=d/\d<=2): -8<=a*b-c*d/\a*b-c*d<=8:=by
 have:=mulb ha hb
 have:=mulb hc hd
 lia
theorem mulw {c w:Int}(hc: -2<=c/\c<=2): -(2*(w.natAbs:Int))<=c*w/\c*w<=2*(w.natAbs:Int):=by
 rcases Yq hc with rfl| rfl| rfl| rfl| rfl<;>lia
theorem Uh {c d w w':Int}(hc: -2<=c/\c<=2)(hd: -2<=d/\d<=2): -(2*((w.natAbs+w'.natAbs:Nat):Int))<=c*w'-d*w/\c*w'-d*w<=2*((w.natAbs+w'.natAbs:Nat):Int):=by
 have:=mulw (w:=w') hc
 have:=mulw (w:=w) hd
 simp only [Int.natCast_add]
 lia
theorem wh {a b c a' b' c' x y z N:Int}(hx:0<=x)(hy:0<=y)(hz:0<=z)(A: -2<=a/\a<=2)(B: -2<=b/\b<=2)(C: -2<=c/\c<=2)(A': -2<=a'/\a'<=2)(B': -2<=b'/\b'<=2)(C': -2<=c'/\c'<=2)
  (hN:(a*x+b*y+c*z)*(a*x+b*y+c*z)+(a'*x+b'*y+c'*z)*(a'*x+b'*y+c'*z)<=N) (h8:N<=8*(x+y+z)+4)
  (hal:∀u1 u2 u3,(u1=b*c'-c*b'/\u2=c*a'-a*c'/\u3=a*b'-b*a')\/(u1= -(b*c'-c*b')/\u2= -(c*a'-a*c')/\u3= -(a*b'-b*a'))->0<=u1->0<=u2->0<=u3->u1<=x->u2<=y->u3<=z->x=u1/\y=u2/\z=u3):
  x<3500/\y<3500/\z<3500:=by
 obtain ⟨w,ew⟩:∃w,a*x+b*y+c*z=w:=⟨_,rfl⟩
 obtain ⟨w',ew'⟩:∃w,a'*x+b'*y+c'*z=w:=⟨_,rfl⟩
 rw [ew,ew'] at hN
 have j1:=Uh (w:=w) (w':=w') C C'
 have j2:=Uh (w:=w) (w':=w') A A'
 have j3:=Uh (w:=w) (w':=w') B B'
 obtain ⟨T,eT⟩:∃T:Int,((w.natAbs+w'.natAbs:Nat):Int)=T:=⟨_,rfl⟩
 rw [eT] at j1 j2 j3
 have hT:0<=T:=by exact eT▸z289
 have k:=Wg hx hy hz hT (yz B C' C B') (yz C A' A C') (yz A B' B A') (by rw [(by rw [<-ew,<-ew'];grind:x*(c*a'-a*c')-y*(b*c'-c*b')=c*w'-c'*w)];exact j1) (by rw [(by rw [<-ew,<-ew'];grind:y*(a*b'-b*a')-z*(c*a'-a*c')=a*w'-a'*w)];exact j2) (by rw [(by rw [<-ew,<-ew'];grind:z*(b*c'-c*b')-x*(a*b'-b*a')=b*w'-b'*w)];exact j3) (hal _ _ _ (.inl ⟨rfl,rfl,rfl⟩)) (hal _ _ _ (.inr ⟨rfl,rfl,rfl⟩))
 have hTT:T*T<=2*N:=by
  have:=ji ((w.natAbs:Int)-(w'.natAbs:Int))
  exact z291 this (by rw [(z290 eT)];grind:2*((w.natAbs:Int)*(w.natAbs:Int))+2*((w'.natAbs:Int)*(w'.natAbs:Int))-T*T=((w.natAbs:Int)-(w'.natAbs:Int))*((w.natAbs:Int)-(w'.natAbs:Int))) hN (by exact (Int.natCast_mul ..).symm.trans (Int.natAbs_mul_self ..)) (by rw [<-Int.natCast_mul,Int.natAbs_mul_self])
 have hT2:T<=205:=by
  apply Classical.byContradiction
  intro q
  have:=Int.mul_le_mul_of_nonneg_right (show 206<=T by exact z572 q) hT
  exact z573 this k.2.2.2 hTT h8 q
 exact z574 k.2.2.1 k.1 k.2.1 hT2
noncomputable abbrev Par (e f:List Int):Prop:=∀i j,e.getD i 0*f.getD j 0=e.getD j 0*f.getD i 0
theorem Wh {E:List (List Int)}{n:Nat}{e:List Int}{i:Nat}(hE:∀f∈E,f.length=n)(he:e.length=n)(hi:e.getD i 0=1\/e.getD i 0= -1)(hp:∀f∈E,Par e f):∃as:List Int,E=as.map fun a=>e.map (a*·):=by
 refine ⟨E.map fun f=>f.getD i 0*e.getD i 0,?_⟩
 rw [List.map_map]
 symm
 refine (List.map_congr_left (g:=id) fun f hf=> ?_).trans (List.map_id _)
 refine YW (by simp [he,hE f hf]) fun j hj=> ?_
 simp only [Function.comp_def,List.length_map] at hj⊢
 have hp1:=hp f hf i j
 have e1:(e.map (f.getD i 0*e.getD i 0*·)).getD j 0=f.getD i 0*e.getD i 0*e.getD j 0:=by
  simp [hj]
 simp only [e1]
 show _=f.getD j 0
 rcases hi with h| h
 ·rw [h] at hp1⊢
  rw [Int.mul_one,Int.mul_comm];exact z575 hp1
 ·rw [h] at hp1⊢
  simp only [Int.mul_neg,Int.mul_one,Int.mul_comm];exact z576 hp1
theorem ur {e:List Int}(i:Nat):(e.map (· /2)).getD i 0=e.getD i 0/2:=by
 simp only [List.getElem?_map,List.getD_eq_getElem?_getD]
 cases e[i]? <;>rfl
theorem Fits.parallel {E:List (List Int)}{n:Nat}{once:Bool}(hE:∀f∈E,f.length=n)(hn:0<n)(hn2:n<=8)(hw:∀e∈E,∀x∈e,-2<=x/\x<=2)(hp:∀e∈E,∀f∈E,Par e f):Fits E n once:=by
 have fit:∀(as e:List Int),e.length=n->(∀x∈e,-2<=x/\x<=2)->Fits (as.map fun a=>e.map (a*·)) n once:=fun as e he hx=>
  Fits.line (w:=2) he hn hx (Nat.le_trans (Nat.pow_le_pow_right (by decide) (show n-1<=7 by exact z577 hn2)) (by decide))
 by_cases h1:∃e∈E,∃i,e.getD i 0=1\/e.getD i 0= -1
 ·obtain ⟨e,he,i,hi⟩:=h1
  obtain ⟨as,h⟩:=Wh hE (hE e he) hi (hp e he)
  rw [h];exact fit as e (hE e he) (hw e he)
 ·have ev:∀e∈E,∀i,e.getD i 0= -2\/e.getD i 0=0\/e.getD i 0=2:=fun e he i=>by
   have h2:=fun q=>h1 ⟨e,he,i,q⟩
   have h3: -2<=e.getD i 0/\e.getD i 0<=2:=by
    by_cases q:i<e.length
    ·exact hw e he _ (jX q)
    ·rw [List.getD_eq_getElem?_getD,List.getElem?_eq_none (z12 q)];decide
   exact z326 h3.1 h3.2 h2
  by_cases h2:∃e∈E,∃i,e.getD i 0=2\/e.getD i 0= -2
  ·obtain ⟨e,he,i,hi⟩:=h2
   have hl:(e.map (· /2)).length=n:=by exact (List.length_map ..).trans (hE e he)
   obtain ⟨as,h⟩:=Wh (e:=e.map (· /2)) (i:=i) hE hl (by rw [ur];exact z327 hi) fun f hf a b=>by
    have h3:=hp e he f hf a b
    simp only [ur,ur]
    have ha:=ev e he a
    have hb:=ev e he b
    rcases ha with ha| ha| ha<;>rcases hb with hb| hb| hb<;>rw [ha,hb] at h3⊢<;>lia
   rw [h]
   refine fit as _ hl fun x hx=> ?_
   obtain ⟨y,hy,rfl⟩:=List.mem_map.mp hx
   have:=hw e he y hy
   exact z337 this.1 this.2
  ·have z:E=(E.map fun _=>(0:Int)).map fun a=>(List.replicate n (0:Int)).map (a*·):=by
    rw [List.map_map]
    symm
    refine (List.map_congr_left (g:=id) fun f hf=> ?_).trans (List.map_id _)
    refine YW (by simp [hE f hf]) fun j hj=> ?_
    have:f.getD j 0=0:=by
     have:=ev f hf j
     have h3:¬(f.getD j 0=2\/f.getD j 0= -2):=fun q=>h2 ⟨f,hf,j,q⟩
     exact z339 this h3
    show _=f.getD j 0
    rw [this]
    simp [List.getD_eq_getElem?_getD,List.getElem?_replicate]
    split<;>rfl
   rw [z]
   exact fit _ _ (by simp) fun x hx=>by
    have:=(List.mem_replicate.mp hx).2;exact z338 this
theorem par3 {a b c a' b' c':Int}(h1:b*c'-c*b'=0)(h2:c*a'-a*c'=0)(h3:a*b'-b*a'=0):Par [a,b,c] [a',b',c']:=by
 intro i j
 have g:∀(a b c:Int) (k:Nat),[a,b,c].getD k 0=if k=0 then a else if k=1 then b else if k=2 then c else 0:=fun a b c k=>by
  match k with
  | 0=>rfl
  | 1=>rfl
  | 2=>rfl
  | k+3=>rfl
 simp only [g,g,g,g]
 by_cases i0:i=0<;>by_cases i1:i=1<;>by_cases i2:i=2<;>by_cases j0:j=0<;>by_cases j1:j=1<;>by_cases j2:j=2<;>simp [i0,i1,i2,j0,j1,j2]<;>omega
theorem Par.refl (e:List Int):Par e e:=fun i j=>Int.mul_comm _ _
theorem Par.symm {e f:List Int}(h:Par e f):Par f e:=fun i j=>by simp only [Int.mul_comm];exact (h j i).symm▸rfl
theorem Fits.size3 {E:List (List Int)}{once:Bool}(hE:∀e∈E,e.length=3)(hm:E.length<=3)(hw:∀e∈E,∀x∈e,-2<=x/\x<=2):Fits E 3 once:=by
 obtain ⟨a1,b1,c1,a2,b2,c2,a3,b3,c3,T⟩:=j0k (w:=2) (by decide) hE hm hw
 have hN:∀R v,Reach E 3 once R v->dot (wor E v) (wor E v)<=8*v.sum+4:=fun R v x=>wg hE hm hw x
 have fin:(∀R v,Alive E 3 once R v->∀i,v.getD i 0<3500)->Fits E 3 once:=fun h=>
  Fits.of (bs:=[3500,3500]) (K:=12288) hE rfl (fun R v x=>by
   have hs:=x.reach.row.sum
   simp only [jm,yi] at hs
   have:=h R v x 0;have:=h R v x 1;have:=h R v x 2
   exact z581 ‹_› ‹_› this hs) (fun R v x i hi=>by
   have:=h R v x (i+1)
   match i,hi with
   | 0,_=>trivial
   | 1,_=>simpa using this) (by decide)
 by_cases hD:a1*(b2*c3-c2*b3)-b1*(a2*c3-c2*a3)+c1*(a2*b3-b2*a3)≠0
 ·exact fin (Wf T hN hD)
 have hD:a1*(b2*c3-c2*b3)-b1*(a2*c3-c2*a3)+c1*(a2*b3-b2*a3)=0:=Classical.byContradiction hD
 obtain ⟨⟨A1,B1,C1⟩,⟨A2,B2,C2⟩,⟨A3,B3,C3⟩⟩:_/\_/\_:=⟨T.s1,T.s2,T.s3⟩
 have bnd:∀{a b c a' b' c':Int},(-2<=a/\a<=2)->(-2<=b/\b<=2)->(-2<=c/\c<=2)->(-2<=a'/\a'<=2)->(-2<=b'/\b'<=2)->(-2<=c'/\c'<=2)->
   (∀x y z,(a*x+b*y+c*z)*(a*x+b*y+c*z)+(a'*x+b'*y+c'*z)*(a'*x+b'*y+c'*z)<=dot (wor E [x,y,z]) (wor E [x,y,z]))->
   Even E [b*c'-c*b',c*a'-a*c',a*b'-b*a']->(b*c'-c*b'≠0\/c*a'-a*c'≠0\/a*b'-b*a'≠0)->Fits E 3 once:=by
  intro a b c a' b' c' A B C A' B' C' hn hev hne
  refine fin fun R v x=> ?_
  obtain ⟨X,Y,Z,rfl,hx,hy,hz⟩:=x.reach.row.three
  have h8:=hN R _ x.reach
  simp only [List.sum_cons,List.sum_nil] at h8
  have hev2:Even E [-(b*c'-c*b'),-(c*a'-a*c'),-(a*b'-b*a')]:=fun t ht=>by
   obtain ⟨f,hf,rfl⟩:=List.mem_map.mp ht
   have h1:=Even.iff.mp hev f hf
   have hl:=hE f hf
   match f,hl with
   | [p,q,r],_=>
    simp [dot] at h1⊢
    rw [Int.mul_neg,Int.mul_neg,Int.mul_neg];exact z582 h1
  have:=wh hx hy hz A B C A' B' C' (hn X Y Z) (z583 h8) fun u1 u2 u3 hu p1 p2 p3 l1 l2 l3=>by
   have heu:Even E [u1,u2,u3]:=by
    rcases hu with ⟨rfl,rfl,rfl⟩| ⟨rfl,rfl,rfl⟩
    ·exact hev
    ·exact hev2
   have h:=x.bare [u1,u2,u3] (.of rfl fun t ht=>by
    simp at ht;rcases ht with rfl| rfl| rfl<;>assumption) heu (by
    simp only [List.sum_cons,List.sum_nil]
    rcases hu with ⟨e1,e2,e3⟩| ⟨e1,e2,e3⟩<;>lia) fun i=>by
     match i with
     | 0=>simpa using l1
     | 1=>simpa using l2
     | 2=>simpa using l3
     | i+3=>simp
   simp at h
   exact z364 h.2.2 h.1 h.2.1
  intro i
  match i with
  | 0=>simpa using this.1
  | 1=>simpa using this.2.1
  | 2=>simpa using this.2.2
  | i+3=>simp
 have sq:=ji
 by_cases h12:b1*c2-c1*b2≠0\/c1*a2-a1*c2≠0\/a1*b2-b1*a2≠0
 ·exact bnd A1 B1 C1 A2 B2 C2 (fun x y z=>by rw [T.norm];have:=sq (a3*x+b3*y+c3*z);exact z115 this) (T.even (by grind) (by grind) (by grind)) h12
 by_cases h13:b1*c3-c1*b3≠0\/c1*a3-a1*c3≠0\/a1*b3-b1*a3≠0
 ·exact bnd A1 B1 C1 A3 B3 C3 (fun x y z=>by rw [T.norm];have:=sq (a2*x+b2*y+c2*z);exact z365 this) (T.even (by grind) (by grind) (by grind)) h13
 by_cases h23:b2*c3-c2*b3≠0\/c2*a3-a2*c3≠0\/a2*b3-b2*a3≠0
 ·exact bnd A2 B2 C2 A3 B3 C3 (fun x y z=>by rw [T.norm];have:=sq (a1*x+b1*y+c1*z);exact z366 this) (T.even (by grind) (by grind) (by grind)) h23
 have q12:Par [a1,b1,c1] [a2,b2,c2]:=par3 (z367 h12) (z368 h12) (z369 h12)
 have q13:Par [a1,b1,c1] [a3,b3,c3]:=par3 (z367 h13) (z368 h13) (z369 h13)
 have q23:Par [a2,b2,c2] [a3,b3,c3]:=par3 (z367 h23) (z368 h23) (z369 h23)
 refine Fits.parallel hE (by decide) (by decide) hw fun e he f hf=> ?_
 rcases T.mem e he with rfl| rfl| rfl<;>rcases T.mem f hf with rfl| rfl| rfl
 ·exact .refl _
 ·exact q12
 ·exact q13
 ·exact q12.symm
 ·exact .refl _
 ·exact q23
 ·exact q13.symm
 ·exact q23.symm
 ·exact .refl _
noncomputable def jW (n m:Nat):Int:=if n<3 then 20 else if n=3 then (if m<2 then 5 else 2) else (if m<2 then 2 else 1)
theorem Fits.base {E:List (List Int)}{n:Nat}{once:Bool}(h1:1<=n)(h5:n<=5)(hE:∀e∈E,e.length=n)(hm:E.length<=3)(hw:∀e∈E,∀x∈e,-jW n E.length<=x/\x<=jW n E.length):Fits E n once:=by
 have hone:∀w:Nat,E.length<2->(∀e∈E,∀x∈e,-(w:Int)<=x/\x<=w)->(2*w+3)^(n-1)<=16000000->w<=20->Fits E n once:=fun w hl hx hk hk2=>by
  match E,hl with
  | [],_=>exact Fits.none h1 (z473 h5)
  | [e],_=>exact Fits.one (hE e (.head _)) h1 (hx e (.head _)) hk hk2
 have:n=1\/n=2\/n=3\/n=4\/n=5:=z586 h1 h5
 rcases this with rfl| rfl| rfl| rfl| rfl
 ·exact Fits.size1 hE
 ·exact Fits.size2 hE hm hw
 ·by_cases hl:E.length<2
  ·exact hone 5 hl (by simpa [jW,hl] using hw) (by decide) (by decide)
  ·exact Fits.size3 hE hm (by simpa [jW,hl] using hw)
 ·by_cases hl:E.length<2
  ·exact hone 2 hl (by simpa [jW,hl] using hw) (by decide) (by decide)
  ·exact Fits.ones hE hm (by simpa [jW,hl] using hw) h1 h5
 ·by_cases hl:E.length<2
  ·exact hone 2 hl (by simpa [jW,hl] using hw) (by decide) (by decide)
  ·exact Fits.ones hE hm (by simpa [jW,hl] using hw) h1 h5
noncomputable def comb:List Int->List (Nat->Int)->Nat->Int
 | a::as,v::vs,i=>a*v i+comb as vs i
 | _,_,_=>0
noncomputable def Dep (vs:List (Nat->Int)):Prop:=∃as:List Int,as.length=vs.length/\(∃a∈as,a≠0)/\∀i,comb as vs i=0
noncomputable def Dm (V:(Nat->Int)->Prop)(k:Nat):Prop:=∀vs:List (Nat->Int),vs.length=k+1->(∀v∈vs,V v)->Dep vs
theorem Dep.cons {vs:List (Nat->Int)}(v:Nat->Int)(h:Dep vs):Dep (v::vs):=by
 obtain ⟨as,h1,⟨a,ha,h2⟩,h3⟩:=h
 exact ⟨0::as,congrArg (· +1) h1,⟨a,.tail _ ha,h2⟩,fun i=>by simp only [comb,h3,Int.zero_mul];rfl⟩
theorem Wi {us vs:List (Nat->Int)}(h:us.Perm vs):∀as:List Int,as.length=us.length->∃bs:List Int,bs.length=vs.length/\(∀x∈as,x∈bs)/\∀i,comb bs vs i=comb as us i:=by
 induction h with
 | nil=>exact fun as h=>⟨as,h,fun _ h=>h,fun _=>rfl⟩
 | cons x _ ih=>
  intro as h
  cases as with
  | nil=>contradiction
  | cons a as=>
   obtain ⟨bs,h1,h2,h3⟩:=ih as (Nat.succ.inj h)
   refine ⟨a::bs,congrArg (· +1) h1,fun x hx=> ?_,fun i=>by simp only [comb,comb,h3]⟩
   rcases List.mem_cons.mp hx with h| h
   ·exact h▸.head _
   ·exact .tail _ (h2 x h)
 | swap x y l=>
  intro as h
  rcases as with _| ⟨a,_| ⟨b,as⟩⟩
  ·contradiction
  ·nomatch h
  ·refine ⟨b::a::as,h,fun x hx=>by simp only [List.mem_cons] at hx⊢;rcases hx with h| h| h<;>simp [h],fun i=> ?_⟩
   simp only [comb];exact z51
 | trans _ _ ih1 ih2=>
  intro as h
  obtain ⟨bs,h1,h2,h3⟩:=ih1 as h
  obtain ⟨cs,h4,h5,h6⟩:=ih2 bs h1
  exact ⟨cs,h4,fun x hx=>h5 x (h2 x hx),fun i=>(h6 i).trans (h3 i)⟩
theorem Dep.perm {us vs:List (Nat->Int)}(h:us.Perm vs)(d:Dep us):Dep vs:=by
 obtain ⟨as,h1,⟨a,ha,h2⟩,h3⟩:=d
 obtain ⟨bs,h4,h5,h6⟩:=Wi h as h1
 exact ⟨bs,h4,⟨a,h5 a ha,h2⟩,fun i=>(h6 i).trans (h3 i)⟩
theorem YK (c:Int)(i:Nat):∀(as:List Int) (vs:List (Nat->Int)),comb (as.map (c*·)) vs i=c*comb as vs i
 | [],_=>by simp [comb]
 | _::_,[]=>by simp [comb]
 | a::as,v::vs=>by simp only [List.map_cons,comb,comb,YK c i as vs,Int.mul_add,Int.mul_assoc]
theorem uZ (c:Int)(p:Nat->Int)(n i:Nat):∀(as:List Int) (vs:List (Nat->Int)),comb as (vs.map fun v i=>c*v i-v n*p i) i=c*comb as vs i-comb as vs n*p i
 | [],_=>by simp [comb]
 | _::_,[]=>by simp [comb]
 | a::as,v::vs=>by simp only [List.map_cons,comb,comb,comb,uZ c p n i as vs];grind
theorem Dm.all:∀n,Dm (fun v=>∀i,n<=i->v i=0) n
 | 0,[v],_,h=>⟨[1],rfl,⟨1,.head _,by decide⟩,fun i=>by simp only [comb,h v (.head _) i (Nat.zero_le _)];rfl⟩
 | n+1,vs,hl,h=>by
  by_cases q:∃p∈vs,p n≠0
  ·obtain ⟨p,hp,hn⟩:=q
   obtain ⟨l1,l2,rfl⟩:=List.append_of_mem hp
   refine Dep.perm List.perm_middle.symm ?_
   have hm:∀v∈l1++l2,v∈l1++p::l2:=fun v hv=>(List.perm_middle.mem_iff).mpr (.tail _ hv)
   have hl':=Nat.succ.inj ((List.perm_middle (a:=p) (l₁:=l1) (l₂:=l2)).length_eq.symm.trans hl)
   generalize l1++l2=us at hm hl'
   obtain ⟨as,h1,⟨a,ha,h2⟩,h3⟩:=Dm.all n (us.map fun v i=>p n*v i-v n*p i) (by exact (List.length_map ..).trans (hl' ..)) fun w hw=>by
    obtain ⟨v,hv,rfl⟩:=List.mem_map.mp hw
    intro i hi
    by_cases e:i=n
    ·subst e;show p i*v i-v i*p i=0;rw [Int.mul_comm];simp
    ·show p n*v i-v n*p i=0
     simp only [(h v (hm v hv)) i (z52 hi e),h p hp i (z52 hi e)];simp
   refine ⟨-(comb as us n)::as.map (p n*·),by rw [List.length_cons,List.length_map,h1,List.length_map];rfl,⟨p n*a,.tail _ (List.mem_map.mpr ⟨a,ha,rfl⟩),Int.mul_ne_zero hn h2⟩,fun i=> ?_⟩
   have:=h3 i
   rw [uZ] at this
   simp only [comb,YK,Int.neg_mul];exact z53 this
  ·match vs,hl with
   | v::vs,hl=>
    refine Dep.cons v (Dm.all n vs (Nat.succ.inj hl) fun w hw i hi=> ?_)
    by_cases e:i=n
    ·subst e;exact Classical.byContradiction fun z=>q ⟨w,.tail _ hw,z⟩
    ·exact h w (.tail _ hw) i (z52 hi e)
structure Ln (f:(Nat->Int)->Int):Prop where
 add:∀a v w,f (fun i=>a*v i+w i)=a*f v+f w
 zero:f (fun _=>0)=0
theorem Ln.comb {f:(Nat->Int)->Int}(L:Ln f):∀(as:List Int) (vs:List (Nat->Int)),(∀v∈vs,f v=0)->f (Mine.comb as vs)=0
 | [],_,_=>L.zero
 | _::_,[],_=>L.zero
 | a::as,v::vs,h=>by
  have:=L.add a v (Mine.comb as vs)
  simp only [h v (.head _),L.comb as vs fun w hw=>h w (.tail _ hw),Int.mul_zero] at this
  exact this
theorem Dm.cut {V:(Nat->Int)->Prop}{k:Nat}{f:(Nat->Int)->Int}(D:Dm V (k+1))(L:Ln f){d:Nat->Int}(hd:V d)(hf:f d≠0):Dm (fun v=>V v/\f v=0) k:=fun vs hl hv=>by
 obtain ⟨as,h1,⟨b,hb,h2⟩,h3⟩:=D (d::vs) (congrArg (· +1) hl) fun v h=>by
  rcases List.mem_cons.mp h with h| h
  ·exact h▸hd
  ·exact (hv v h).1
 cases as with
 | nil=>contradiction
 | cons a as=>
  have h4:=L.add a d (Mine.comb as vs)
  simp only [L.comb as vs fun v h=>(hv v h).2,show (fun i=>a*d i+Mine.comb as vs i)=fun _=>0 from funext h3,L.zero,Int.add_zero] at h4
  have ha:a=0:=(Int.mul_eq_zero.mp h4.symm).resolve_right hf
  subst ha
  refine ⟨as,Nat.succ.inj h1,⟨b,(List.mem_cons.mp hb).resolve_left h2,h2⟩,fun i=> ?_⟩
  have:=h3 i
  simp only [Mine.comb,Int.zero_mul,Int.zero_add] at this
  exact this
theorem Dm.nil {V:(Nat->Int)->Prop}(D:Dm V 0){v:Nat->Int}(h:V v)(i:Nat):v i=0:=by
 obtain ⟨as,h1,⟨b,hb,h2⟩,h3⟩:=D [v] rfl fun w hw=>(List.mem_singleton.mp hw)▸h
 obtain ⟨a,rfl⟩:=List.length_eq_one_iff.mp h1
 ·have:a*v i+0=0:=h3 i
  rw [Int.add_zero] at this
  exact (Int.mul_eq_zero.mp this).resolve_left (List.mem_singleton.mp hb▸h2)
noncomputable def ev (n:Nat)(e:List Int)(v:Nat->Int):Int:=sumN n fun i=>e.getD i 0*v i
theorem j1x (n:Nat)(e:List Int):Ln (ev n e) where
 add:=fun a v w=>by
  unfold ev
  rw [<-YY,<-yj]
  exact jo fun i _=>by rw [Int.mul_add,<-Int.mul_assoc,<-Int.mul_assoc,Int.mul_comm a]
 zero:=(jo fun i _=>Int.mul_zero _).trans (ju n)
noncomputable def Ker (n:Nat)(F:List (List Int))(v:Nat->Int):Prop:=(∀i,n<=i->v i=0)/\∀f∈F,ev n f v=0
theorem basis (n:Nat):∀E:List (List Int),∃(F:List (List Int)) (k:Nat),F.Sublist E/\F.length+k=n/\Dm (Ker n F) k/\∀v,Ker n F v->Ker n E v
 | []=>⟨[],n,.slnil,by simp,fun vs hl h=>Dm.all n vs hl fun v hv=>(h v hv).1,fun _ h=>h⟩
 | e::E=>by
  obtain ⟨F,k,h1,h2,h3,h4⟩:=basis n E
  by_cases q:∃d,Ker n F d/\ev n e d≠0
  ·obtain ⟨d,hd,ne⟩:=q
   cases k with
   | zero=>exact absurd ((congrArg (ev n e) (funext (h3.nil hd))).trans (j1x n e).zero) ne
   | succ k=>
    refine ⟨e::F,k,h1.cons₂ e,by simp only [List.length_cons];exact z54 h2,fun vs hl h=>h3.cut (j1x n e) hd ne vs hl fun v hv=> ?_,fun v hv=> ?_⟩
    ·have:=h v hv
     exact ⟨⟨this.1,fun f hf=>this.2 f (.tail _ hf)⟩,this.2 e (.head _)⟩
    ·refine ⟨hv.1,fun f hf=> ?_⟩
     rcases List.mem_cons.mp hf with rfl| hf
     ·exact hv.2 _ (.head _)
     ·exact (h4 v ⟨hv.1,fun f hf=>hv.2 f (.tail _ hf)⟩).2 f hf
  ·refine ⟨F,k,h1.cons e,h2,h3,fun v hv=>⟨hv.1,fun f hf=> ?_⟩⟩
   rcases List.mem_cons.mp hf with rfl| hf
   ·exact Classical.byContradiction fun z=>q ⟨v,hv,z⟩
   ·exact (h4 v hv).2 f hf
section
variable {E:List (List Int)} {n:Nat} {x y:List Int}
theorem Row.beyond (r:Row n x){i:Nat}(h:n<=i):x.getD i 0=0:=by
 rw [List.getD_eq_getElem?_getD,List.getElem?_eq_none (by rw [r.len];exact h)];rfl
theorem Wj {e:List Int}(he:e.length=n)(r:Row n x):ev n e (fun i=>x.getD i 0)=dot e x:=by
 rw [Js (by exact (he ..).trans (r.len ..).symm),r.len];rfl
theorem Least.ker (hE:∀e∈E,e.length=n)(L:Least E n x):Ker n E fun i=>x.getD i 0:=
 ⟨fun i h=>L.row.beyond h,fun e he=>(Wj (hE e he) L.row).trans (Even.iff.mp L.even e he)⟩
theorem Ker.even (hE:∀e∈E,e.length=n)(r:Row n x)(h:Ker n E fun i=>x.getD i 0):Even E x:=
 Even.iff.mpr fun e he=>(Wj (hE e he) r).symm.trans (h.2 e he)
theorem Least.via {F:List (List Int)}(hE:∀e∈E,e.length=n)(hs:F.Sublist E)(hk:∀v,Ker n F v->Ker n E v)(L:Least E n x):Least F n x where
 row:=L.row
 even:=Even.iff.mpr fun e he=>Even.iff.mp L.even e (hs.subset he)
 pos:=L.pos
 least:=fun g rg eg pg lg=>L.least g rg (Ker.even hE rg (hk _ ⟨fun i h=>rg.beyond h,fun e he=>(Wj (hE e (hs.subset he)) rg).trans (Even.iff.mp eg e he)⟩)) pg lg
theorem Least.ne (L:Least E n x):∃i,x.getD i 0≠0:=Classical.byContradiction fun q=>by
 have h:=L.pos
 rw [L.row.sum,jo (g:=fun _=>0) fun i _=>Classical.byContradiction fun z=>q ⟨i,z⟩,ju] at h
 exact absurd h (by decide)
theorem Least.le (a:Least E n x)(b:Least E n y)(h:∀i,x.getD i 0<=y.getD i 0):x=y:=b.least x a.row a.even a.pos h
theorem Least.prop (a:Least E n x)(b:Least E n y){p q:Int}{u:Nat->Int}(hp:p≠0)(h:∀i,p*(x.getD i 0-y.getD i 0)=q*u i)(hu:∀i,0<=u i):x=y:=by
 have aux:∀{p q t u:Int},0<p->0<=q->0<=u->p*t=q*u->0<=t:=fun {p q t u} hp hq hu e=>by
  apply Classical.byContradiction
  intro z
  have h1:=Int.mul_neg_of_pos_of_neg hp (show t<0 by exact z15 z)
  have h2:=Int.mul_nonneg hq hu
  exact z55 h1 e h2
 have key:∀{p q:Int},0<p->(∀i,p*(x.getD i 0-y.getD i 0)=q*u i)->x=y:=fun {p q} hp h=>by
  by_cases hq:0<=q
  ·exact (b.le a fun i=>Int.sub_nonneg.mp (aux hp hq (hu i) (h i))).symm
  ·refine a.le b fun i=>Int.sub_nonneg.mp (aux hp (show 0<=-q by exact z56 hq) (hu i) ?_)
   simp only [Int.neg_mul,<-(h i),<-Int.mul_neg,Int.neg_sub]
 rcases Int.lt_or_gt_of_ne hp with z| z
 ·exact key (p:= -p) (q:= -q) (z57 z) fun i=>by simp only [Int.neg_mul,h]
 ·exact key z h
noncomputable def Pr (d u:Nat->Int):Prop:=∃p q:Int,p≠0/\∀i,p*d i=q*u i
theorem Dm.ray:∀(k:Nat) {V:(Nat->Int)->Prop} {u:Nat->Int} {Z:Nat->Prop},Dm V (k+1)->V u->(∃i,u i≠0)->(∀i,Z i->u i=0)->(∀d,V d->(∀i,Z i->d i=0)->Pr d u)->∃is:List Nat,is.length<=k/\∀d,V d->(∀i∈is,d i=0)->Pr d u
 | 0,V,u,Z,D,hu,hne,hz,hp=>⟨[],Nat.le_refl _,fun d hd _=>by
  obtain ⟨as,h1,⟨c,hc,h2⟩,h3⟩:=D [d,u] rfl fun v hv=>by
   rcases List.mem_cons.mp hv with rfl| hv
   ·exact hd
   ·exact List.mem_singleton.mp hv▸hu
  obtain ⟨p,q,rfl⟩:=ln2 h1
  ·have h3:∀i,p*d i+(q*u i+0)=0:=h3
   refine ⟨p,-q,fun z=> ?_,fun i=>by have:=h3 i;simp only [Int.neg_mul];exact z58 this⟩
   subst z
   obtain ⟨i,hi⟩:=hne
   have h4:=h3 i
   have hq:=(Int.mul_eq_zero.mp (show q*u i=0 by exact z59 h4)).resolve_right hi
   subst hq
   rcases List.mem_cons.mp hc with e| e
   ·exact h2 e
   ·exact h2 (List.mem_singleton.mp e)⟩
 | k+1,V,u,Z,D,hu,hne,hz,hp=>by
  by_cases q:∀d,V d->Pr d u
  ·exact ⟨[],Nat.zero_le _,fun d hd _=>q d hd⟩
  ·refine Exists.elim (Classical.not_forall.mp q) fun d hd=> ?_
   obtain ⟨hd,nd⟩:=Classical.not_imp.mp hd
   obtain ⟨i,hi⟩:=Classical.not_forall.mp fun z=>nd (hp d hd z)
   obtain ⟨zi,di⟩:=Classical.not_imp.mp hi
   obtain ⟨is,h1,h2⟩:=Dm.ray k (Z:=Z) (D.cut (f:=fun v=>v i) ⟨fun _ _ _=>rfl,rfl⟩ hd di) ⟨hu,hz i zi⟩ hne hz fun d hd h=>hp d hd.1 h
   exact ⟨i::is,Nat.succ_le_succ h1,fun d hd h=>h2 d ⟨hd,h i (.head _)⟩ fun j hj=>h j (.tail _ hj)⟩
theorem ratio {x y:Nat->Int}{i:Nat}(hi:0<y i):∀m,∃i,0<y i/\∀j,j<m->0<y j->x i*y j<=x j*y i
 | 0=>⟨i,hi,fun j hj=>absurd hj (Nat.not_lt_zero _)⟩
 | m+1=>by
  obtain ⟨k,hk,h⟩:=ratio (x:=x) hi m
  by_cases z:0<y m/\x m*y k<x k*y m
  ·refine ⟨m,z.1,fun j hj hp=> ?_⟩
   by_cases e:j=m
   ·subst e;exact Int.le_refl _
   ·have h2:=Int.mul_le_mul_of_nonneg_right (Int.le_of_lt z.2) (Int.le_of_lt hp)
    refine Int.le_of_mul_le_mul_right (a:=y k) ?_ hk
    rw [Int.mul_right_comm (x m),Int.mul_right_comm (x j)]
    rw [Int.mul_right_comm (x k)] at h2
    exact Int.le_trans h2 (Int.mul_le_mul_of_nonneg_right (h j (z6 hj e) hp) (Int.le_of_lt z.1))
  ·refine ⟨k,hk,fun j hj hp=> ?_⟩
   by_cases e:j=m
   ·subst e;exact Int.not_lt.mp fun q=>z ⟨hp,q⟩
   ·exact h j (z6 hj e) hp
theorem YL {α:Type}{P:α->Prop}(f:α->Nat):∀(k:Nat) {a:α},f a<=k->P a->∃a,P a/\∀b,P b->f a<=f b
 | 0,a,h,pa=>⟨a,pa,fun b _=>Nat.le_trans h (Nat.zero_le _)⟩
 | k+1,a,h,pa=>by
  by_cases q:∃b,P b/\f b<=k
  ·obtain ⟨b,pb,hb⟩:=q;exact YL f k hb pb
  ·exact ⟨a,pa,fun b pb=>Nat.le_trans h (Nat.lt_of_not_le fun z=>q ⟨b,pb,z⟩)⟩
theorem j0N {f:Nat->Int}(hE:∀e∈E,e.length=n)(k:Ker n E f)(hp:∀i,0<=f i):∃z,Row n z/\Even E z/\∀i,z.getD i 0=f i:=by
 have hg:∀i,((List.range n).map f).getD i 0=f i:=fun i=>by
  by_cases h:i<n
  ·simp [h]
  ·simp only [k.1 i (z12 h)];simp [h]
 have r:Row n ((List.range n).map f):=⟨by simp,fun i=>by rw [hg];exact hp i⟩
 exact ⟨_,r,Ker.even hE r (by rw [show (fun i=>((List.range n).map f).getD i 0)=f from funext hg];exact k),hg⟩
theorem j1y {e:List Int}{v w:Nat->Int}(h:ev n e v=0)(h':ev n e w=0)(p q:Int):ev n e (comb [p,q] [v,w])=0:=(j1x n e).comb _ _ fun z hz=>by
 rcases List.mem_cons.mp hz with rfl| hz
 ·exact h
 ·exact List.mem_singleton.mp hz▸h'
theorem Least.ray (hE:∀e∈E,e.length=n)(a:Least E n x):∃u,Least E n u/\∀d,Ker n E d->(∀i,u.getD i 0=0->d i=0)->Pr d fun i=>u.getD i 0:=by
 obtain ⟨u,lu,hu⟩:=YL (P:=Least E n) (fun s=>(sumN n fun i=>if s.getD i 0=0 then 0 else 1).toNat) _ (Nat.le_refl _) a
 have key:∀d,Ker n E d->(∀i,u.getD i 0=0->d i=0)->(∃j,0<d j)->Pr d fun i=>u.getD i 0:=by
  intro d kd hv ⟨j,hj⟩
  obtain ⟨i,hi,h⟩:=ratio (x:=fun i=>u.getD i 0) hj n
  have ui:u.getD i 0≠0:=fun z=>by rw [hv i z] at hi;exact absurd hi (by decide)
  have hz:∀j,comb [d i,-u.getD i 0] [fun i=>u.getD i 0,d] j=d i*u.getD j 0-u.getD i 0*d j:=fun j=>by
   show d i*u.getD j 0+(-u.getD i 0*d j+0)=_
   rw [Int.neg_mul];exact z60
  obtain ⟨z,rz,ez,gz⟩:=j0N (f:=comb [d i,-u.getD i 0] [fun i=>u.getD i 0,d]) hE ⟨fun j hj=>by
   simp only [hz,lu.row.beyond hj,kd.1 j hj];simp,fun e he=>j1y ((lu.ker hE).2 e he) (kd.2 e he) _ _⟩ fun j=>by
   rw [hz]
   by_cases q:0<d j
   ·by_cases hn:j<n
    ·have h1:=h j hn q
     rw [Int.mul_comm (d i)];exact z13 h1
    ·rw [kd.1 j (z12 hn)] at q;exact absurd q (by decide)
   ·have h1:=Int.mul_nonneg (Int.le_of_lt hi) (lu.row.pos j)
    have h2:=Int.mul_nonneg (lu.row.pos i) (show 0<=-d j by exact z61 q)
    rw [Int.mul_neg] at h2;exact z62 h2 h1
  by_cases pz:0<z.sum
  ·obtain ⟨s,ls,hs⟩:=Ju _ (Nat.le_refl _) rz ez pz
   exfalso
   have h0:s.getD i 0=0:=by
    have h1:=hs i
    simp only [gz,hz,Int.mul_comm (d i),Int.sub_self] at h1
    exact Int.le_antisymm h1 (ls.row.pos i)
   have m2:=jJ (n:=n) fun j _=>(fun j=>by
    by_cases q:j=i
    ·cases q;rw [if_pos h0,if_pos rfl,if_neg ui];exact (by decide:(0:Int)+1*1<=1)
    ·rw [if_neg q]
     by_cases q2:u.getD j 0=0
     ·rw [if_pos q2,if_pos ((fun j q=>by
    have h1:=hs j
    simp only [gz,hz,q,hv j q,Int.mul_zero] at h1
    exact Int.le_antisymm h1 (ls.row.pos j):∀j,u.getD j 0=0->s.getD j 0=0) j q2)];exact (by decide:(0:Int)+1*0<=0)
     ·rw [if_neg q2];split
      ·exact (by decide:(0:Int)+1*0<=1)
      ·exact (by decide:(1:Int)+1*0<=1):∀j,(if s.getD j 0=0 then (0:Int) else 1)+(fun _=>1) j*(if j=i then 1 else 0)<=if u.getD j 0=0 then 0 else 1) j
   simp only [yj,Jt (Nat.lt_of_not_le fun q=>ui (lu.row.beyond q))] at m2
   have m3:=hu s ls
   have m4:=jJ (n:=n) (f:=fun _=>0) (g:=fun j=>if s.getD j 0=0 then (0:Int) else 1) fun j _=>by split<;>decide
   simp only [ju] at m4
   exact z63 m4 m2 m3
  ·have h1:=fun j=>Int.le_antisymm (Int.le_trans (jH rz j) (z21 pz)) (rz.pos j)
   refine ⟨u.getD i 0,d i,ui,fun j=> ?_⟩
   have h2:=h1 j
   rw [gz,hz] at h2
   exact (Int.eq_of_sub_eq_zero h2).symm
 refine ⟨u,lu,fun d kd hv=> ?_⟩
 by_cases q:∃j,0<d j
 ·exact key d kd hv q
 ·by_cases q2:∃j,d j<0
  ·obtain ⟨j,hj⟩:=q2
   obtain ⟨p,r,hp,h⟩:=key (comb [-1,0] [d,d]) ⟨fun i hi=>by show-1*d i+(0*d i+0)=0;rw [kd.1 i hi];rfl,fun e he=>j1y (kd.2 e he) (kd.2 e he) _ _⟩ (fun i hi=>by show-1*d i+(0*d i+0)=0;rw [hv i hi];rfl) ⟨j,by show 0< -1*d j+(0*d j+0);exact z64 hj⟩
   refine ⟨p,-r,hp,fun i=> ?_⟩
   have h1:p*(-1*d i+(0*d i+0))=r*u.getD i 0:=h i
   simp only [show-1*d i+(0*d i+0)= -d i by simp,Int.mul_neg] at h1
   simp only [Int.neg_mul,<-h1,Int.neg_neg]
  ·refine ⟨1,0,by decide,fun i=> ?_⟩
   have:d i=0:=Int.le_antisymm (Int.not_lt.mp fun z=>q ⟨i,z⟩) (Int.not_lt.mp fun z=>q2 ⟨i,z⟩)
   simp only [this,Int.mul_zero,Int.zero_mul]
end
section
variable {E:List (List Int)} {n:Nat} {l:List (List Int)}
theorem UI (lo:Int)(b:Nat):∀m,(boxZ lo b m).length=b^m
 | 0=>rfl
 | m+1=>by
  simp only [boxZ,List.length_flatMap]
  simp only [List.length_map,UI lo b m,List.map_const',List.sum_replicate_nat,List.length_range]
  simp only [Nat.pow_succ,Nat.mul_comm]
theorem Dm.count {k B:Nat}(D:Dm (Ker n E) (k+1))(hE:∀e∈E,e.length=n)(nd:l.Nodup)(hl:∀s∈l,Least E n s)(hB:∀s∈l,∀i,s.getD i 0<=B):l.length<=(B+1)^k:=by
 match l,nd,hl,hB with
 | [],_,_,_=>exact Nat.zero_le _
 | x::l,nd,hl,hB=>
  obtain ⟨u,lu,hu⟩:=(hl x (.head _)).ray hE
  obtain ⟨is,h1,h2⟩:=D.ray k (Z:=fun i=>u.getD i 0=0) (lu.ker hE) lu.ne (fun _ h=>h) hu
  refine Nat.le_trans ?_ (Nat.pow_le_pow_right (Nat.succ_pos B) h1)
  rw [<-UI 0 (B+1) is.length,<-List.length_map (f:=fun s:List Int=>is.map fun i=>s.getD i 0)]
  refine jp ?_ fun v hv=> ?_
  ·rw [List.Nodup,List.pairwise_map]
   refine List.Pairwise.imp_of_mem (fun {a b} ha hb hab e=>hab ?_) nd
   have e:=List.map_inj_left.mp e
   have hc:∀i,comb [1,-1] [fun i=>a.getD i 0,fun i=>b.getD i 0] i=a.getD i 0-b.getD i 0:=fun i=>by
    show 1*a.getD i 0+(-1*b.getD i 0+0)=_
    exact z65
   obtain ⟨p,q,hp,h⟩:=h2 (comb [1,-1] [fun i=>a.getD i 0,fun i=>b.getD i 0]) ⟨fun j hj=>by
     rw [hc,(hl a ha).row.beyond hj,(hl b hb).row.beyond hj];rfl,fun e he=>j1y (((hl a ha).ker hE).2 e he) (((hl b hb).ker hE).2 e he) _ _⟩ fun i hi=>by rw [hc,e i hi,Int.sub_self]
   exact (hl a ha).prop (hl b hb) hp (fun i=>by exact (congrArg _ (hc ..).symm).trans (h i)) lu.row.pos
  ·obtain ⟨s,hs,rfl⟩:=List.mem_map.mp hv
   have:=yW (lo:=0) (b:=B+1) (v:=is.map fun i=>s.getD i 0) fun x hx=>by
    obtain ⟨i,_,rfl⟩:=List.mem_map.mp hx
    have:=hB s hs i
    have:=(hl s hs).row.pos i
    exact z66 this ‹_›
   rwa [List.length_map] at this
noncomputable def U0:Nat->Nat->List (List Int)
 | 0,_=>[[]]
 | n+1,s=>(List.range (s+1)).flatMap fun (i:Nat)=>(U0 n (s-i)).map fun r=>(i:Int)::r
theorem YM:∀{v:List Int} {s:Nat},(∀x∈v,0<=x)->v.sum<=s->v∈U0 v.length s
 | [],s,_,_=>by exact .head _
 | x::v,s,h,hs=>by
  have h0:=h x (.head _)
  have h1:=(Row.of (n:=v.length) rfl fun y hy=>h y (.tail _ hy)).sum_nonneg
  simp only [List.sum_cons] at hs
  rw [List.length_cons,U0,List.mem_flatMap]
  exact ⟨x.toNat,List.mem_range.mpr (z67 h1 hs),List.mem_map.mpr ⟨v,YM (fun y hy=>h y (.tail _ hy)) (by lia),by rw [Int.toNat_of_nonneg h0]⟩⟩
theorem wi (n:Nat)(h:n<=5):(U0 n 3).length<64:=by
 have:n∈List.range 6:=List.mem_range.mpr (z69 h)
 exact (show ∀n∈List.range 6,(U0 n 3).length<64 by decide+kernel) n this
theorem U1 (h5:n<=5)(nd:l.Nodup)(hl:∀s∈l,Least E n s)(hB:∀s∈l,s.sum<=3):l.length<64:=
 Nat.lt_of_le_of_lt (jp nd fun s hs=>by
  have:=YM (v:=s) (s:=3) (hl s hs).row.mem (hB s hs)
  rwa [(hl s hs).row.len] at this) (wi n h5)
end
theorem Jv {n:Nat}{f:Nat->Int}(h:0<sumN n f):∃i,i<n/\0<f i:=Classical.byContradiction fun q=>by
 have:=jJ (n:=n) (f:=f) (g:=fun _=>0) fun i hi=>Int.not_lt.mp fun z=>q ⟨i,hi,z⟩
 simp only [ju] at this
 exact absurd h (Int.not_lt.mpr this)
section
variable {α:Type} [DecidableEq α] {n:Nat} {c:Nat->α} {x:Nat->Int}
noncomputable def tot (n:Nat)(c:Nat->α)(x:Nat->Int)(t:α):Int:=sumN n fun i=>if c i=t then x i else 0
theorem YN (h:∀i,0<=x i)(t:α):0<=tot n c x t:=by
 exact (ju n)▸jJ fun i _=>by split;exact h i;exact Int.le_refl _
theorem pickT {t:α}:∀(k:Nat) {x:Nat->Int},(∀i,0<=x i)->(k:Int)<=tot n c x t->∃is:List Nat,is.map c=List.replicate k t/\(∀i∈is,i<n)/\∀j,(is.count j:Int)<=x j
 | 0,x,h,_=>⟨[],rfl,fun _ h=>(List.not_mem_nil h).elim,h⟩
 | k+1,x,h,hk=>by
  obtain ⟨i,hi,hp⟩:=Jv (show 0<tot n c x t by exact z70 hk)
  have hc:c i=t:=Classical.byContradiction fun z=>by rw [if_neg z] at hp;exact absurd hp (by decide)
  rw [if_pos hc] at hp
  have ht:tot n c (fun j=>x j+ -1*if j=i then 1 else 0) t=tot n c x t+ -1:=by
   have e1:=yj n (fun j=>if c j=t then x j else 0) (fun j=> -1*if j=i then 1 else 0)
   simp only [Jt hi (fun _=> -1)] at e1
   refine (jo fun j _=> ?_).trans e1
   show (if c j=t then x j+ -1*(if j=i then 1 else 0) else 0)=_
   by_cases q:j=i
   ·cases q;rw [if_pos hc,if_pos hc]
   ·rw [if_neg q,Int.mul_zero,Int.add_zero]
    exact (Int.add_zero _).symm
  obtain ⟨is,h1,h2,h3⟩:=pickT k (x:=fun j=>x j+ -1*if j=i then 1 else 0) (fun j=>by
   by_cases q:j=i
   ·subst q;lia
   ·rw [if_neg q];have:=h j;exact z71 this) (by rw [ht];exact z72 hk)
  refine ⟨i::is,by simp only [List.map_cons,h1,hc];rfl,fun j hj=> ?_,fun j=> ?_⟩
  ·rcases List.mem_cons.mp hj with rfl| hj
   ·exact hi
   ·exact h2 j hj
  ·have h4:=h3 j
   by_cases q:j=i
   ·subst q;rw [List.count_cons_self];lia
   ·rw [if_neg q] at h4;rw [List.count_cons_of_ne (fun e=>q e.symm)];exact z73 h4
noncomputable def U2 (ts:List (α × Nat)):List α:=ts.flatMap fun q=>List.replicate q.2 q.1
theorem Wk {ts:List (α × Nat)}{t:α}(h:t∈U2 ts):t∈ts.map (·.1):=by
 obtain ⟨q,hq,h⟩:=List.mem_flatMap.mp h
 exact List.mem_map.mpr ⟨q,hq,(List.eq_of_mem_replicate h).symm⟩
theorem j0O (h:∀i,0<=x i):∀ts:List (α × Nat),(ts.map (·.1)).Nodup->(∀q∈ts,(q.2:Int)<=tot n c x q.1)->∃is:List Nat,is.map c=U2 ts/\(∀i∈is,i<n)/\∀j,(is.count j:Int)<=x j
 | [],_,_=>⟨[],rfl,fun _ h=>(List.not_mem_nil h).elim,h⟩
 | q::ts,nd,hq=>by
  rw [List.map_cons,List.nodup_cons] at nd
  obtain ⟨is,a1,a2,a3⟩:=pickT q.2 h (hq q (.head _))
  obtain ⟨js,b1,b2,b3⟩:=j0O h ts nd.2 fun r hr=>hq r (.tail _ hr)
  refine ⟨is++js,by simp only [List.map_append,a1,b1];rfl,fun i hi=>(List.mem_append.mp hi).elim (a2 i) (b2 i),fun j=> ?_⟩
  rw [List.count_append]
  by_cases e:j∈is
  ·have:js.count j=0:=List.count_eq_zero.mpr fun e2=>nd.1 ((List.eq_of_mem_replicate (a1▸List.mem_map.mpr ⟨j,e,rfl⟩))▸Wk (b1▸List.mem_map.mpr ⟨j,e2,rfl⟩))
   exact this▸a3 j
  ·rw [List.count_eq_zero.mpr e,Nat.zero_add];exact b3 j
theorem Wl {w:α->Int}{y:Int}{a:α}:∀{all:List α},all.Nodup->a∈all->(all.map fun t=>w t*if a=t then y else 0).sum=w a*y
 | b::all,nd,h=>by
  rw [List.nodup_cons] at nd
  simp only [List.map_cons,List.sum_cons]
  by_cases e:a=b
  ·subst e
   have:∀l:List α,a∉l->(l.map fun t=>w t*if a=t then y else 0).sum=0:=by
    intro l
    induction l with
    | nil=>intro _;rfl
    | cons d l ih=>intro h;simp only [List.map_cons,List.sum_cons,ih fun q=>h (.tail _ q),if_neg (fun (q:a=d)=>h (q▸.head _)),Int.mul_zero];rfl
   rw [if_pos rfl,this all nd.1,Int.add_zero]
  ·rw [if_neg e,Int.mul_zero,Int.zero_add,Wl nd.2 ((List.mem_cons.mp h).resolve_left e)]
theorem Yr (f g:α->Int):∀l:List α,(l.map fun t=>f t+g t).sum=(l.map f).sum+(l.map g).sum
 | []=>rfl
 | a::l=>by simp only [List.map_cons,List.sum_cons,Yr f g l];exact z1
theorem Wm (w:α->Int){all:List α}(nd:all.Nodup):∀{n:Nat},(∀i,i<n->c i∈all)->sumN n (fun i=>w (c i)*x i)=(all.map fun t=>w t*tot n c x t).sum
 | 0,_=>by
  have:∀l:List α,0=(l.map fun t=>w t*0).sum:=by
   intro l
   induction l with
   | nil=>rfl
   | cons a l ih=>rw [List.map_cons,List.sum_cons,<-ih,Int.mul_zero];rfl
  exact this all
 | n+1,h=>by
  rw [jm,Wm w nd fun i hi=>h i (z0 hi),<-Wl (w:=w) (y:=x n) nd (h n (by simp)),<-Yr]
  refine congrArg List.sum (List.map_congr_left fun t _=> ?_)
  unfold tot
  simp only [jm,Int.mul_add]
end
theorem yA {n:Nat}(f:Nat->Int):∀{is:List Nat},(∀i∈is,i<n)->sumN n (fun j=>f j*(is.count j:Int))=(is.map f).sum
 | [],_=>by
  exact (jo fun i _=>by exact Int.mul_zero _).trans (ju n)
 | i::is,h=>by
  simp only [List.map_cons,List.sum_cons,<-yA f fun j hj=>h j (.tail _ hj),<-Jt (h i (.head _)) f,<-yj]
  refine jo fun j _=> ?_
  by_cases q:j=i
  ·subst q;rw [List.count_cons_self,if_pos rfl,<-Int.mul_add,Int.add_comm];rfl
  ·rw [List.count_cons_of_ne fun e=>q e.symm,if_neg q,Int.mul_zero,Int.zero_add]
theorem Least.hit {E:List (List Int)}{n:Nat}{x:List Int}(hE:∀e∈E,e.length=n)(L:Least E n x){is:List Nat}(ne:is≠[])(hi:∀i∈is,i<n)(hc:∀j,(is.count j:Int)<=x.getD j 0)(hz:∀e∈E,(is.map fun i=>e.getD i 0).sum=0):
  (∀j,x.getD j 0=is.count j)/\x.sum=is.length:=by
 obtain ⟨z,rz,ez,gz⟩:=j0N (f:=fun j=>(is.count j:Int)) hE ⟨fun j hj=>by
  have:is.count j=0:=List.count_eq_zero.mpr fun q=>by have:=hi j q;exact z74 this hj
  show ((is.count j:Nat):Int)=0
  rw [this];rfl,fun e he=>(yA _ hi).trans (hz e he)⟩ fun j=>Int.natCast_nonneg _
 have hs:z.sum=is.length:=by
  rw [rz.sum,jo (g:=fun j=>1*(is.count j:Int)) fun j _=>by exact (gz ..).trans (Int.one_mul ..).symm,yA (fun _=>1) hi]
  clear hi hc hz ez gz rz ne
  induction is with
  | nil=>rfl
  | cons a is ih=>simp only [List.map_cons,List.sum_cons,ih,List.length_cons];exact z75
 have e:=L.least z rz ez (by rw [hs];have:=List.length_pos_iff.mpr ne;exact z76 this) fun j=>by rw [gz];exact hc j
 subst e
 exact ⟨gz,hs⟩
theorem j0n {n:Nat}{x:List Int}(L:Least [] n x):x.sum<=3:=by
 have h:=L.pos
 rw [L.row.sum] at h
 obtain ⟨i,hi,hp⟩:=Jv h
 rw [((L.hit (by simp) (is:=[i]) (by simp) (fun j hj=>List.mem_singleton.mp hj▸hi) (fun j=>by
  by_cases q:i=j
  ·subst q;rw [List.count_cons_self];exact hp
  ·rw [List.count_cons_of_ne q];exact L.row.pos j) fun e he=>(List.not_mem_nil he).elim).2)];show (1:Int)<=3;decide
noncomputable def okT {α:Type} [DecidableEq α] (B m:Nat)(ws:List (α->Int))(ts:List (α × Nat)):Bool:=decide (ts.map (·.1)).Nodup&&(ws.all fun w=>decide (((U2 ts).map w).sum=0))&&((U2 ts).all fun t=>decide ((U2 ts).count t<=B))&&decide ((U2 ts).length<=m)&& !(U2 ts).isEmpty
noncomputable def Has {α:Type}(T:α->Int):List (α × Nat)->Prop
 | []=>True
 | q::ts=>(q.2:Int)<=T q.1/\Has T ts
theorem Has.mem {α:Type}{T:α->Int}:∀{ts:List (α × Nat)},Has T ts->∀q∈ts,(q.2:Int)<=T q.1
 | _::_,h,q,hq=>(List.mem_cons.mp hq).elim (fun e=>e▸h.1) (Has.mem h.2 q)
theorem Least.take {α:Type} [DecidableEq α] {E:List (List Int)}{n:Nat}{x:List Int}(hE:∀e∈E,e.length=n)(L:Least E n x){c:Nat->α}{ws:List (α->Int)}(hw:∀e∈E,∃w∈ws,∀i,e.getD i 0=w (c i)){B m:Nat}(ts:List (α × Nat))(ok:okT B m ws ts=true)(h:Has (tot n c fun i=>x.getD i 0) ts):
  (∀i,x.getD i 0<=B)/\x.sum<=m:=by
 simp only [okT,Bool.and_eq_true,decide_eq_true_eq,List.all_eq_true] at ok
 obtain ⟨⟨⟨⟨nd,hs⟩,hc⟩,hm⟩,ne⟩:=ok
 obtain ⟨is,a,b,d⟩:=j0O L.row.pos ts nd h.mem
 obtain ⟨h5,h6⟩:=L.hit hE (is:=is) (fun q=>by rw [<-a,q] at ne;contradiction) b d fun e he=>by
  obtain ⟨w,hw,he⟩:=hw e he
  have:=hs w hw
  rw [<-a,List.map_map] at this
  rw [show (fun i=>e.getD i 0)=w∘c from funext he];exact this
 refine ⟨fun i=> ?_,?_⟩
 ·rw [h5 i]
  refine Int.ofNat_le.mpr (Nat.le_trans (List.count_le_count_map (f:=c)) ?_)
  rw [a]
  by_cases q:c i∈U2 ts
  ·exact hc _ q
  ·rw [List.count_eq_zero.mpr q];exact Nat.zero_le _
 ·rw [h6,<-List.length_map (f:=c),a];exact Int.ofNat_le.mpr hm
theorem Least.even0 {E:List (List Int)}{n:Nat}{x:List Int}(hE:∀e∈E,e.length=n)(L:Least E n x){α:Type} [DecidableEq α] {c:Nat->α}{w:α->Int}{all:List α}(nd:all.Nodup)(hc:∀i,i<n->c i∈all)(h:∃e∈E,∀i,e.getD i 0=w (c i)):(all.map fun t=>w t*tot n c (fun i=>x.getD i 0) t).sum=0:=by
 obtain ⟨e,he,hw⟩:=h
 have h1:=Even.iff.mp L.even e he
 rw [Js (by exact (hE e he ..).trans (L.row.len ..).symm),L.row.len] at h1
 exact (Wm w nd hc ..).symm.trans ((jo fun i _=>by rw [hw]).trans h1)
theorem Least.pos1 {E:List (List Int)}{n:Nat}{x:List Int}(L:Least E n x){α:Type} [DecidableEq α] {c:Nat->α}{all:List α}(nd:all.Nodup)(hc:∀i,i<n->c i∈all):∃t∈all,1<=tot n c (fun i=>x.getD i 0) t:=by
 have h1:=L.pos
 rw [L.row.sum] at h1
 obtain ⟨i,hi,hp⟩:=Jv h1
 refine ⟨c i,hc i hi,?_⟩
 have:=jJ (n:=n) (f:=fun j=>(fun _=>1) j*if j=i then 1 else 0) (g:=fun j=>if c j=c i then x.getD j 0 else 0) fun j _=>by
  by_cases q:j=i
  ·subst q;lia
  ·rw [if_neg q];split
   ·exact L.row.pos j
   ·exact Int.le_refl _
 rwa [Jt hi] at this
theorem p1 {u v:Int}(h:0<u-v)(hv:0<=v):1<=u:=z77 h hv
theorem p2 {u v p q:Int}(e:u-v+p+q=0)(hu:0<=u)(hp:0<p)(hq:0<q):2<=v:=z78 hp hq hu e
theorem p3 {u v p q:Int}(e:u-v+p+q=0)(hu:0<=u)(hp:0<p)(hq:q=0):1<=v:=z79 hp hu e hq
theorem tri {u v:Int}:0<u-v\/0<v-u\/u-v=0/\v-u=0:=z80
theorem wj {n:Nat}{x e:List Int}(he:e.length=n)(hw:∀y∈e,-2<=y/\y<=2)(L:Least [e] n x):x.sum<=3:=by
 have all:∀i,i<n->e.getD i 0∈[0,1,-1,2,-2]:=fun i hi=>by
  have:=hw _ (jX (a:=e) (i:=i) (z23 hi he))
  generalize e.getD i 0=a at this
  simp;exact z81 this.1 this.2
 have hE:∀g∈[e],g.length=n:=fun g hg=>List.mem_singleton.mp hg▸he
 have fin:=fun ts ok h=>(L.take (c:=fun i=>e.getD i 0) (ws:=[id]) (B:=3) (m:=3) hE (fun g hg=>⟨id,.head _,fun i=>by rw [List.mem_singleton.mp hg];rfl⟩) ts ok h).2
 have h1:=L.even0 (c:=fun i=>e.getD i 0) (w:=id) hE (by decide) all ⟨e,.head _,fun i=>rfl⟩
 obtain ⟨t,ht,hp⟩:=L.pos1 (c:=fun i=>e.getD i 0) (by decide) all
 have p:=YN (n:=n) (c:=fun i=>e.getD i 0) (x:=fun i=>x.getD i 0) L.row.pos
 generalize tot n (fun i=>e.getD i 0) (fun i=>x.getD i 0)=T at*
 have e1:T 1-T (-1)+2*(T 2-T (-2))=0:=by
  simp only [List.map_cons,List.map_nil,List.sum_cons,List.sum_nil,id] at h1
  exact z82 h1
 have p1':=p 1;have p2':=p (-1)
 rcases tri (u:=T 2) (v:=T (-2)) with h| h| h
 ·exact fin [(-1,2),(2,1)] (by decide) ⟨by clear fin hp h1;lia,p1 h (p (-2)),trivial⟩
 ·exact fin [(1,2),(-2,1)] (by decide) ⟨by clear fin hp h1;lia,p1 h (p 2),trivial⟩
 ·have k1:T 1=T (-1):=by clear fin hp h1;exact z83 e1 h.2
  have k2:T 2=T (-2):=by clear fin hp h1;exact z84 h.2
  simp only [List.mem_cons,List.not_mem_nil,or_false] at ht
  rcases ht with rfl| rfl| rfl| rfl| rfl
  ·exact fin [(0,1)] (by decide) ⟨hp,trivial⟩
  ·exact fin [(1,1),(-1,1)] (by decide) ⟨hp,k1▸hp,trivial⟩
  ·exact fin [(1,1),(-1,1)] (by decide) ⟨k1▸hp,hp,trivial⟩
  ·exact fin [(2,1),(-2,1)] (by decide) ⟨hp,k2▸hp,trivial⟩
  ·exact fin [(2,1),(-2,1)] (by decide) ⟨k2▸hp,hp,trivial⟩
theorem U3 {n:Nat}{x e f:List Int}(he:e.length=n)(hf:f.length=n)(hw:∀y∈e,-1<=y/\y<=1)(hv:∀y∈f,-1<=y/\y<=1)(L:Least [e,f] n x):∀i,x.getD i 0<=3:=by
 have all:∀i,i<n->(e.getD i 0,f.getD i 0)∈[((0:Int),(0:Int)),(1,0),(-1,0),(0,1),(0,-1),(1,1),(-1,-1),(1,-1),(-1,1)]:=fun i hi=>by
  have h1:=hw _ (jX (a:=e) (i:=i) (z23 hi he))
  have h2:=hv _ (jX (a:=f) (i:=i) (z23 hi hf))
  have three:∀{a:Int},-1<=a/\a<=1->a=0\/a=1\/a= -1:=by lia
  rcases three h1 with h| h| h<;>rcases three h2 with k| k| k<;>simp only [h,k]<;>decide
 have hE:∀g∈[e,f],g.length=n:=by simp [he,hf]
 have fin:=fun ts ok h=>(L.take (c:=fun i=>(e.getD i 0,f.getD i 0)) (ws:=[Prod.fst,Prod.snd]) (B:=3) (m:=4) hE (fun g hg=>by
  rcases List.mem_cons.mp hg with rfl| hg
  ·exact ⟨Prod.fst,.head _,fun i=>rfl⟩
  ·rw [List.mem_singleton.mp hg];exact ⟨Prod.snd,.tail _ (.head _),fun i=>rfl⟩) ts ok h).1
 have h1:=L.even0 (c:=fun i=>(e.getD i 0,f.getD i 0)) (w:=Prod.fst) hE (by decide) all ⟨e,.head _,fun i=>rfl⟩
 have h2:=L.even0 (c:=fun i=>(e.getD i 0,f.getD i 0)) (w:=Prod.snd) hE (by decide) all ⟨f,.tail _ (.head _),fun i=>rfl⟩
 obtain ⟨t,ht,hp⟩:=L.pos1 (c:=fun i=>(e.getD i 0,f.getD i 0)) (by decide) all
 have p:=YN (n:=n) (c:=fun i=>(e.getD i 0,f.getD i 0)) (x:=fun i=>x.getD i 0) L.row.pos
 generalize tot n (fun i=>(e.getD i 0,f.getD i 0)) (fun i=>x.getD i 0)=T at*
 simp only [List.map_cons,List.map_nil,List.sum_cons,List.sum_nil] at h1 h2
 have q1:=p (1,0);have q2:=p (-1,0);have q3:=p (0,1);have q4:=p (0,-1);have q5:=p (1,1);have q6:=p (-1,-1);have q7:=p (1,-1);have q8:=p (-1,1)
 have e1:T (1,0)-T (-1,0)+(T (1,1)-T (-1,-1))+(T (1,-1)-T (-1,1))=0:=by clear fin hp p;exact z85 h1
 have e2:T (0,1)-T (0,-1)+(T (1,1)-T (-1,-1))+(T (-1,1)-T (1,-1))=0:=by clear fin hp p;exact z86 h2
 have e1':T (-1,0)-T (1,0)+(T (-1,-1)-T (1,1))+(T (-1,1)-T (1,-1))=0:=by clear fin hp p;exact z87 h1
 have e2':T (0,-1)-T (0,1)+(T (-1,-1)-T (1,1))+(T (1,-1)-T (-1,1))=0:=by clear fin hp p;exact z88 h2
 have sw:∀{a b c d:Int},a-b+c+d=0->a-b+d+c=0:=by lia
 rcases tri (u:=T (1,1)) (v:=T (-1,-1)) with h| h| h<;>rcases tri (u:=T (1,-1)) (v:=T (-1,1)) with k| k| k
 ·exact fin [((1,1),1),((1,-1),1),((-1,0),2)] (by decide) ⟨p1 h q6,p1 k q8,p2 e1 q1 h k,trivial⟩
 ·exact fin [((1,1),1),((-1,1),1),((0,-1),2)] (by decide) ⟨p1 h q6,p1 k q7,p2 e2 q3 h k,trivial⟩
 ·exact fin [((1,1),1),((-1,0),1),((0,-1),1)] (by decide) ⟨p1 h q6,p3 e1 q1 h k.1,p3 e2 q3 h k.2,trivial⟩
 ·exact fin [((-1,-1),1),((1,-1),1),((0,1),2)] (by decide) ⟨p1 h q5,p1 k q8,p2 e2' q4 h k,trivial⟩
 ·exact fin [((-1,-1),1),((-1,1),1),((1,0),2)] (by decide) ⟨p1 h q5,p1 k q7,p2 e1' q2 h k,trivial⟩
 ·exact fin [((-1,-1),1),((1,0),1),((0,1),1)] (by decide) ⟨p1 h q5,p3 e1' q2 h k.2,p3 e2' q4 h k.1,trivial⟩
 ·exact fin [((1,-1),1),((-1,0),1),((0,1),1)] (by decide) ⟨p1 k q8,p3 (sw e1) q1 k h.1,p3 (sw e2') q4 k h.2,trivial⟩
 ·exact fin [((-1,1),1),((1,0),1),((0,-1),1)] (by decide) ⟨p1 k q7,p3 (sw e1') q2 k h.2,p3 (sw e2) q3 k h.1,trivial⟩
 ·have g:∀{a b c d:Int},a-b+c+d=0->c=0->d=0->a=b:=by lia
  have k1:=g e1 h.1 k.1
  have k2:=g e2 h.1 k.2
  have k3:=Int.eq_of_sub_eq_zero h.1
  have k4:=Int.eq_of_sub_eq_zero k.1
  simp only [List.mem_cons,List.not_mem_nil,or_false] at ht
  rcases ht with rfl| rfl| rfl| rfl| rfl| rfl| rfl| rfl| rfl
  ·exact fin [((0,0),1)] (by decide) ⟨hp,trivial⟩
  ·exact fin [((1,0),1),((-1,0),1)] (by decide) ⟨hp,k1▸hp,trivial⟩
  ·exact fin [((1,0),1),((-1,0),1)] (by decide) ⟨k1▸hp,hp,trivial⟩
  ·exact fin [((0,1),1),((0,-1),1)] (by decide) ⟨hp,k2▸hp,trivial⟩
  ·exact fin [((0,1),1),((0,-1),1)] (by decide) ⟨k2▸hp,hp,trivial⟩
  ·exact fin [((1,1),1),((-1,-1),1)] (by decide) ⟨hp,k3▸hp,trivial⟩
  ·exact fin [((1,1),1),((-1,-1),1)] (by decide) ⟨k3▸hp,hp,trivial⟩
  ·exact fin [((1,-1),1),((-1,1),1)] (by decide) ⟨hp,k4▸hp,trivial⟩
  ·exact fin [((1,-1),1),((-1,1),1)] (by decide) ⟨k4▸hp,hp,trivial⟩
theorem Dm.mono {V:(Nat->Int)->Prop}{k:Nat}(D:Dm V k):Dm V (k+1):=fun vs hl h=>by
 cases vs with
 | nil=>contradiction
 | cons v vs=>exact (D vs (Nat.succ.inj hl) fun w hw=>h w (.tail _ hw)).cons v
theorem few1 {E:List (List Int)}{n:Nat}{l:List (List Int)}(D:Dm (Ker n E) 1)(hE:∀e∈E,e.length=n)(nd:l.Nodup)(hl:∀s∈l,Least E n s):l.length<64:=by
 have:∀l:List (List Int),∃B:Nat,∀s∈l,∀i,s.getD i 0<=B:=fun l=>by
  induction l with
  | nil=>exact ⟨0,fun s hs=>(List.not_mem_nil hs).elim⟩
  | cons a l ih=>
   obtain ⟨B,hB⟩:=ih
   refine ⟨B+(a.map Int.natAbs).sum,fun s hs i=> ?_⟩
   rcases List.mem_cons.mp hs with rfl| hs
   ·have:∀(a:List Int) (i:Nat),a.getD i 0<=((a.map Int.natAbs).sum:Nat):=fun a=>by
     induction a with
     | nil=>intro i;simp
     | cons y a ih=>
      intro i
      cases i with
      | zero=>simp only [List.map_cons,List.sum_cons,List.getD_cons_zero];exact z89
      | succ i=>have:=ih i;simp only [List.map_cons,List.sum_cons,List.getD_cons_succ];exact z90 this
    have:=this s i
    exact z90 this
   ·have:=hB s hs i;exact z91 this
 obtain ⟨B,hB⟩:=this l
 exact Nat.lt_of_le_of_lt (D.count (k:=0) hE nd hl hB) (by simp only [Nat.pow_zero];decide)
theorem j0o {n m:Nat}:jW n m<=20:=by unfold jW;split;decide;split;split<;>decide;split<;>decide
theorem j0p {E:List (List Int)}{n:Nat}(h1:1<=n)(h5:n<=5)(hE:∀e∈E,e.length=n)(hm:E.length<=3)(hw:∀e∈E,∀x∈e,-jW n E.length<=x/\x<=jW n E.length){l:List (List Int)}(nd:l.Nodup)(hl:∀s∈l,Least E n s):l.length<64:=by
 obtain ⟨F,k,hs,hk,D,hK⟩:=basis n E
 have hF:=fun e he=>hE e (hs.subset he)
 have hw:=fun e he=>hw e (hs.subset he)
 have hm':=hs.length_le
 have hl:=fun s h=>(hl s h).via hE hs hK
 have ones:4<=n->2<=F.length->∀e∈F,∀x∈e,-1<=x/\x<=1:=fun h h'=>by
  have:jW n E.length=1:=by unfold jW;rw [if_neg (z92 h),if_neg (z93 h),if_neg (z94 hm' h')]
  rwa [this] at hw
 have two:4<=n->∀e∈F,∀x∈e,-2<=x/\x<=2:=fun h e he x hx=>by
  have:jW n E.length<=2:=by unfold jW;rw [if_neg (z92 h),if_neg (z93 h)];split<;>decide
  have:=hw e he x hx;exact z95 this.1 this.2 ‹_›
 have lev:=fun h h' s hs i=>Int.le_trans (jH (hl s hs).row i) (Ug (once:=false) hF (YJ hF h h') (hl s hs) fun q=>by contradiction)
 match F,hF,hl,hk,D,hw,hm',ones,two,lev with
 | [],_,hl,_,_,_,_,_,_,_=>exact U1 h5 nd hl fun s hs=>j0n (hl s hs)
 | [e],hF,hl,hk,D,hw,_,_,two,_=>
  by_cases q:4<=n
  ·exact U1 h5 nd hl fun s hs=>wj (hF e (.head _)) (two q e (.head _)) (hl s hs)
  ·have D2:Dm (Ker n [e]) 2:=by
    have:k=0\/k=1\/k=2:=by simp at hk;exact z96 hk q
    rcases this with rfl| rfl| rfl
    ·exact D.mono.mono
    ·exact D.mono
    ·exact D
   refine Nat.lt_of_le_of_lt (D2.count (k:=1) (B:=42) hF nd hl fun s hs i=>Int.le_trans (jH (hl s hs).row i) ?_) (by decide)
   refine Ug (once:=false) (K:=42) hF (fun R v x=> ?_) (hl s hs) fun q=>by contradiction
   have e1:([1]:List Int).map (fun a=>e.map (a*·))=[e]:=by simp
   exact YI (w:=20) (hF e (.head _)) (fun y hy=>by have:=hw e (.head _) y hy;have:=j0o (n:=n) (m:=E.length);lia) R v (e1▸x)
 | [e,f],hF,hl,hk,D,_,_,ones,_,lev=>
  simp at hk
  by_cases q:4<=n
  ·have o:=ones q (Nat.le_refl _)
   have:k=2\/k=3:=z97 hk q h5
   rcases this with rfl| rfl
   ·exact Nat.lt_of_le_of_lt (D.count (k:=1) (B:=34) hF nd hl (lev (by decide:2<=3) o)) (by decide)
   ·exact Nat.lt_of_le_of_lt (D.count (k:=2) (B:=3) hF nd hl fun s hs=>U3 (hF e (.head _)) (hF f (.tail _ (.head _))) (o e (.head _)) (o f (.tail _ (.head _))) (hl s hs)) (by decide)
  ·have D1:Dm (Ker n [e,f]) 1:=by
    have:k=0\/k=1:=z98 hk q
    rcases this with rfl| rfl
    ·exact D.mono
    ·exact D
   exact few1 D1 hF nd hl
 | [e,f,g],hF,hl,hk,D,_,_,ones,_,lev=>
  simp at hk
  by_cases q:n=5
  ·obtain rfl:k=2:=z99 hk q
   exact Nat.lt_of_le_of_lt (D.count (k:=1) (B:=34) hF nd hl (lev (by decide:3<=3) (ones (z100 q) (by decide:2<=3)))) (by decide)
  ·have D1:Dm (Ker n [e,f,g]) 1:=by
    have:k=0\/k=1:=z101 hk h5 q
    rcases this with rfl| rfl
    ·exact D.mono
    ·exact D
   exact few1 D1 hF nd hl
 | _::_::_::_::_,_,_,_,_,_,hm',_,_,_=>simp at hm';exact (z102 hm' hm).elim
noncomputable def Fits6 (E:List (List Int))(n:Nat):Prop:=Fits E n false/\∀l:List (List Int),l.Nodup->(∀s∈l,Least E n s)->l.length<64
theorem Fits6.base {E:List (List Int)}{n:Nat}(h1:1<=n)(h5:n<=5)(hE:∀e∈E,e.length=n)(hm:E.length<=3)(hw:∀e∈E,∀x∈e,-jW n E.length<=x/\x<=jW n E.length):Fits6 E n:=
 ⟨Fits.base h1 h5 hE hm hw,fun l nd hl=>j0p h1 h5 hE hm hw nd hl⟩
theorem Row.zero {n:Nat}{v:List Int}(r:Row n v)(h:v.sum<=0):v=List.replicate n 0:=by
 refine List.eq_replicate_iff.mpr ⟨r.len,fun x hx=> ?_⟩
 obtain ⟨i,_,e⟩:=YX hx
 have:=jH r i
 have:=r.pos i
 exact z33 e h this ‹_›
section
variable {E:List (List Int)} {n:Nat} {t x y:List Int}
theorem j0q {k:Int}(r:Row n x)(h:0<=k):Row (n+1) (x++[k]):=.of (by rw [List.length_append,r.len];rfl) fun z hz=>by
 rcases List.mem_append.mp hz with h'| h'
 ·exact r.mem z h'
 ·rw [List.mem_singleton.mp h'];exact h
end
structure UpTo (E:List (List Int))(n:Nat)(b:Int)(v:List Int):Prop where
 row:Row n v
 even:Even E v
 most:∀i,v.getD i 0<=b
theorem U4 {u s:List Int}{n:Nat}(h1:u.length=n)(h2:s.length=n):addR (subR u s) s=u:=by
 refine YW (by rw [yM (yN h1 h2) h2,h1]) fun i _=> ?_
 rw [JI (by rw [yN h1 h2,h2]),yh (by rw [h1,h2])];exact z46
theorem Even.add {E:List (List Int)}{a b:List Int}(h:a.length=b.length)(x:Even E a)(y:Even E b):Even E (addR a b):=by
 rw [Even.iff] at*
 intro e he
 rw [yO h,x e he,y e he];rfl
theorem Even.sub' {E:List (List Int)}{a b:List Int}(h:a.length=b.length)(x:Even E a)(y:Even E b):Even E (subR a b):=by
 rw [Even.iff] at*
 intro e he
 rw [uc h,x e he,y e he];rfl
structure Dfs (E:List (List Int))(n:Nat)(b:Int)(steps known front:List (List Int)):Prop where
 nd:known.Nodup
 up:∀v∈known,UpTo E n b v
 inn:∀v∈front,v∈known
 zero:List.replicate n 0∈known
 shut:∀v∈known,v∉front->∀s∈steps,UpTo E n b (addR v s)->addR v s∈known
theorem Dfs.start {E:List (List Int)}{n:Nat}{b:Int}{steps:List (List Int)}(hb:0<=b):Dfs E n b steps [List.replicate n 0] [List.replicate n 0] where
 nd:=by simp
 up:=fun v hv=>by
  rw [List.mem_singleton.mp hv]
  have hr:Row n (List.replicate n 0):=.of (by simp) fun x hx=>by rw [(List.mem_replicate.mp hx).2];exact Int.le_refl _
  refine ⟨hr,?_,fun i=> ?_⟩
  ·rw [Even.iff];exact fun e _=>JN _ _ fun x hx=>(List.mem_replicate.mp hx).2
  ·have:(List.replicate n (0:Int)).getD i 0=0:=by
    rw [List.getD_eq_getElem?_getD,List.getElem?_replicate];split<;>rfl
   exact z47 this hb
 inn:=fun v hv=>hv
 zero:=by simp
 shut:=fun v hv hn=>absurd hv hn
theorem Dfs.full {E:List (List Int)}{n:Nat}{b:Int}{steps known:List (List Int)}(D:Dfs E n b steps known [])(hs:∀s,s∈steps↔Least E n s):∀v,v∈known↔UpTo E n b v:=by
 have key:∀(k:Nat) (v:List Int),v.sum.toNat<=k->UpTo E n b v->v∈known:=by
  intro k
  induction k with
  | zero=>
   intro v hk hv
   have h0:=hv.row.sum_nonneg
   rw [hv.row.zero (z48 hk)];exact D.zero
  | succ k ih=>
   intro v hk hv
   have h0:=hv.row.sum_nonneg
   by_cases q:v.sum<=0
   ·rw [hv.row.zero q];exact D.zero
   ·obtain ⟨s,ls,hl⟩:=Ju _ (Nat.le_refl _) hv.row hv.even (z15 q)
    have hls:=ls.row.len
    have hlv:=hv.row.len
    have hlen:v.length=s.length:=by rw [hls,hlv]
    have hsum:=ud hlen
    have hp:=ls.pos
    have hu:UpTo E n b (subR v s):=⟨hv.row.sub ls.row hl,hv.even.sub' hlen ls.even,fun i=>by
     rw [yh hlen];have:=hv.most i;have:=ls.row.pos i;exact z49 this ‹_›⟩
    have h1:=ih (subR v s) (z50 hp hk hsum) hu
    have h2:=D.shut _ h1 (by simp) s ((hs s).mpr ls) (by rw [U4 hlv hls];exact hv)
    rw [U4 hlv hls] at h2
    exact h2
 exact fun v=>⟨D.up v,fun hv=>key _ v (Nat.le_refl _) hv⟩
structure Mid (E:List (List Int))(n:Nat)(b:Int)(steps known front:List (List Int))(r:List Int)(done:List (List Int)):Prop where
 nd:known.Nodup
 up:∀v∈known,UpTo E n b v
 inn:∀v∈front,v∈known
 zero:List.replicate n 0∈known
 shut:∀v∈known,v∉front->v≠r->∀s∈steps,UpTo E n b (addR v s)->addR v s∈known
 mine:∀s∈done,UpTo E n b (addR r s)->addR r s∈known
 here:r∈known
theorem Dfs.mid {E:List (List Int)}{n:Nat}{b:Int}{steps known front:List (List Int)}{r:List Int}(D:Dfs E n b steps known (front++[r])):Mid E n b steps known front r [] where
 nd:=D.nd
 up:=D.up
 inn:=fun v hv=>D.inn v (List.mem_append_left _ hv)
 zero:=D.zero
 shut:=fun v hv hn hr=>D.shut v hv fun q=>by
  rcases List.mem_append.mp q with z| z
  ·exact hn z
  ·exact hr (List.mem_singleton.mp z)
 mine:=fun s hs=>by cases hs
 here:=D.inn r (by simp)
theorem Mid.done {E:List (List Int)}{n:Nat}{b:Int}{steps known front:List (List Int)}{r:List Int}(M:Mid E n b steps known front r steps):Dfs E n b steps known front where
 nd:=M.nd
 up:=M.up
 inn:=M.inn
 zero:=M.zero
 shut:=fun v hv hn s hs hu=>by
  by_cases q:v=r
  ·subst q;exact M.mine s hs hu
  ·exact M.shut v hv hn q s hs hu
theorem Mid.old {E:List (List Int)}{n:Nat}{b:Int}{steps known front:List (List Int)}{r s:List Int}{done:List (List Int)}(M:Mid E n b steps known front r done)(h:UpTo E n b (addR r s)->addR r s∈known):Mid E n b steps known front r (done++[s]) where
 nd:=M.nd
 up:=M.up
 inn:=M.inn
 zero:=M.zero
 shut:=M.shut
 mine:=fun t ht hu=>by
  rcases List.mem_append.mp ht with z| z
  ·exact M.mine t z hu
  ·rw [List.mem_singleton.mp z] at hu⊢;exact h hu
 here:=M.here
theorem Mid.new {E:List (List Int)}{n:Nat}{b:Int}{steps known front:List (List Int)}{r s:List Int}{done:List (List Int)}(M:Mid E n b steps known front r done)(hu:UpTo E n b (addR r s))(hn:addR r s∉known):Mid E n b steps (known++[addR r s]) (front++[addR r s]) r (done++[s]) where
 nd:=by
  rw [List.nodup_append]
  exact ⟨M.nd,by simp,fun a ha c hc=>by rw [List.mem_singleton.mp hc];exact fun e=>hn (e▸ha)⟩
 up:=fun v hv=>by
  rcases List.mem_append.mp hv with z| z
  ·exact M.up v z
  ·rw [List.mem_singleton.mp z];exact hu
 inn:=fun v hv=>by
  rcases List.mem_append.mp hv with z| z
  ·exact List.mem_append_left _ (M.inn v z)
  ·exact List.mem_append_right _ z
 zero:=List.mem_append_left _ M.zero
 shut:=fun v hv hf hr t ht hu'=>by
  rcases List.mem_append.mp hv with z| z
  ·exact List.mem_append_left _ (M.shut v z (fun q=>hf (List.mem_append_left _ q)) hr t ht hu')
  ·exact absurd (List.mem_append_right _ z) hf
 mine:=fun t ht hu'=>by
  rcases List.mem_append.mp ht with z| z
  ·exact List.mem_append_left _ (M.mine t z hu')
  ·rw [List.mem_singleton.mp z];exact List.mem_append_right _ (.head _)
 here:=List.mem_append_left _ M.here
end Mine
set_option maxRecDepth 10000
set_option maxHeartbeats 1000000
set_option Elab.async false
namespace Mine
open PySem PySem.Calls PyProof.Rows PySem.W
local macro_rules | `(tactic| walk_at "k2")=> `(tactic| with_unfolding_all first| exact .inl (ja (by assumption) (by rfl))| exact .inr (ja (by assumption) (by rfl)))
local macro_rules | `(tactic| walk_at "z")=> `(tactic| (simp only [SD.ds,List.length_map,List.length_range,List.length_zip,List.length_take,List.length_drop,List.length_append,List.length_replicate,List.length_cons,List.length_nil,sizeLine]<;>omega))
noncomputable abbrev B08:List Stmt:=PySem.Challenge.pw_uf050013_08.main.body
noncomputable abbrev Bd08:List Stmt:=((B08[30]?).map bodyOf).getD []
noncomputable abbrev N08:List (Str × Value):=[("range",.type "range"),("tuple",.type "tuple"),("zip",.type "zip"),("all",.builtin "all"),("any",.builtin "any"),("sum",.builtin "sum"),("max",.builtin "max"),("min",.builtin "min"),("isinstance",.builtin "isinstance"),("int",.type "int"),("bool",.type "bool"),("list",.type "list"),("len",.builtin "len"),("sorted",.builtin "sorted"),("enumerate",.type "enumerate"),("ValueError",.type "ValueError")]
noncomputable abbrev G08:List (Str × Int):=[("MOST_ROWS",300),("MOST_BOUND",60),("MOST_SIZE",5),("MOST_EQUATIONS",3),("MOST_WEIGHT",20)]
noncomputable abbrev il (xs:List Int):D:=.lst (xs.map D.int)
noncomputable def okW (n:Nat)(xs:List Int):Prop:=xs.length=n/\∀x∈xs,-20<=x/\x<=20
structure Ints (σ:Sto)(sd:SD)(xs:List Int):Prop where
 isL:sd.isL=true
 ds:sd.ds=xs.map D.int
 inv:sd.inv σ
section
variable {c:Cx} {σ:Sto} {X:Addr->Sto->Prop} {Q:D->Sto->Prop} {K:Frag} {C:Addr}
theorem Ys {i lo hi:Int}{b:Bool}(T:Tp c B08 N08)(hb:decide (lo<=i/\i<=hi)=b)(h:Q (.bool b) σ):WF c (Room 1) "is_whole" [.int i,.int lo,.int hi] σ Q X:=by
 refine WF.byA 23 (ps:=["thing","low","high"]) T rfl rfl (WR fun _ _ _ _ _ _=>rfl) (by rfl) rfl fun A fr env g r hh hs fe=> ?_
 refine Sp.mk ?_
 refine At1.isi (b:=true) (by decide) rfl ?_
 refine Sp.mk ?_
 refine At1.isi (b:=false) (by decide) rfl ?_
 skip
 by_cases h1:lo<=i
 ·refine brT (decide_eq_true h1) ?_
  refine Sp.mk ?_
  simpa [h1,<-hb] using h
 ·refine brF (decide_eq_false h1) ?_
  refine Sp.mk ?_
  simpa [h1,<-hb] using h
theorem Ui {sd:SD}{xs:List Int}{n:Nat}(T:Tp c B08 N08)(G:Gi c G08)(w:Ints σ sd xs)(ok:okW n xs)(hn:n<100)(h:Q (.bool true) σ):WF c (Room 2) "is_weights" [sd.d,.int n] σ Q X:=by
 refine WF.byG 24 (ps:=["thing","many"]) T G rfl rfl (JS fun _ _ _ _ _=>rfl) (by rfl) rfl fun A fr env g r hh hs fe=> ?_
 have hl:sd.ds.length=n:=by rw [w.ds,List.length_map,ok.1]
 refine Sp.mk ?_
 refine At1.isiL w.isL w.inv ?_
 refine Sp.mk ?_
 refine At1.len w.inv (z626 hn hl) ?_
 skip
 rw [hl]
 skip
 refine brF (show ((n:Int) !=n)=false by simp) ?_
 refine Sp.mk ?_
 refine WIv.seqA rfl D.int hh w.ds w.inv (Turns.map (fun _=>.bool true) (fun _ _=>loc1 rfl) w.inv (by have:=ok.1;walk_at "z") (fun x hx fr' cenv hc=> ?_) (.inl ?_))
 ·have g:=g.at (jl hc hs)
  (with_reducible refine WE.go (by assumption) ?_);refine Sp.mk ?_
  have:=ok.2 x hx
  refine WF.at (Ys T (decide_eq_true (z628 this.2 this.1)) ?_) (by decide)
  refine Sp.mk ?_
  exact ⟨rfl,rfl⟩
 ·refine Sp.mk ?_
  refine At1.all (sd:=.lst _) (l:=xs.map fun _=>true) hh (by simp [SD.ds,Function.comp_def]) trivial ?_
  refine Sp.mk ?_
  rw [show (xs.map fun _=>true).all id=true by simp]
  exact h
end
section
variable {c:Cx} {σ:Sto} {X:Addr->Sto->Prop} {Q:D->Sto->Prop} {K:Frag} {C:Addr}
structure Eqs (σ:Sto)(n:Nat)(ws:List (SD × List Int)):Prop where
 each:∀w∈ws,Ints σ w.1 w.2/\okW n w.2
 few:ws.length<=3
theorem j0r {α:Type}(l:List α):(l.map fun _=>true).all id=true:=by simp
theorem wk {sd:SD}{ws:List (SD × List Int)}{n:Nat}(T:Tp c B08 N08)(G:Gi c G08)(hL:sd.isL=true)(hi:sd.inv σ)(hd:sd.ds=ws.map fun w=>w.1.d)(E:Eqs σ n ws)(h1:1<=n)(h5:n<=5)(h:Q (.bool true) σ):WF c (Room 3) "is_system" [.int n,sd.d] σ Q X:=by
 refine WF.byG 25 (ps:=["size","equations"]) T G rfl rfl (JS fun _ _ _ _ _=>rfl) (by rfl) rfl fun A fr env g r hh hs fe=> ?_
 have hl:sd.ds.length=ws.length:=by rw [hd,List.length_map]
 have h3:=E.few
 refine Sp.mk ?_
 refine WF.at (Ys T (decide_eq_true (z629 h1 h5)) ?_) (by decide)
 refine Sp.mk ?_
 refine At1.isiL hL hi ?_
 refine Sp.mk ?_
 refine At1.len hi (z630 hl h3) ?_
 skip
 rw [hl]
 skip
 refine brF (decide_eq_false (z631 h3)) ?_
 refine Sp.mk ?_
 refine WIv.seqA rfl (fun w:SD × List Int=>w.1.d) hh hd hi (Turns.map (fun _=>.bool true) (fun _ _=>loc1 rfl) hi (by walk_at "z") (fun x hx fr' cenv hc=> ?_) (.inl ?_))
 ·have g:=g.at (jl hc hs)
  (with_reducible refine WE.go (by assumption) ?_);refine Sp.mk ?_
  refine WF.at (Ui T G (E.each x hx).1 (E.each x hx).2 (z633 h5) ?_) (by decide)
  refine Sp.mk ?_
  exact ⟨rfl,rfl⟩
 ·refine Sp.mk ?_
  refine At1.all (sd:=.lst _) (l:=ws.map fun _=>true) hh (by simp [SD.ds,Function.comp_def]) trivial ?_
  refine Sp.mk ?_
  rw [j0r]
  exact h
noncomputable abbrev rl (rows:List (List Int)):D:=.lst (rows.map il)
noncomputable abbrev sy (C:Addr)(n:Nat)(rows:List (List Int)):D:=.sys C (.int n) (rl rows)
theorem init_ {sd:SD}{ws:List (SD × List Int)}{n:Nat}{dx:Addr}(T:Tp c B08 N08)(G:Gi c G08)(S:Ks c K C "System" Bd08)(hL:sd.isL=true)(hi:sd.inv ((dx,.flds [])::σ))(hd:sd.ds=ws.map fun w=>w.1.d)(E:Eqs ((dx,.flds [])::σ) n ws)
  (hi2:∀fs,sd.inv ((dx,.flds fs)::σ)/\∀w∈ws,w.1.inv ((dx,.flds fs)::σ)) (h1:1<=n) (h5:n<=5) (h:Q .none ((dx,.flds [("rules",rl (ws.map (·.2))),("size",.int n)])::σ)):WM c K C (Room 4) "__init__" [.own C dx,.int n,sd.d] ((dx,.flds [])::σ) Q X:=by
 refine WM.byG 0 (ps:=["self","size","equations"]) T G S rfl rfl (mbind3 fun _ _ _ _ _ _ _=>rfl) (by rfl) rfl fun A fr env g r hh hs fe=> ?_
 have h3:=E.few
 refine Sp.mk ?_
 refine WF.at (wk T G hL hi hd E h1 h5 ?_) (by decide)
 refine Sp.mk ?_
 refine W1.attrS S ?_ (.inl rfl) (by with_unfolding_all rfl)
 (with_reducible refine WE.go (by assumption) ?_);refine Sp.mk ?_;(with_reducible refine WE.go (by assumption) ?_);refine Sp.mk ?_
 refine ⟨dx,[],σ,[],rfl,rfl,by decide,?_⟩
 (with_reducible refine WS.goK (by assumption) ?_);refine Sp.mk ?_
 refine W1.attrS S ?_ (.inr rfl) (by with_unfolding_all rfl)
 (with_reducible refine WE.go (by assumption) ?_);refine Sp.mk ?_
 refine WIv.seqA rfl (fun w:SD × List Int=>w.1.d) hh hd (hi2 _).1 (Turns.map (fun w=>il w.2) (fun _ _=>loc1 rfl) (hi2 _).1 (by walk_at "z") (fun w hw fr' cenv hc=> ?_) (.inl ?_))
 ·have g:=g.at (jl hc hs)
  (with_reducible refine WE.go (by assumption) ?_);refine Sp.mk ?_
  have hw1:=(E.each w hw).1
  have hw2:=(E.each w hw).2.1
  refine At1.list ((hi2 _).2 w hw) (by rw [hw1.ds];walk_at "z") (.inl ?_)
  refine Sp.mk ?_
  rw [hw1.ds]
  exact ⟨rfl,rfl⟩
 ·refine Sp.mk ?_;(with_reducible refine WE.go (by assumption) ?_);refine Sp.mk ?_
  refine ⟨dx,[],σ,_,rfl,rfl,by simp,?_⟩
  (with_reducible refine WS.goK (by assumption) ?_);refine Sp.mk ?_
  have e:rl (ws.map (·.2))=.lst (ws.map fun w=>il w.2):=by simp [rl,Function.comp_def]
  rw [e] at h
  exact h
theorem new_ {sd:SD}{ws:List (SD × List Int)}{n:Nat}(T:Tp c B08 N08)(G:Gi c G08)(S:Ks c K C "System" Bd08)(hL:sd.isL=true)(hi:sd.inv σ)(hd:sd.ds=ws.map fun w=>w.1.d)(E:Eqs σ n ws)(h1:1<=n)(h5:n<=5)
  (h:Q (sy C n (ws.map (·.2))) σ) (dx:Addr):WM c K C (Room 4) "__init__" [.own C dx,.int n,sd.d] ((dx,.flds [])::σ) (NewQ C dx Q) (NewX dx X):=by
 have inv:∀{w:SD} {p:Addr × O},w.inv σ->w.inv (p::σ):=fun {w p} hw=>by
  cases w
  ·trivial
  ·trivial
  ·exact List.mem_cons_of_mem _ hw
 refine init_ T G S hL (inv hi) hd ⟨fun w hw=>⟨⟨(E.each w hw).1.isL,(E.each w hw).1.ds,inv (E.each w hw).1.inv⟩,(E.each w hw).2⟩,E.few⟩ (fun fs=>⟨inv hi,fun w hw=>inv (E.each w hw).1.inv⟩) h1 h5 ?_
 refine ⟨rfl,[],σ,_,.int n,rl (ws.map (·.2)),rfl,rfl,rfl,fun x n1 n2=> ?_,h⟩
 rw [jb,if_neg n2,jb,if_neg n1];rfl
end
section
variable {c:Cx} {σ:Sto} {X:Addr->Sto->Prop} {Q:D->Sto->Prop} {K:Frag} {C:Addr}
noncomputable abbrev Yt (ws:List Int):Prop:=∀x∈ws,x.natAbs<2^64
theorem unit_ {n p:Int}(T:Tp c B08 N08)(h0:0<=n)(h1:n<100)(h:Q (row ((List.range n.toNat).map fun (i:Nat)=>if ((i:Int)==p)=true then (1:Int) else 0)) σ):WF c (Room 1) "unit" [.int n,.int p] σ Q X:=by
 refine WF.byA 12 (ps:=["size","place"]) T rfl rfl (JS fun _ _ _ _ _=>rfl) (by rfl) rfl fun A fr env g r hh hs fe=> ?_
 refine Sp.mk ?_
 refine ⟨z795 h0,z796 h1,Turns.map (fun (i:Nat)=>.int (if ((i:Int)==p)=true then (1:Int) else 0)) (fun _ _=>loc1 rfl) trivial (by walk_at "z") (fun x hx fr' cenv hc=> ?_) (.inl ?_)⟩
 ·have g:=g.at (jl hc hs)
  (with_reducible refine WE.go (by assumption) ?_);refine Sp.mk ?_
  refine At1.intB ?_
  refine Sp.mk ?_
  exact ⟨rfl,rfl⟩
 ·refine Sp.mk ?_
  refine At1.tuple (sd:=.lst _) trivial (by walk_at "z") ?_
  refine Sp.mk ?_
  simpa [row,SD.ds,Function.comp_def] using h
theorem j1z {xs ys:List Int}(T:Tp c B08 N08)(hsz:xs.length<100)(h:Q (.bool ((xs.zip ys).all fun q=>decide (q.1<=q.2))) σ):WF c (Room 1) "within" [row xs,row ys] σ Q X:=by
 refine WF.byA 13 (ps:=["one","other"]) T rfl rfl (JS fun _ _ _ _ _=>rfl) (by rfl) rfl fun A fr env g r hh hs fe=> ?_
 refine Sp.mk ?_
 refine ⟨_,_,.tup _,.tup _,xs,ys,D.int,D.int,rfl,rfl,rfl,rfl,trivial,trivial,Turns.map (fun q=>.bool (decide (q.1<=q.2))) (fun _ _=>loc2 rfl rfl) ⟨trivial,trivial⟩ (by walk_at "z") (fun x hx fr' cenv hc=> ?_) (.inl ?_)⟩
 ·have g:=g.at (jl hc hs)
  (with_reducible refine WE.go (by assumption) ?_);refine Sp.mk ?_
  exact ⟨rfl,rfl⟩
 ·refine Sp.mk ?_
  refine At1.all (sd:=.lst _) (l:=(xs.zip ys).map fun q=>decide (q.1<=q.2)) hh (by simp [SD.ds,Function.comp_def]) trivial ?_
  refine Sp.mk ?_
  simpa [Function.comp_def] using h
theorem added_ {xs ys:List Int}(T:Tp c B08 N08)(hsz:xs.length<100)(h:Q (row ((xs.zip ys).map fun q=>q.1+q.2)) σ):WF c (Room 1) "added" [row xs,row ys] σ Q X:=by
 refine WF.byA 14 (ps:=["one","other"]) T rfl rfl (JS fun _ _ _ _ _=>rfl) (by rfl) rfl fun A fr env g r hh hs fe=> ?_
 refine Sp.mk ?_
 refine ⟨_,_,.tup _,.tup _,xs,ys,D.int,D.int,rfl,rfl,rfl,rfl,trivial,trivial,Turns.map (fun q=>.int (q.1+q.2)) (fun _ _=>loc2 rfl rfl) ⟨trivial,trivial⟩ (by walk_at "z") (fun x hx fr' cenv hc=> ?_) (.inl ?_)⟩
 ·have g:=g.at (jl hc hs)
  (with_reducible refine WE.go (by assumption) ?_);refine Sp.mk ?_
  exact ⟨rfl,rfl⟩
 ·refine Sp.mk ?_
  refine At1.tuple (sd:=.lst _) trivial (by walk_at "z") ?_
  refine Sp.mk ?_
  simpa [row,SD.ds,Function.comp_def] using h
theorem j1A {xs:List Int}(T:Tp c B08 N08)(h:Q (keyD xs) σ):WF c (Room 1) "by_sum" [row xs] σ Q X:=by
 refine WF.byA 15 (ps:=["row"]) T rfl rfl (YV fun _ _ _ _=>rfl) (by rfl) rfl fun A fr env g r hh hs fe=> ?_
 refine Sp.mk ?_
 refine At1.sum (sd:=.tup _) (l:=xs) hh rfl trivial ?_
 refine Sp.mk ?_
 exact h
theorem Wn {rows:List (List Int)}(T:Tp c B08 N08)(hl:rows.length<=16777216)(h:∀out:List (List Int),out.Perm rows->out.Pairwise yu->QL Q (out.map row) σ):WF c (Room 3) "ranked" [.lst (rows.map row)] σ Q X:=by
 refine WF.byA 16 (ps:=["rows"]) T rfl rfl (YV fun _ _ _ _=>rfl) (by rfl) rfl fun A fr env g r hh hs fe=> ?_
 refine Sp.mk ?_
 refine WE.sortedN T (n:=0) r (by with_unfolding_all exact ja (by assumption) (by rfl)) (by rfl) (by with_unfolding_all exact ja (by assumption) (by rfl)) (uM T rfl) ?_
 (with_reducible refine WE.go (by assumption) ?_);refine Sp.mk ?_
 exact ⟨.lst _,rows,rfl,rfl,rfl,trivial,hl,fun r hr=>j1A T ⟨rfl,rfl⟩,fun out a b=>(h out a b).sp⟩
theorem j0P {sd sd2:SD}{ws xs:List Int}(T:Tp c B08 N08)(hd:sd.ds=ws.map D.int)(hi:sd.inv σ)(hd2:sd2.ds=xs.map D.int)(hi2:sd2.inv σ)(hs1:∀q∈ws.zip xs,IntMulOk q.1 q.2)(hl:ws.length<100)(h:Q (.int (dot ws xs)) σ):WF c (Room 1) "times" [sd.d,sd2.d] σ Q X:=by
 refine WF.byA 27 (ps:=["weights","row"]) T rfl rfl (JS fun _ _ _ _ _=>rfl) (by rfl) rfl fun A fr env g r hh hs fe=> ?_
 refine Sp.mk ?_
 refine ⟨_,_,sd,sd2,ws,xs,D.int,D.int,rfl,rfl,hd,hd2,hi,hi2,Turns.map (fun q=>.int (q.1*q.2)) (fun _ _=>loc2 rfl rfl) ⟨hi,hi2⟩ (by walk_at "z") (fun q hq fr' cenv hc=> ?_) (.inl ?_)⟩
 ·have g:=g.at (jl hc hs)
  (with_reducible refine WE.go (by assumption) ?_);refine Sp.mk ?_
  refine WB.mul (hs1 q hq) ?_
  refine Sp.mk ?_
  exact ⟨rfl,rfl⟩
 ·refine Sp.mk ?_
  refine At1.sum (sd:=.lst _) (l:=(ws.zip xs).map fun q=>q.1*q.2) hh (by simp [SD.ds,Function.comp_def]) trivial ?_
  refine Sp.mk ?_
  exact h
theorem j1B {rows:List (List Int)}{xs:List Int}(T:Tp c B08 N08)(hr:∀r∈rows,Yt r/\r.length<100)(hl:rows.length<100)(h:QL Q (rows.map fun r=>.int (dot r xs)) σ):WF c (Room 2) "worths" [rl rows,row xs] σ Q X:=by
 refine WF.byA 28 (ps:=["equations","row"]) T rfl rfl (JS fun _ _ _ _ _=>rfl) (by rfl) rfl fun A fr env g r hh hs fe=> ?_
 refine Sp.mk ?_
 refine WIv.seqA rfl (sd:=.lst _) il hh rfl trivial (Turns.map (fun r=>.int (dot r xs)) (fun _ _=>loc1 rfl) trivial (by walk_at "z") (fun w hw fr' cenv hc=> ?_) h.sp)
 have g:=g.at (jl hc hs)
 (with_reducible refine WE.go (by assumption) ?_);refine Sp.mk ?_
 refine WF.at (j0P (sd:=.lst _) (sd2:=.tup _) T rfl trivial rfl trivial (fun q hq=>jP ((hr w hw).1 _ (List.of_mem_zip hq).1)) (hr w hw).2 ?_) (by decide)
 refine Sp.mk ?_
 exact ⟨rfl,rfl⟩
end
section
variable {c:Cx} {σ:Sto} {X:Addr->Sto->Prop} {Q:D->Sto->Prop} {K:Frag} {C:Addr}
theorem Wo {n p:Nat}(T:Tp c B08 N08)(h1:n<100)(h:Q (row (jj n p)) σ):WF c (Room 1) "unit" [.int n,.int p] σ Q X:=unit_ T z289 (z800 h1) h
theorem uv {E:List (List Int)}{xs:List Int}(T:Tp c B08 N08)(hr:∀r∈E,Yt r/\r.length<100)(hl:E.length<100)(h:QL Q ((wor E xs).map D.int) σ):WF c (Room 2) "worths" [rl E,row xs] σ Q X:=
 j1B T hr hl (by unfold wor at h;rw [List.map_map] at h;exact h)
theorem Wp {xs ys:List Int}(T:Tp c B08 N08)(hsz:xs.length<100)(h:Q (row (addR xs ys)) σ):WF c (Room 1) "added" [row xs,row ys] σ Q X:=added_ T hsz h
theorem j0s {xs ys:List Int}(T:Tp c B08 N08)(hsz:xs.length<100)(h:Q (.bool (inR xs ys)) σ):WF c (Room 1) "within" [row xs,row ys] σ Q X:=j1z T hsz h
theorem j0Q {l:List (List Int)}:(!PyData.eqv (.list (l.map fun r=>.tuple (r.map .int))) (.list []))= !l.isEmpty:=by
 cases l<;>rfl
theorem j1C (l:List (List Int))(f:List Int):l.length<=(ins l f).length:=by
 unfold ins;split
 ·exact Nat.le_refl _
 ·simp
theorem yn:∀(fs l:List (List Int)),l.length<=(fs.foldl ins l).length
 | [],l=>Nat.le_refl _
 | f::fs,l=>Nat.le_trans (j1C l f) (yn fs _)
theorem wl {fs gs l:List (List Int)}:(fs.foldl ins l).length<=((fs++gs).foldl ins l).length:=by rw [List.foldl_append];exact yn gs _
theorem jN {α:Type}{l:List α}{k:Nat}{x:α}(h:l[k]? =some x):l.take (k+1)=l.take k++[x]:=by
 rw [List.take_add_one,h];rfl
theorem wm {E:List (List Int)}{n:Nat}{once:Bool}{found rs:List (List Int)}{r:List Int}:JQ E n once found (rs++[r])=JQ E n once found rs++(List.range n).filterMap fun p=>cand E n once found r p:=by
 unfold JQ;rw [List.flatMap_append];simp
theorem Wq {E:List (List Int)}{n:Nat}{once:Bool}{found op:List (List Int)}{w:List Int}{i p:Nat}(hk:op[i]? =some w):∃gs,JQ E n once found op=(JQ E n once found (op.take i)++((List.range n).take p).filterMap fun q=>cand E n once found w q)++gs:=by
 obtain ⟨hi,hw⟩:=List.getElem?_eq_some_iff.mp hk
 refine ⟨((List.range n).drop p).filterMap (fun q=>cand E n once found w q)++JQ E n once found (op.drop (i+1)),?_⟩
 have e:op=op.take i++w::op.drop (i+1):=by
  rw [<-hw,<-List.drop_eq_getElem_cons hi,List.take_append_drop]
 conv=>lhs;rw [e]
 unfold JQ
 rw [List.flatMap_append,List.flatMap_cons]
 conv=>lhs;rw [<-List.take_append_drop p (List.range n),List.filterMap_append]
 simp only [List.append_assoc,List.take_append_drop]
noncomputable abbrev fwV (E:List (List Int))(n:Nat)(o:Bool)(a:Addr):Vars:=[("found",.ref a),("columns",.lst ((List.range n).map fun (i:Nat)=>il (wor E (jj n i)))),("equations",rl E),("size",.int n),("once",.bool o)]
theorem j1D {E:List (List Int)}{n:Nat}{once:Bool}(T:Tp c B08 N08)(F:Fits E n once)(hr:∀r∈E,Yt r/\r.length<100)(hl:E.length<100)(hn:n<100)(h1:1<=n)
  (h:∀found:List (List Int),found.Nodup->(∀s,s∈found↔Least E n s/\(once=true->s.getD (n-1) 0<2))->found.length<=16000000->Q (.lst (found.map row)) σ):WF c (Room 3) "fewest" [rl E,.int n,.bool once] σ Q X:=by
 refine WF.byA 29 (ps:=["equations","size","once"]) T rfl rfl (WR fun _ _ _ _ _ _=>rfl) (by rfl) rfl fun A fr env g r hh hs fe=> ?_
 refine Sp.mk ?_
 refine ⟨z653,z801 hn,Turns.map (fun (i:Nat)=>il (wor E (jj n i))) (fun _ _=>loc1 rfl) trivial (by walk_at "z") (fun x hx fr' cenv hc=> ?_) (.inl ?_)⟩
 ·have g:=g.at (jl hc hs)
  (with_reducible refine WE.go (by assumption) ?_);refine Sp.mk ?_
  refine WF.at (Wo T hn ?_) (by decide)
  refine Sp.mk ?_
  refine WF.at (uv T hr hl (.inl ⟨rfl,rfl⟩)) (by decide)
 refine Sp.mk ?_
 refine .inr fun a ha=> ?_
 refine Sp.mk ?_
 refine ⟨z653,z801 hn,Turns.map (fun (i:Nat)=>row (jj n i)) (fun _ _=>loc1 rfl) trivial (by walk_at "z") (fun x hx fr' cenv hc=> ?_) (.inl ?_)⟩
 ·have g:=g.at (jl hc hs)
  (with_reducible refine WE.go (by assumption) ?_);refine Sp.mk ?_
  refine WF.at (Wo T hn ?_) (by decide)
  refine Sp.mk ?_
  exact ⟨rfl,rfl⟩
 refine Sp.mk ?_
 obtain ⟨Kk,hK⟩:=F.ends
 refine W1.whileA rfl fe (fun k m' σ'=>∃j σx,j+k=Kk/\σ'=σx++(a,.lst ((stF E n once j).1.map row))::σ/\Hs m' (("front",.lst ((stF E n once j).2.map row))::fwV E n once a)) Kk ⟨0,[],z803,rfl,?_⟩ ?_
 ·rw [show (stF E n once 0).2.map row=List.map (fun (i:Nat)=>row (jj n i)) (List.range ((n:Int)).toNat) by simp [stF,Function.comp_def]]
  exact Hs.lit rfl
 rintro k m' σ' ⟨j,σx,hj,rfl,hv⟩
 obtain ⟨fo,hfo⟩:∃fo,fo=(stF E n once j).1:=⟨_,rfl⟩
 obtain ⟨fn,hfn⟩:∃fn,fn=(stF E n once j).2:=⟨_,rfl⟩
 rw [<-hfn] at hv
 rw [<-hfo]
 (with_reducible refine WT.base (by assumption) ?_;refine WT.go (by assumption) ?_);refine Sp.mk ?_
 refine .inl ?_
 refine Sp.mk ?_
 refine WB.neD r (.of (Py.lst (n:=3) PyAll.rows)) (.of (Py.lst (n:=1) .nil)) ?_
 refine Sp.mk ?_
 rw [j0Q]
 have hlen:=F.len
 by_cases hfe:fn=[]
 ·subst hfe
  refine brF rfl ?_
  refine WS.forget (σ':=(a,.lst (fo.map row))::σ) (List.sublist_append_right _ _) ?_
  refine WS.cons (W1.ret (WE.freeze ?_))
  (with_reducible refine WE.base (by assumption) ?_;refine WE.go (by assumption) ?_);refine Sp.mk ?_
  have I:=Inv.at (once:=once) hlen j
  rw [<-hfn,<-hfo] at I
  obtain ⟨i1,i2⟩:=I.done
  exact ⟨a,_,[],σ,rfl,rfl,Sp.mk (h fo i1 i2 (by rw [hfo];exact F.found j))⟩
 ·have hfb:fn.isEmpty=false:=by cases fn with
   | nil=>exact absurd rfl hfe
   | cons=>rfl
  have hjK:j<Kk:=by
   rcases Nat.lt_or_ge j Kk with q| q
   ·exact q
   ·exact absurd (hfn.trans (hK j q)) hfe
  have hrow:∀x∈fn,x.length=n:=fun x hx=>by
   have I:=Inv.at (once:=once) hlen j
   rw [<-hfn] at I
   obtain ⟨⟨R,hR⟩,_⟩:=I.reach x hx
   exact hR.row.len
  have hfoL:∀x∈fo,x.length=n:=fun x hx=>by
   have I:=Inv.at (once:=once) hlen j
   rw [<-hfo] at I
   exact (I.least x hx).1.row.len
  have s1:=F.front j
  rw [<-hfn] at s1
  have s2:=F.found (j+1)
  have s3:=F.front (j+1)
  have e1:(stF E n once (j+1)).1=J7 E fo fn:=by rw [hfo,hfn];rfl
  have e2:(stF E n once (j+1)).2=YG E n once fo fn:=by rw [hfo,hfn];rfl
  rw [e1] at s2
  rw [e2] at s3
  refine brT (by rw [hfb];rfl) ?_
  refine WS.forget (σ':=(a,.lst (fo.map row))::σ) (List.sublist_append_right _ _) ?_
  (with_reducible refine WS.base (by assumption) ?_;refine WS.goN (by assumption) ?_);refine Sp.mk ?_
  refine .inr fun b hb=> ?_
  refine Sp.mk ?_
  refine WIv.seqA rfl (sd:=.lst _) row hh rfl trivial ?_
  refine Loop.of (fun i m' σ'=>σ'=(b,.lst (((fn.take i).filter (jA E)).map row))::(a,.lst ((fo++(fn.take i).filter fun r=> !jA E r).map row))::σ/\Hs m' (("open_rows",.ref b)::fwV E n once a)) (fun _ _=>Jc (by walk_at "k2")) ⟨by simp,Hs.lit rfl⟩ (fun _ _ _ _=>trivial) (fun i w m' σ' hk hL fr'=> ?_) (fun m' σ' hL=> ?_)
  ·obtain ⟨rfl,hv⟩:=hL
   have hw:=List.mem_of_getElem? hk
   have hlt:i<fn.length:=(List.getElem?_eq_some_iff.mp hk).1
   (with_reducible refine WS.base (Hs.both (by assumption) _) ?_;refine WS.goN (by assumption) ?_);refine Sp.mk ?_
   refine WF.at (uv T hr hl (.inl ?_)) (by decide)
   refine Sp.mk ?_
   refine WIv.seqA rfl (sd:=.lst _) D.int hh rfl trivial (Turns.map (fun x=>.bool (x !=0)) (fun _ _=>loc1 rfl) trivial (by simp only [wor];walk_at "z") (fun x hx fr' cenv hc=> ?_) (.inl ?_))
   ·have g:=g.at (jl hc hs)
    (with_reducible refine WE.go (by assumption) ?_);refine Sp.mk ?_
    exact ⟨rfl,rfl⟩
   refine Sp.mk ?_
   refine At1.any (sd:=.lst _) (l:=(wor E w).map (· !=0)) hh (by simp [SD.ds,Function.comp_def]) trivial ?_
   skip
   have eo:((wor E w).map (· !=0)).any id=jA E w:=by simp [jA,List.any_map,Function.comp_def]
   rw [eo,jN hk,List.filter_append,List.filter_append]
   by_cases ho:jA E w=true
   ·have f1:[w].filter (jA E)=[w]:=by simp [ho]
    have f2:[w].filter (fun r=> !jA E r)=[]:=by simp [ho]
    rw [f1,f2,List.append_nil,ho]
    refine Sp.mk ?_
    refine ⟨.ref b _,rfl,rfl,List.mem_cons_self,?_⟩
    refine Sp.mk ?_
    have hle:((fn.take i).filter (jA E)).length<=i:=Nat.le_trans (List.length_filter_le _ _) (by simp;exact z648)
    refine At1.append (σ1:=[]) (by walk_at "z") ?_
    refine Sp.mk ?_
    refine ⟨by simp,Hs.lit rfl⟩
   ·have ho:jA E w=false:=by simpa using ho
    have f1:[w].filter (jA E)=[]:=by simp [ho]
    have f2:[w].filter (fun r=> !jA E r)=[w]:=by simp [ho]
    rw [f1,f2,List.append_nil,ho]
    refine Sp.mk ?_
    refine ⟨.ref a _,rfl,rfl,List.mem_cons_of_mem _ List.mem_cons_self,?_⟩
    refine Sp.mk ?_
    have hle:fo.length+((fn.take i).filter fun r=> !jA E r).length<=16000000:=by
     unfold J7 at s2
     rw [List.length_append] at s2
     have:=(List.Sublist.filter (fun r=> !jA E r) (List.take_sublist i fn)).length_le
     exact z805 s2 this
    refine At1.append (σ1:=[(b,_)]) (by walk_at "z") ?_
    refine Sp.mk ?_
    refine ⟨by simp,Hs.lit rfl⟩
  ·obtain ⟨rfl,hv⟩:=hL
   rw [List.take_length]
   (with_reducible refine WS.base (by assumption) ?_;refine WS.goK (by assumption) ?_);refine Sp.mk ?_;(with_reducible refine WE.go (by assumption) ?_);refine Sp.mk ?_
   have e3:fo++fn.filter (fun r=> !jA E r)=J7 E fo fn:=rfl
   rw [e3]
   have hfd:∀x∈J7 E fo fn,x.length=n:=fun x hx=>by
    rcases List.mem_append.mp hx with z| z
    ·exact hfoL x z
    ·exact hrow x (List.mem_filter.mp z).1
   have s4:((JQ E n once (J7 E fo fn) (fn.filter (jA E))).foldl ins []).length<=16000000:=s3
   have hop:∀x∈fn.filter (jA E),x.length=n:=fun x hx=>hrow x (List.mem_filter.mp hx).1
   have hopl:(fn.filter (jA E)).length<=16000000:=Nat.le_trans (List.length_filter_le _ _) s1
   have e4:YG E n once fo fn=(JQ E n once (J7 E fo fn) (fn.filter (jA E))).foldl ins []:=rfl
   generalize J7 E fo fn=fd at*
   generalize fn.filter (jA E)=op at*
   refine WE.dict0 T.good fun e he=> ?_
   refine Sp.mk ?_;refine Sp.mk ?_
   refine WIv.seqA rfl (sd:=.ref b _) row hh rfl (List.mem_cons_of_mem _ List.mem_cons_self) ?_
   refine Loop.of (fun i m' σ'=>σ'=(e,.rows ((JQ E n once fd (op.take i)).foldl ins []))::(b,.lst (op.map row))::(a,.lst (fd.map row))::σ/\Hs m' (("open_rows",.ref b)::("later",.ref e)::fwV E n once a)) (fun _ _=>Jc (by walk_at "k2")) ⟨by simp [JQ],Hs.lit rfl⟩ (fun _ _ _ hL=>by rw [hL.1];exact List.mem_cons_of_mem _ List.mem_cons_self) (fun i w m' σ' hk hL fr'=> ?_) (fun m' σ' hL=> ?_)
   ·obtain ⟨rfl,hv⟩:=hL
    have hw:=List.mem_of_getElem? hk
    have hwl:=hop w hw
    have hlt:i<op.length:=(List.getElem?_eq_some_iff.mp hk).1
    (with_reducible refine WS.base (Hs.both (by assumption) _) ?_;refine WS.goN (by assumption) ?_);refine Sp.mk ?_
    refine WF.at (uv T hr hl (.inl ?_)) (by decide)
    refine Sp.mk ?_
    refine ⟨z653,z801 hn,?_⟩
    simp only [Int.toNat_natCast]
    refine Loop.of (fun p m' σ'=>σ'=(e,.rows ((JQ E n once fd (op.take i)++((List.range n).take p).filterMap fun q=>cand E n once fd w q).foldl ins []))::(b,.lst (op.map row))::(a,.lst (fd.map row))::σ/\Hs m' (("open_rows",.ref b)::("later",.ref e)::("worth",il (wor E w))::("row",row w)::fwV E n once a)) (fun _ _=>Jc (by walk_at "k2")) ⟨by simp,Hs.lit rfl⟩ (fun _ _ _ hL=>trivial) (fun p pl m' σ' hp hL fr'=> ?_) (fun m' σ' hL=> ?_)
    ·obtain ⟨rfl,hv⟩:=hL
     have hpl:p<n:=by have:=(List.getElem?_eq_some_iff.mp hp).1;simpa using this
     have hpe:pl=p:=by rw [List.getElem?_range hpl] at hp;cases hp;rfl
     subst hpe
     (with_reducible refine WS.base (Hs.both (by assumption) _) ?_;refine WS.goN (by assumption) ?_);refine Sp.mk ?_
     refine WF.at (Wo T hn ?_) (by decide)
     refine Sp.mk ?_
     refine WF.at (Wp T (z807 hn hwl) ?_) (by decide)
     refine Sp.mk ?_;(with_reducible refine WS.goK (by assumption) ?_);refine Sp.mk ?_
     have tk:(List.range n).take (pl+1)=(List.range n).take pl++[pl]:=jN (by rw [List.getElem?_range hpl])
     have hfl:(addR w (jj n pl)).length=n:=yM hwl (jx _ _)
     have hlast:(SD.tup ((addR w (jj n pl)).map D.int)).ds[idx (-1) (SD.tup ((addR w (jj n pl)).map D.int)).ds.length]? =some (.int ((addR w (jj n pl)).getD (n-1) 0)):=by
      simp only [SD.ds,List.length_map,idx,hfl]
      rw [if_pos (by exact z784),show ((-1:Int)+n).toNat=n-1 by exact z808,List.getElem?_map,List.getD_eq_getElem?_getD,List.getElem?_eq_getElem (z809 hpl hfl)];rfl
     refine WSb.at (sd:=.lst _) rfl trivial (by simp only [SD.ds];rw [List.getElem?_map,List.getElem?_range hpl];rfl) (z810 hn hpl) ?_
     refine Sp.mk ?_
     refine WF.at (j0P (sd:=.lst _) (sd2:=.lst _) T rfl trivial rfl trivial (fun q hq=>JV ?_) (by simp only [wor,List.length_map];exact hl) ?_) (by decide)
     ·have hq2:=(List.of_mem_zip hq).2
      unfold wor at hq2
      obtain ⟨ee,he1,he2⟩:=List.mem_map.mp hq2
      rw [<-he2,JJ (hlen ee he1) hpl]
      have hpe:pl<ee.length:=by rw [hlen ee he1];exact hpl
      rw [List.getD_eq_getElem?_getD,List.getElem?_eq_getElem hpe]
      exact (hr ee he1).1 _ (List.getElem_mem _)
     skip
     have fin:cand E n once fd w pl=none->(e,O.rows ((JQ E n once fd (op.take i)++((List.range n).take pl).filterMap fun q=>cand E n once fd w q).foldl ins []))::(b,.lst (op.map row))::(a,.lst (fd.map row))::σ=(e,.rows ((JQ E n once fd (op.take i)++((List.range n).take (pl+1)).filterMap fun q=>cand E n once fd w q).foldl ins []))::(b,.lst (op.map row))::(a,.lst (fd.map row))::σ:=fun hc=>by rw [tk,List.filterMap_append];simp [hc]
     by_cases hA:dot (wor E w) (wor E (jj n pl))<0
     ·refine brT (decide_eq_true hA) ?_
      by_cases hO:once=true->(addR w (jj n pl)).getD (n-1) 0<2
      ·refine brJ ?_ fun eo hP=> ?_
       case refine_2=>
        refine Sp.mk ?_
        refine WSb.item (sd:=.tup _) trivial z781 z782 (by simp only [SD.ds,List.length_map];exact z811 hpl hfl) hlast ?_
        exact brT (decide_eq_true (hO (by simpa using eo))) hP
       refine Sp.mk ?_
       refine WIv.seqA rfl (sd:=.ref a _) row hh rfl (List.mem_cons_of_mem _ (List.mem_cons_of_mem _ List.mem_cons_self)) (Turns.map (fun g=>.bool (inR g (addR w (jj n pl)))) (fun _ _=>loc1 rfl) (List.mem_cons_of_mem _ (List.mem_cons_of_mem _ List.mem_cons_self)) (by walk_at "z") (fun o ho fr' cenv hc=> ?_) (.inl ?_))
       ·have g:=g.at (jl hc hs)
        have:=hfd o ho
        (with_reducible refine WE.go (by assumption) ?_);refine Sp.mk ?_
        refine WF.at (j0s T (z807 hn this) ⟨rfl,rfl⟩) (by decide)
       refine Sp.mk ?_
       refine At1.any (sd:=.lst _) (l:=fd.map fun g=>inR g (addR w (jj n pl))) hh (by simp [SD.ds,Function.comp_def]) trivial ?_
       skip
       have eo:(fd.map fun g=>inR g (addR w (jj n pl))).any id=fd.any fun g=>inR g (addR w (jj n pl)):=by simp [List.any_map,Function.comp_def]
       rw [eo]
       by_cases hin:(fd.any fun g=>inR g (addR w (jj n pl)))=true
       ·rw [hin]
        have hc:cand E n once fd w pl=none:=by unfold cand;rw [if_neg (fun q=>by rw [hin] at q;exact absurd q.2.2 (by simp))]
        refine Sp.mk ?_
        exact ⟨fin hc,Hs.lit rfl⟩
       ·have hin:(fd.any fun g=>inR g (addR w (jj n pl)))=false:=by simpa using hin
        rw [hin]
        have hc:cand E n once fd w pl=some (addR w (jj n pl)):=by unfold cand;rw [if_pos ⟨hA,hO,hin⟩]
        refine Sp.mk ?_
        refine W1.setRow (n:=2) r ?_ (by with_unfolding_all rfl)
        (with_reducible refine WE.go (by assumption) ?_);refine Sp.mk ?_
        refine ⟨rfl,?_⟩
        (with_reducible refine WE.go (by assumption) ?_);refine Sp.mk ?_;(with_reducible refine WE.go (by assumption) ?_);refine Sp.mk ?_
        obtain ⟨gs,hgs⟩:=Wq (E:=E) (n:=n) (once:=once) (found:=fd) (p:=pl) hk
        refine ⟨e,_,_,[],_,rfl,rfl,rfl,?_,?_⟩
        ·rw [hgs] at s4
         exact Nat.le_trans wl (Nat.le_trans s4 (by decide))
        ·(with_reducible refine WS.goK (by assumption) ?_);refine Sp.mk ?_
         refine ⟨by rw [tk,List.filterMap_append];simp [hc,List.foldl_append],Hs.lit rfl⟩
      ·have hq:once=true/\¬(addR w (jj n pl)).getD (n-1) 0<2:=by
        cases once with
        | false=>exact absurd (fun z=>by cases z) hO
        | true=>exact ⟨rfl,fun z=>hO fun _=>z⟩
       refine brF (by rw [hq.1];rfl) ?_
       refine Sp.mk ?_
       refine WSb.item (sd:=.tup _) trivial z781 z782 (by simp only [SD.ds,List.length_map];exact z811 hpl hfl) hlast ?_
       refine brF (decide_eq_false hq.2) ?_
       refine Sp.mk ?_
       exact ⟨fin (by unfold cand;rw [if_neg fun q=>hO q.2.1]),Hs.lit rfl⟩
     ·refine brF (decide_eq_false hA) ?_
      refine Sp.mk ?_
      exact ⟨fin (by unfold cand;rw [if_neg fun q=>hA q.1]),Hs.lit rfl⟩
    ·obtain ⟨rfl,hv⟩:=hL
     (with_reducible refine WS.base (by assumption) ?_;refine WS.goK (by assumption) ?_);refine Sp.mk ?_
     refine ⟨?_,Hs.lit rfl⟩
     rw [jN hk,wm,List.take_length]
   ·obtain ⟨rfl,hv⟩:=hL
    rw [List.take_length]
    (with_reducible refine WS.base (by assumption) ?_;refine WS.goK (by assumption) ?_);refine Sp.mk ?_
    refine At1.listRows List.mem_cons_self hh (Nat.le_trans s4 (by decide)) (.inl ?_)
    refine Sp.mk ?_
    refine ⟨k-1,z812 hj hjK,j+1,[_,_],z813 hj hjK,by rw [e1];rfl,?_⟩
    rw [e2,e4];exact Hs.lit rfl
end
structure Lst (E:List (List Int))(n:Nat)(out:List (List Int)):Prop where
 srt:out.Pairwise fun x y=>jE x y=true
 mem:∀s,s∈out↔Least E n s
 few:out.length<64
theorem Lst.of {E:List (List Int)}{n:Nat}{found out:List (List Int)}(nd:found.Nodup)(hm:∀s,s∈found↔Least E n s)(hl:found.length<64)(hp:out.Perm found)(hs:out.Pairwise yu):Lst E n out where
 srt:=by
  have hn:out.Nodup:=hp.nodup_iff.mpr nd
  refine (List.pairwise_and_iff.mpr ⟨hs,hn⟩).imp fun {x y} h=> ?_
  cases q:jE x y with
  | true=>rfl
  | false=>exact absurd (JU q h.1) h.2
 mem:=fun s=>hp.mem_iff.trans (hm s)
 few:=by rw [hp.length_eq];exact hl
theorem Yu:∀{l l':List (List Int)},l.Pairwise (fun x y=>jE x y=true)->l'.Pairwise (fun x y=>jE x y=true)->(∀s,s∈l↔s∈l')->l=l'
 | [],[],_,_,_=>rfl
 | [],y::l',_,_,h=>by have:=(h y).mpr (.head _);cases this
 | x::l,[],_,_,h=>by have:=(h x).mp (.head _);cases this
 | x::l,y::l',h1,h2,h=>by
  obtain ⟨a1,b1⟩:=List.pairwise_cons.mp h1
  obtain ⟨a2,b2⟩:=List.pairwise_cons.mp h2
  have hxy:x=y:=by
   rcases List.mem_cons.mp ((h x).mp (.head _)) with e| e
   ·exact e
   ·rcases List.mem_cons.mp ((h y).mpr (.head _)) with e'| e'
    ·exact e'.symm
    ·have h3:=JT (a2 x e) (a1 y e')
     rw [Jb] at h3;cases h3
  subst hxy
  have nx:∀{m:List (List Int)},(∀z∈m,jE x z=true)->x∉m:=fun hm hx=>by have:=hm x hx;rw [Jb] at this;cases this
  rw [Yu b1 b2 fun s=>⟨fun hs=> ?_,fun hs=> ?_⟩]
  ·rcases List.mem_cons.mp ((h s).mp (.tail _ hs)) with rfl| q
   ·exact absurd hs (nx a1)
   ·exact q
  ·rcases List.mem_cons.mp ((h s).mpr (.tail _ hs)) with rfl| q
   ·exact absurd hs (nx a2)
   ·exact q
theorem Lst.eq {E:List (List Int)}{n:Nat}{l l':List (List Int)}(a:Lst E n l)(b:Lst E n l'):l=l':=Yu a.srt b.srt fun s=>(a.mem s).trans (b.mem s).symm
section
variable {c:Cx} {σ:Sto} {X:Addr->Sto->Prop} {Q:D->Sto->Prop} {K:Frag} {C:Addr}
theorem Wr {E:List (List Int)}{n:Nat}(T:Tp c B08 N08)(S:Ks c K C "System" Bd08)(F:Fits6 E n)(hr:∀r∈E,Yt r/\r.length<100)(hl:E.length<100)(hn:n<100)(h1:1<=n)
  (h:∀out:List (List Int),Lst E n out->QL Q (out.map row) σ):WM c K C (Room 4) "least" [sy C n E] σ Q X:=by
 refine WM.byA 5 (ps:=["self"]) T S rfl rfl (mbind1 fun _ _ _ _ _=>rfl) (by rfl) rfl fun A fr env g r hh hs fe=> ?_
 refine Sp.mk ?_;(with_reducible refine WE.fldA (by with_unfolding_all rfl) (by assumption) ?_ (by with_unfolding_all (intro _;rfl));refine WE.go (by assumption) ?_);refine Sp.mk ?_;(with_reducible refine kFld.rules ?_);refine Sp.mk ?_;(with_reducible refine WE.fldA (by with_unfolding_all rfl) (by assumption) ?_ (by with_unfolding_all (intro _;rfl));refine WE.go (by assumption) ?_);refine Sp.mk ?_;(with_reducible refine kFld.size ?_);refine Sp.mk ?_
 refine WF.at (j1D T F.1 hr hl hn h1 fun found nd hm _=> ?_) (by decide)
 refine Sp.mk ?_
 have hm:∀s,s∈found↔Least E n s:=fun s=>(hm s).trans ⟨fun q=>q.1,fun q=>⟨q,fun z=>by cases z⟩⟩
 skip
 have hf:=F.2 found nd fun s hs=>(hm s).mp hs
 refine WF.at (Wn T (Nat.le_of_lt (Nat.lt_trans hf (by decide))) fun out hp hs=>(h out (.of nd hm hf hp hs)).sp) (by decide)
end
section
variable {c:Cx} {σ:Sto} {X:Addr->Sto->Prop} {Q:D->Sto->Prop} {K:Frag} {C:Addr}
theorem jO {S:List Int}{k:Int}(T:Tp c B08 N08)(hS:S.length<=63)(hk:0<=k)(hk2:k<2^60)(h:Q (.int (S.getD k.toNat 0)) σ):WF c (Room 1) "_law_cell_at" [.lst (S.map .int),.int k] σ Q X:=by
 refine WF.byA 32 (ps:=["_law_script","_law_k"]) T rfl rfl (JS fun _ _ _ _ _=>rfl) (by rfl) rfl fun A fr env g r hh hs fe=> ?_
 refine Sp.mk ?_
 refine At1.lenM (sd:=.lst _) (l:=S) (F:=D.int) rfl trivial (z814 hS) ?_
 by_cases hl:k<S.length
 ·refine brT (decide_eq_true hl) ?_
  refine Sp.mk ?_
  have hi:k.toNat<S.length:=z309 hk hl
  refine WSb.item (sd:=.lst _) (d:=.int (S.getD k.toNat 0)) trivial (z815 hk) (z816 hk2) (by simp only [SD.ds,List.length_map];exact z817 hk) ?_ (Sp.mk h)
  have:¬k<0:=z729 hk
  simp [SD.ds,idx,this,hi,List.getD_eq_getElem?_getD]
 ·refine brF (decide_eq_false hl) ?_
  refine Sp.mk ?_
  have e:S.getD k.toNat 0=0:=by
   have:S.length<=k.toNat:=z818 hl
   simp [List.getD_eq_getElem?_getD,this]
  rw [e] at h
  exact h
theorem U5 {i:Int}(T:Tp c B08 N08)(h:Q (.bool true) σ):WF c (Room 1) "_law_whole" [.int i] σ Q X:=by
 refine WF.byA 33 (ps:=["_law_found"]) T rfl rfl (YV fun _ _ _ _=>rfl) (by rfl) rfl fun A fr env g r hh hs fe=> ?_
 refine Sp.mk ?_
 refine At1.isi (b:=true) (by decide) rfl ?_
 refine Sp.mk ?_
 refine At1.isi (b:=false) (by decide) rfl ?_
 refine Sp.mk ?_
 exact h
noncomputable def numS (S:List Int)(k:Int):Int:=if k+3<S.length then S.getD (k+3).toNat 0 else 7*S.getD 1 0+S.getD 2 0*k*k+13*k
theorem j1E {S:List Int}{k:Int}(T:Tp c B08 N08)(hS:S.length<=63)(hk:0<=k)(hk2:k<1099511627776)(h:Q (.int (numS S k)) σ):WF c (Room 2) "_law_number" [.lst (S.map .int),.int k] σ Q X:=by
 refine WF.byA 35 (ps:=["_law_script","_law_k"]) T rfl rfl (JS fun _ _ _ _ _=>rfl) (by rfl) rfl fun A fr env g r hh hs fe=> ?_
 refine Sp.mk ?_
 refine At1.lenM (sd:=.lst _) (l:=S) (F:=D.int) rfl trivial (z814 hS) ?_
 by_cases hl:k+3<S.length
 ·refine brT (decide_eq_true hl) ?_
  unfold numS at h
  rw [if_pos hl] at h
  refine Sp.mk ?_
  have hi:(k+3).toNat<S.length:=z819 hk hl
  refine WSb.item (sd:=.lst _) (d:=.int (S.getD (k+3).toNat 0)) trivial (z820 hk) (z821 hk2) (by simp only [SD.ds,List.length_map];exact z822 hk) ?_ (Sp.mk h)
  have:¬k+3<0:=z823 hk
  simp [SD.ds,idx,this,hi,List.getD_eq_getElem?_getD]
 ·refine brF (decide_eq_false hl) ?_
  unfold numS at h
  rw [if_neg hl] at h
  refine Sp.mk ?_
  refine WF.at (jO T hS (by decide) (by decide) ?_) (by decide)
  refine Sp.mk ?_
  refine WB.mul (jP (by decide)) ?_
  refine Sp.mk ?_
  refine WF.at (jO T hS (by decide) (by decide) ?_) (by decide)
  refine Sp.mk ?_
  refine WB.mul (JV (z824 hk2 hl)) ?_
  refine Sp.mk ?_
  refine WB.mul (JV (z824 hk2 hl)) ?_
  refine Sp.mk ?_
  refine WB.mul (jP (by decide)) ?_
  refine Sp.mk ?_
  exact h
noncomputable def szS (S:List Int):Nat:=if S.getD 0 0/12 % 24=7 then 5 else (1+S.getD 0 0 % 4).toNat
theorem j0R (S:List Int):1<=szS S/\szS S<=5:=by
 unfold szS
 split<;>omega
theorem size_ {S:List Int}(T:Tp c B08 N08)(hS:S.length<=63)(h:Q (.int (szS S)) σ):WF c (Room 2) "_law_size" [.lst (S.map .int)] σ Q X:=by
 refine WF.byA 36 (ps:=["_law_script"]) T rfl rfl (YV fun _ _ _ _=>rfl) (by rfl) rfl fun A fr env g r hh hs fe=> ?_
 unfold szS at h
 refine Sp.mk ?_
 refine WF.at (jO T hS (by decide) (by decide) ?_) (by decide)
 refine Sp.mk ?_;(with_reducible refine WS.goK (by assumption) ?_)
 by_cases h7:S.getD 0 0/12 % 24=7
 ·refine brT (show (S.getD 0 0/12 % 24==7)=true by simpa using h7) ?_
  rw [if_pos h7] at h
  refine Sp.mk ?_
  exact h
 ·refine brF (show (S.getD 0 0/12 % 24==7)=false by simpa using h7) ?_
  rw [if_neg h7] at h
  refine Sp.mk ?_
  rw [show (((1+S.getD 0 0 % 4).toNat:Nat):Int)=1+S.getD 0 0 % 4 by exact z1396] at h
  exact h
theorem UJ (n m:Nat):1<=jW n m/\jW n m<=20:=by
 unfold jW
 repeat' split
 all_goals omega
theorem most_ {n k:Nat}(T:Tp c B08 N08)(hk:k<=3)(h:Q (.int (jW n k)) σ):WF c (Room 1) "_law_most" [.int n,.int k] σ Q X:=by
 refine WF.byA 37 (ps:=["_law_size_here","_law_many"]) T rfl rfl (JS fun _ _ _ _ _=>rfl) (by rfl) rfl fun A fr env g r hh hs fe=> ?_
 unfold jW at h
 skip
 by_cases h3:n<3
 ·refine brT (decide_eq_true (z663 h3)) ?_
  rw [if_pos h3] at h
  refine Sp.mk ?_
  exact h
 refine brF (decide_eq_false (z667 h3)) ?_
 rw [if_neg h3] at h
 refine Sp.mk ?_;(with_reducible refine WS.goK (by assumption) ?_)
 by_cases h4:n=3
 ·refine brT (show ((n:Int)==3)=true by simp [h4]) ?_
  rw [if_pos h4] at h
  refine Sp.mk ?_
  refine .inl ?_
  refine Sp.mk ?_
  refine WSb.at (sd:=.lst _) (d:=.int (if k<2 then 5 else 2)) rfl trivial ?_ (z832 hk) (Sp.mk h)
  rcases ((z833 hk):k=0\/k=1\/k=2\/k=3) with rfl| rfl| rfl| rfl<;>rfl
 ·refine brF (show ((n:Int)==3)=false by simp;exact z725 h4) ?_
  rw [if_neg h4] at h
  refine Sp.mk ?_
  refine .inl ?_
  refine Sp.mk ?_
  refine WSb.at (sd:=.lst _) (d:=.int (if k<2 then 2 else 1)) rfl trivial ?_ (z832 hk) (Sp.mk h)
  rcases ((z833 hk):k=0\/k=1\/k=2\/k=3) with rfl| rfl| rfl| rfl<;>rfl
noncomputable def U6 (S:List Int):Nat:=[0,1,1,1,2,1,2,3].getD (S.getD 0 0/4 % 3+S.getD 1 0 % 6).toNat 0
theorem UK (S:List Int):U6 S<=3:=by
 unfold U6
 generalize (S.getD 0 0/4 % 3+S.getD 1 0 % 6).toNat=i
 match i with
 | 0=>decide
 | 1=>decide
 | 2=>decide
 | 3=>decide
 | 4=>decide
 | 5=>decide
 | 6=>decide
 | 7=>decide
 | i+8=>simp
inductive SysL (S:List Int)(n k:Nat)(q:Int)(a:Addr)(σ:Sto)(j:Nat)(m':Vars)(σ':Sto):Prop
 | mk (rows:List (List Int)) (hl:rows.length=j) (hj:j<=k) (hr:∀r∈rows,r.length=n/\∀x∈r,-q<=x/\x<=q) (eq:σ'=(a,.lst (rows.map il))::σ) (hv:Hs m' [("_law_found",.ref a),("_law_most_here",.int q),("_law_size_here",.int n),("_law_script",.lst (S.map D.int))]):SysL S n k q a σ j m' σ'
theorem j1F {S:List Int}(T:Tp c B08 N08)(hS:S.length<=63)
  (h:∀rows:List (List Int),rows.length=U6 S->(∀r∈rows,r.length=szS S/\∀x∈r,-(jW (szS S) (U6 S))<=x/\x<=jW (szS S) (U6 S))->Q (rl rows) σ):WF c (Room 4) "_law_system" [.lst (S.map .int)] σ Q X:=by
 refine WF.byA 38 (ps:=["_law_script"]) T rfl rfl (YV fun _ _ _ _=>rfl) (by rfl) rfl fun A fr env g r hh hs fe=> ?_
 have hn:=j0R S
 have hm:=UK S
 generalize hN:szS S=n at h hn
 refine Sp.mk ?_
 refine WF.at (size_ T hS ?_) (by decide)
 refine Sp.mk ?_
 rw [hN]
 skip
 refine .inl ?_
 refine Sp.mk ?_
 refine WF.at (jO T hS (by decide) (by decide) ?_) (by decide)
 refine Sp.mk ?_
 refine WF.at (jO T hS (by decide) (by decide) ?_) (by decide)
 refine Sp.mk ?_
 refine WSb.at (sd:=.lst _) (d:=.int (U6 S)) (k:=(S.getD 0 0/4 % 3+S.getD 1 0 % 6).toNat) ?_ trivial ?_ z834 ?_
 ·show S.getD 0 0/4 % 3+S.getD 1 0 % 6=_
  exact z1397
 ·unfold U6
  have hi:(S.getD 0 0/4 % 3+S.getD 1 0 % 6).toNat<8:=z836
  generalize (S.getD 0 0/4 % 3+S.getD 1 0 % 6).toNat=i at hi⊢
  rcases ((z837 hi):i=0\/i=1\/i=2\/i=3\/i=4\/i=5\/i=6\/i=7) with rfl| rfl| rfl| rfl| rfl| rfl| rfl| rfl<;>rfl
 generalize U6 S=k at h hm
 refine Sp.mk ?_
 refine WF.at (most_ T hm ?_) (by decide)
 refine Sp.mk ?_
 have hq:=UJ n k
 generalize jW n k=q at h hq
 skip
 refine .inr fun a ha=> ?_
 refine Sp.mk ?_
 refine ⟨z653,z697 hm,?_⟩
 rw [Int.toNat_natCast]
 refine Loop.of (SysL S n k q a σ)
  (fun _ _=>Jc (by walk_at "k2")) ⟨[],rfl,Nat.zero_le _,fun _ h=>(by cases h),rfl,Hs.lit rfl⟩ (fun _ _ _ _=>trivial) (fun j i m' σ' hi hL fr'=> ?_) (fun m' σ' hL=> ?_)
 ·obtain ⟨rows,rfl,hj,hr,rfl,hv⟩:=hL
  have hi':i=rows.length/\i<k:=by
   obtain ⟨h1,h2⟩:=List.getElem?_eq_some_iff.mp hi
   simp at h1 h2
   exact z838 h1 h2
  obtain ⟨rfl,hik⟩:=hi'
  (with_reducible refine WS.base (Hs.both (by assumption) _) ?_;refine WS.goN (by assumption) ?_);refine Sp.mk ?_
  refine ⟨z653,z674 hn.2,?_⟩
  rw [Int.toNat_natCast]
  refine Turns.map (fun p:Nat=>.int (numS S ((rows.length:Int)*n+p))) (fun _ _=>loc1 rfl) trivial (by walk_at "z") (fun p hp fr' cenv hc=> ?_) (.inl ?_)
  ·have g:=g.at (jl hc hs)
   have hp':=List.mem_range.mp hp
   (with_reducible refine WE.go (by assumption) ?_);refine Sp.mk ?_
   refine WB.mul (jP (z839 hm hj)) ?_
   refine Sp.mk ?_
   have b1:(rows.length:Int)*n<=15:=by
    have:(rows.length:Int)*n<=3*5:=Int.mul_le_mul (by exact z840 hm hj) (by omega) (by omega) (by omega)
    exact z843 this
   have b0:0<=(rows.length:Int)*n:=Int.mul_nonneg z289 z289
   refine WF.at (j1E T hS (z844 b0) (z845 b1 hp' hn.2) ?_) (by decide)
   refine Sp.mk ?_
   exact ⟨rfl,rfl⟩
  refine Sp.mk ?_
  refine ⟨.ref a _,rfl,rfl,List.mem_cons_self,?_⟩
  refine Sp.mk ?_
  refine WIv.seqA rfl (sd:=.lst _) (fun p:Nat=>.int (numS S ((rows.length:Int)*n+p))) hh rfl trivial (Turns.map (fun p=>.int (numS S ((rows.length:Int)*n+p) % (2*q+1)-q)) (fun _ _=>loc1 rfl) trivial (by walk_at "z") (fun p hp fr' cenv hc=> ?_) (.inl ?_))
  ·have g:=g.at (jl hc hs)
   (with_reducible refine WE.go (by assumption) ?_);refine Sp.mk ?_
   refine WB.mul (jP (by decide)) ?_
   refine Sp.mk ?_
   refine WB.modE (z846 hq.1) (z847 hq.1 hq.2) ?_
   refine Sp.mk ?_
   exact ⟨rfl,rfl⟩
  refine Sp.mk ?_
  refine At1.append (σ1:=[]) (by walk_at "z") ?_
  refine Sp.mk ?_
  refine ⟨rows++[(List.range n).map fun (p:Nat)=>numS S ((rows.length:Int)*n+p) % (2*q+1)-q],by simp,hik,fun r hr'=> ?_,by simp [Function.comp_def],Hs.lit rfl⟩
  rcases List.mem_append.mp hr' with z| z
  ·exact hr r z
  ·rw [List.mem_singleton.mp z]
   refine ⟨by simp,fun x hx=> ?_⟩
   obtain ⟨p,_,rfl⟩:=List.mem_map.mp hx
   have h1:=Int.emod_nonneg (numS S ((rows.length:Int)*n+p)) (show 2*q+1≠0 by exact z702)
   have h2:=Int.emod_lt_of_pos (numS S ((rows.length:Int)*n+p)) (show 0<2*q+1 by exact z846 hq.1)
   exact z703 h1 h2
 ·obtain ⟨rows,h1,h2,hr,rfl,hv⟩:=hL
  rw [List.length_range] at h1
  refine WS.cons (W1.ret (WE.freeze ?_))
  (with_reducible refine WE.base (by assumption) ?_;refine WE.go (by assumption) ?_);refine Sp.mk ?_
  exact ⟨a,_,[],σ,rfl,rfl,Sp.mk (h rows h1 hr)⟩
end
section
variable {c:Cx} {σ:Sto} {X:Addr->Sto->Prop} {Q:D->Sto->Prop} {K:Frag} {C:Addr}
theorem okW_of {n:Nat}{q:Int}{r:List Int}(h:r.length=n/\∀x∈r,-q<=x/\x<=q)(hq:q<=20):okW n r:=⟨h.1,fun x hx=>by have:=h.2 x hx;exact z594 this.1 hq this.2⟩
theorem UL {n:Nat}{r:List Int}(h:okW n r)(hn:n<=5):Yt r/\r.length<100:=⟨fun x hx=>by have:=h.2 x hx;exact z718 this.1 this.2,by have:=h.1;exact z849 this hn⟩
noncomputable def lstW (rows:List (List Int)):List (SD × List Int):=rows.map fun r=>(SD.lst (r.map D.int),r)
theorem Ws {rows:List (List Int)}:rows.map il=(lstW rows).map fun w=>w.1.d:=by unfold lstW;rw [List.map_map];rfl
theorem j0S {rows:List (List Int)}:(lstW rows).map (·.2)=rows:=by unfold lstW;rw [List.map_map];exact List.map_id _
theorem uw {rows:List (List Int)}:(lstW rows).length=rows.length:=by simp [lstW]
theorem Yv {rows:List (List Int)}{w:SD × List Int}(h:w∈lstW rows):Ints σ w.1 w.2/\w.2∈rows:=by
 obtain ⟨p,hp,rfl⟩:=List.mem_map.mp h
 exact ⟨⟨rfl,rfl,trivial⟩,hp⟩
end
section
variable {c:Cx} {σ:Sto} {X:Addr->Sto->Prop} {Q:D->Sto->Prop} {K:Frag} {C:Addr}
theorem rows_ {sd:SD}{l:List (List Int)}{n:Nat}(T:Tp c B08 N08)(hL:sd.isL=true)(inv:sd.inv σ)(hd:sd.ds=l.map row)(hl:∀r∈l,r.length=n)(hn:n<100)(h:Q (.bool true) σ):WF c (Room 2) "_law_rows" [sd.d,.int n] σ Q X:=by
 refine WF.byA 34 (ps:=["_law_found","_law_size_here"]) T rfl rfl (JS fun _ _ _ _ _=>rfl) (by rfl) rfl fun A fr env g r hh hs fe=> ?_
 refine Sp.mk ?_
 refine At1.isiL hL inv ?_
 refine Sp.mk ?_
 refine WIv.seqA rfl row hh hd inv ?_
 refine Loop.of (fun k m' σ'=>σ'=σ/\Hs m' [("_law_size_here",.int n)]) (fun _ _=>Jc (by walk_at "k2")) ⟨rfl,Hs.lit rfl⟩ (fun _ _ _ hL=>by rw [hL.1];exact inv) (fun k w m' σ' hk hL fr'=> ?_) (fun m' σ' hL=> ?_)
 ·obtain ⟨rfl,hv⟩:=hL
  have hw:=hl w (List.mem_of_getElem? hk)
  (with_reducible refine WS.base (Hs.both (by assumption) _) ?_;refine WS.goN (by assumption) ?_);refine Sp.mk ?_
  refine At1.isi (b:=true) (by decide) rfl ?_
  refine Sp.mk ?_
  refine At1.len (sd:=.tup _) trivial (by simp only [SD.ds,List.length_map];exact z626 hn hw) ?_
  skip
  rw [show ((SD.tup (w.map D.int)).ds.length:Int)=n by simp [SD.ds,hw]]
  skip
  refine brF (show ((n:Int) !=n)=false by simp) ?_
  refine Sp.mk ?_
  refine WIv.seqA rfl (sd:=.tup _) D.int hh rfl trivial ?_
  refine Loop.of (fun k m' σ''=>σ''=σ'/\Hs m' [("_law_size_here",.int n)]) (fun _ _=>Jc (by walk_at "k2")) ⟨rfl,Hs.lit rfl⟩ (fun _ _ _ hL=>trivial) (fun k x m' σ'' hk hL fr'=> ?_) (fun m' σ'' hL=> ?_)
  ·obtain ⟨rfl,hv⟩:=hL
   (with_reducible refine WS.base (Hs.both (by assumption) _) ?_;refine WS.goN (by assumption) ?_);refine Sp.mk ?_
   refine WF.at (U5 T ?_) (by decide)
   refine Sp.mk ?_
   exact ⟨rfl,Hs.lit rfl⟩
  ·obtain ⟨rfl,hv⟩:=hL
   (with_reducible refine WS.base (by assumption) ?_;refine WS.goK (by assumption) ?_);refine Sp.mk ?_
   exact ⟨rfl,Hs.lit rfl⟩
 ·obtain ⟨rfl,hv⟩:=hL
  (with_reducible refine WS.base (by assumption) ?_;refine WS.goK (by assumption) ?_);refine Sp.mk ?_
  exact h
theorem key_ {xs:List Int}(T:Tp c B08 N08)(h:Q (keyD xs) σ):WF c (Room 1) "_law_key" [row xs] σ Q X:=by
 refine WF.byA 42 (ps:=["_law_row"]) T rfl rfl (YV fun _ _ _ _=>rfl) (by rfl) rfl fun A fr env g r hh hs fe=> ?_
 refine Sp.mk ?_
 refine At1.sum (sd:=.tup _) (l:=xs) hh rfl trivial ?_
 refine Sp.mk ?_
 exact h
end
noncomputable abbrev ux:Addr:=104
structure UpL (E:List (List Int))(n:Nat)(b:Int)(out:List (List Int)):Prop where
 srt:out.Pairwise fun x y=>jE x y=true
 mem:∀v,v∈out↔UpTo E n b v
theorem UpL.eq {E:List (List Int)}{n:Nat}{b:Int}{l l':List (List Int)}(x:UpL E n b l)(y:UpL E n b l'):l=l':=Yu x.srt y.srt fun s=>(x.mem s).trans (y.mem s).symm
theorem UpL.of {E:List (List Int)}{n:Nat}{b:Int}{l out:List (List Int)}(nd:l.Nodup)(hm:∀v,v∈l↔UpTo E n b v)(hp:out.Perm l)(hs:out.Pairwise yu):UpL E n b out where
 srt:=by
  have hn:out.Nodup:=hp.nodup_iff.mpr nd
  refine (List.pairwise_and_iff.mpr ⟨hs,hn⟩).imp fun {x y} h=> ?_
  cases q:jE x y with
  | true=>rfl
  | false=>exact absurd (JU q h.1) h.2
 mem:=fun s=>hp.mem_iff.trans (hm s)
theorem Uj {s:List Int}{b:Int}(hne:s≠[]):maxL s<=b↔∀x∈s,x<=b:=by
 have mono:∀(l:List Int) (a:Int),l.foldl max a<=b↔a<=b/\∀x∈l,x<=b:=by
  intro l
  induction l with
  | nil=>intro a;simp
  | cons y l ih=>
   intro a
   rw [List.foldl_cons,ih]
   constructor
   ·rintro ⟨h1,h2⟩
    refine ⟨z1403 h1,fun x hx=> ?_⟩
    rcases List.mem_cons.mp hx with rfl| hx
    ·exact z1404 h1
    ·exact h2 x hx
   ·rintro ⟨h1,h2⟩
    have:=h2 y (.head _)
    exact ⟨z1405 h1 this,fun x hx=>h2 x (.tail _ hx)⟩
 cases s with
 | nil=>exact absurd rfl hne
 | cons a l=>
  show l.foldl max a<=b↔_
  rw [mono]
  constructor
  ·rintro ⟨h1,h2⟩ x hx
   rcases List.mem_cons.mp hx with rfl| hx
   ·exact h1
   ·exact h2 x hx
  ·exact fun h=>⟨h a (.head _),fun x hx=>h x (.tail _ hx)⟩
theorem Row.ne {n:Nat}{s:List Int}(h:Row n s)(hn:1<=n):s≠[]:=fun e=>by have:=h.len;rw [e] at this;simp at this;exact z728 this hn
theorem UM {n:Nat}{s:List Int}{b:Int}(h:Row n s)(hn:1<=n)(hb:0<=b):maxL s<=b↔∀i,s.getD i 0<=b:=by
 rw [Uj (h.ne hn)]
 constructor
 ·intro q i
  by_cases hi:i<s.length
  ·exact q _ (jX hi)
  ·rw [List.getD_eq_getElem?_getD,List.getElem?_eq_none (z12 hi)];exact hb
 ·intro q x hx
  obtain ⟨i,_,e⟩:=YX hx
  rw [<-e];exact q i
section
variable {c:Cx} {σ:Sto} {X:Addr->Sto->Prop} {Q:D->Sto->Prop} {K Kx:Frag} {C:Addr}
theorem W1.forget {A:Around}{fr:List Addr}{env:Env}{m:Vars}{σ':Sto}{N:Vars->Sto->Prop}{R:D->Sto->Prop}{st:Stmt}(hs:σ'.Sublist σ)(h:W1 c A fr env m σ' st N R X):W1 c A fr env m σ st N R X:=fun s ok fm=>
 W.from (h s (ok.sub hs) (fm.turn fun x d e=>⟨d,e,fun v hv=>V.move Stay.refl (JG hs _) _ _ hv⟩)) hs
theorem j0t {n:Nat}(T:Tp c B08 N08)(hn:n<100)(h:Q (row (List.replicate n 0)) σ):WF c (Room 1) "noughts" [.int n] σ Q X:=by
 refine WF.byA 11 (ps:=["size"]) T rfl rfl (YV fun _ _ _ _=>rfl) (by rfl) rfl fun A fr env g r hh hs fe=> ?_
 refine Sp.mk ?_
 refine ⟨z653,z801 hn,?_⟩
 rw [Int.toNat_natCast]
 refine Turns.map (fun _=>.int 0) (fun _ _=>loc1 rfl) trivial (by walk_at "z") (fun x hx fr' cenv hc=> ?_) (.inl ?_)
 ·have g:=g.at (jl hc hs)
  (with_reducible refine WE.go (by assumption) ?_);refine Sp.mk ?_
  exact ⟨rfl,rfl⟩
 ·refine Sp.mk ?_
  refine At1.tuple (sd:=.lst _) trivial (by walk_at "z") ?_
  simp only [SD.ds]
  rw [show (List.range n).map (fun _=>D.int 0)=(List.replicate n (0:Int)).map D.int by simp [List.map_const']]
  refine Sp.mk ?_
  exact h
inductive UpW (E out:List (List Int))(n b:Nat)(fa ka:Addr)(σ:Sto)(k:Nat)(m':Vars)(σ':Sto):Prop
 | mk (known front:List (List Int)) (D:Dfs E n b out known front) (hk:known.length<=300) (hf:front.length<=known.length) (e:k=2*(300-known.length)+front.length) (eq:σ'=(fa,.lst (front.map row))::(ka,.rows known)::σ) (hv:Hs m' [("known",.ref ka),("front",.ref fa),("steps",.lst (out.map row)),("bound",.int b)]):UpW E out n b fa ka σ k m' σ'
inductive UpI (E out:List (List Int))(n b:Nat)(x:List Int)(fa ka:Addr)(k0:Nat)(σ:Sto)(i:Nat)(m':Vars)(σ':Sto):Prop
 | mk (known front:List (List Int)) (M:Mid E n b out known front x (out.take i)) (hk:known.length<=300) (hf:front.length<=known.length) (e:2*(300-known.length)+front.length<k0) (eq:σ'=(fa,.lst (front.map row))::(ka,.rows known)::σ) (hv:Hs m' [("row",row x),("known",.ref ka),("front",.ref fa),("steps",.lst (out.map row)),("bound",.int b)]):UpI E out n b x fa ka k0 σ i m' σ'
theorem up_to_ {E due:List (List Int)}{n b:Nat}(T:Tp c B08 N08)(G:Gi c G08)(S:Ks c K C "System" Bd08)(Ex:Xs c Kx E08)(ra:Rai c "TooMany")(F6:Fits6 E n)(hr:∀r∈E,Yt r/\r.length<100)(hl:E.length<100)(hn:n<100)(h1:1<=n)(hb:b<=60)(U:UpL E n b due)
  (h:due.length<=300->QL Q (due.map row) σ) (hx:300<due.length->X ux σ):WM c K C (Room 6) "up_to" [sy C n E,.int b] σ Q X:=by
 refine WM.byG 7 (ps:=["self","bound"]) T G S rfl rfl (mbind2 fun _ _ _ _ _ _=>rfl) (by rfl) rfl fun A fr env g r hh hs fe=> ?_
 have m2:Mth K C "least":=Mth.byA 5 S rfl rfl
 refine Sp.mk ?_
 refine WF.at (Ys T (decide_eq_true (z1406 hb)) ?_) (by decide)
 refine Sp.mk ?_;(with_reducible refine WE.mthA (by with_unfolding_all rfl) (by assumption) (by assumption) (by assumption) ?_ (by with_unfolding_all decide) (by with_unfolding_all decide) (by with_unfolding_all rfl) (by with_unfolding_all (intro _;rfl)) (by with_unfolding_all rfl) (by with_unfolding_all rfl);refine WE.go (by assumption) ?_);refine Sp.mk ?_;(with_reducible refine kMeth.mk ?_;refine WA.go (by assumption) ?_);refine Sp.mk ?_
 refine WM.at (Wr T S F6 hr hl hn h1 fun out L=>.inl ?_) (by decide)
 have few:=L.few
 refine Sp.mk ?_;(with_reducible refine WE.fldA (by with_unfolding_all rfl) (by assumption) ?_ (by with_unfolding_all (intro _;rfl));refine WE.go (by assumption) ?_);refine Sp.mk ?_;(with_reducible refine kFld.size ?_);refine Sp.mk ?_
 refine WF.at (j0t T hn ?_) (by decide)
 refine Sp.mk ?_;(with_reducible refine WE.go (by assumption) ?_);refine Sp.mk ?_
 refine WE.dict1 r T.good fun ka hka=> ?_
 (with_reducible refine WE.go (by assumption) ?_);refine Sp.mk ?_;(with_reducible refine WE.go (by assumption) ?_);refine Sp.mk ?_
 refine ⟨_,rfl,rfl,rfl,?_⟩
 refine Sp.mk ?_;refine Sp.mk ?_
 refine .inr fun fa hfa=> ?_
 have hne:fa≠ka:=fun e=>hfa (by rw [e];exact List.mem_cons_self)
 refine Sp.mk ?_
 refine W1.whileA rfl fe (UpW E out n b fa ka σ) _ ⟨[List.replicate n 0],[List.replicate n 0],Dfs.start z289,by simp,by simp,rfl,rfl,Hs.lit rfl⟩ fun k m' σ' hL=> ?_
 obtain ⟨known,front,Df,hk3,hf3,rfl,rfl,hv⟩:=hL
 (with_reducible refine WT.base (by assumption) ?_;refine WT.go (by assumption) ?_);refine Sp.mk ?_
 refine .inl ?_
 refine Sp.mk ?_
 refine WB.neD r (.ref (n:=3) List.mem_cons_self PyAll.rows) (.of (Py.lst (n:=1) .nil)) ?_
 refine Sp.mk ?_
 rw [j0Q]
 rcases List.eq_nil_or_concat front with rfl| ⟨fs,x,rfl⟩
 ·refine brF rfl ?_
  show WS _ _ _ _ _ _ _ _ _ _
  refine WS.cons (W1.ret (WE.shed ?_))
  (with_reducible refine WE.base (by assumption) ?_;refine WE.go (by assumption) ?_);refine Sp.mk ?_
  have hm:∀v,v∈known↔UpTo E n b v:=Df.full L.mem
  refine At1.listRows (List.mem_cons_of_mem _ List.mem_cons_self) hh (Nat.le_trans hk3 (by decide)) (.inl ?_)
  refine Sp.mk ?_
  refine WF.at (Wn T (Nat.le_trans hk3 (by decide)) fun o hp hso=> ?_) (by decide)
  have eo:o=due:=(UpL.of Df.nd hm hp hso).eq U
  subst eo
  have hh300:=h (by rw [hp.length_eq];exact hk3)
  rcases hh300 with q| q
  ·exact .inl (Sp.mk ⟨σ,List.sublist_append_right [_,_] σ,Sp.mk q⟩)
  ·exact .inr fun a ha=>Sp.mk ⟨(a,.lst (o.map row))::σ,(List.sublist_append_right [_,_] σ).cons_cons _,Sp.mk (q a fun z=>ha (List.mem_cons_of_mem _ (List.mem_cons_of_mem _ z)))⟩
 ·refine brT (by cases fs<;>rfl) ?_
  rw [List.concat_eq_append] at Df⊢
  (with_reducible refine WS.base (by assumption) ?_;refine WS.goN (by assumption) ?_);refine Sp.mk ?_;(with_reducible refine WE.go (by assumption) ?_);refine Sp.mk ?_
  refine WE.methL F.slot_list_pop F.type_list_pop ?_ (hp:=by with_unfolding_all rfl) (hb:=by with_unfolding_all (intro _;rfl)) (hl:=by with_unfolding_all rfl) (hn:=by with_unfolding_all rfl)
  (with_reducible refine WE.go (by assumption) ?_);refine Sp.mk ?_
  refine ⟨.ref fa _,rfl,rfl,List.mem_cons_self,?_⟩
  (with_reducible refine WA.go (by assumption) ?_);refine Sp.mk ?_
  rw [List.concat_eq_append,List.length_append,List.length_singleton] at hf3
  simp only [List.map_append,List.map_cons,List.map_nil]
  refine At1.pop (σ1:=[]) (by simp only [List.length_map,sizeLine];exact z1407 hf3 hk3) ?_
  simp only [List.nil_append]
  refine Sp.mk ?_;refine Sp.mk ?_
  have hxl:=(Df.up x (Df.inn x (by simp))).row.len
  refine WIv.seqA rfl (sd:=.lst _) row hh rfl trivial ?_
  refine Loop.of (UpI E out n b x fa ka (2*(300-known.length)+(fs++[x]).length) σ) (fun _ _=>Jc (by walk_at "k2")) ⟨known,fs,by simpa using Df.mid,hk3,z32 hf3,by simp,rfl,Hs.lit rfl⟩ (fun _ _ _ _=>trivial) (fun i s m2 σ2 hi hL fr'=> ?_) (fun m2 σ2 hL=> ?_)
  ·obtain ⟨kn,fr2,M,hk4,hf4,hms,rfl,hv2⟩:=hL
   have hs:=List.mem_of_getElem? hi
   have ls:=(L.mem s).mp hs
   have hsl:=ls.row.len
   (with_reducible refine WS.base (Hs.both (by assumption) _) ?_;refine WS.goN (by assumption) ?_);refine Sp.mk ?_
   refine WF.at (Wp T (z807 hn hxl) ?_) (by decide)
   refine Sp.mk ?_;(with_reducible refine WS.goK (by assumption) ?_);refine Sp.mk ?_
   have ru:Row n (addR x s):=(M.up x M.here).row.add ls.row
   have eu:Even E (addR x s):=(M.up x M.here).even.add (by rw [hxl,hsl]) ls.even
   have et:out.take (i+1)=out.take i++[s]:=jN hi
   refine At1.max (sd:=.tup _) (l:=addR x s) hh rfl (ru.ne h1) trivial ?_
   skip
   by_cases hq:maxL (addR x s)<=(b:Int)
   ·refine brT (decide_eq_true hq) ?_
    have ut:UpTo E n b (addR x s):=⟨ru,eu,(UM ru h1 z289).mp hq⟩
    refine Sp.mk ?_
    refine WB.notInRows r (List.mem_cons_of_mem _ List.mem_cons_self) ?_
    skip
    by_cases hin:addR x s∈kn
    ·refine brF (by rw [decide_eq_true hin];rfl) ?_
     refine Sp.mk ?_
     exact ⟨kn,fr2,by rw [et];exact M.old fun _=>hin,hk4,hf4,hms,rfl,Hs.lit rfl⟩
    ·refine brT (by rw [decide_eq_false hin];rfl) ?_
     refine Sp.mk ?_
     refine W1.setRow (n:=5) r ?_ (by with_unfolding_all rfl)
     (with_reducible refine WE.go (by assumption) ?_);refine Sp.mk ?_
     refine ⟨rfl,?_⟩
     (with_reducible refine WE.go (by assumption) ?_);refine Sp.mk ?_;(with_reducible refine WE.go (by assumption) ?_);refine Sp.mk ?_
     refine ⟨ka,_,_,[_],_,rfl,rfl,rfl,Nat.le_trans hk4 (by decide),?_⟩
     rw [show ins kn (addR x s)=kn++[addR x s] from if_neg hin]
     simp only [List.cons_append,List.nil_append]
     (with_reducible refine WS.goK (by assumption) ?_);refine Sp.mk ?_
     refine ⟨.ref fa _,rfl,rfl,List.mem_cons_self,?_⟩
     refine Sp.mk ?_
     refine At1.append (σ1:=[]) (by simp only [List.length_map,sizeLine];exact z1408 hk4 hf4) ?_
     simp only [List.nil_append]
     refine Sp.mk ?_;(with_reducible refine WS.goK (by assumption) ?_);refine Sp.mk ?_
     have kl:(kn++[addR x s]).length=kn.length+1:=by simp
     have Mn:=M.new ut hin
     refine At1.lenRows (rs:=kn++[addR x s]) (List.mem_cons_of_mem _ List.mem_cons_self) (z1409 kl hk4) ?_
     skip
     by_cases h3:(300:Int)<((kn++[addR x s]).length:Int)
     ·refine brT (decide_eq_true h3) ?_
      have hd:300<due.length:=Nat.lt_of_lt_of_le ((z1410 h3):300<(kn++[addR x s]).length) (jp Mn.nd fun v hv=>(U.mem v).mpr (Mn.up v hv))
      refine Sp.mk ?_
      refine W1.forget (List.sublist_append_right [_,_] σ) ?_
      refine W1.raiseX Ex (x:="TooMany") (by rfl) ra hh (by with_unfolding_all exact ja (by assumption) (by rfl)) ?_
      (with_reducible refine WA.go (by assumption) ?_);refine Sp.mk ?_
      exact ⟨by decide,hx hd⟩
     ·refine brF (decide_eq_false h3) ?_
      refine Sp.mk ?_
      exact ⟨_,_,by rw [et];exact Mn,z1411 h3,by simp;exact hf4,by have:=hms;simp at this⊢;exact z1412 this kl h3,by simp [row],Hs.lit rfl⟩
   ·refine brF (decide_eq_false hq) ?_
    refine Sp.mk ?_
    exact ⟨kn,fr2,by rw [et];exact M.old fun u=>absurd ((UM ru h1 z289).mpr u.most) hq,hk4,hf4,hms,rfl,Hs.lit rfl⟩
  ·obtain ⟨kn,fr2,M,hk4,hf4,hms,rfl,hv2⟩:=hL
   rw [List.take_length] at M
   (with_reducible refine WS.base (by assumption) ?_;refine WS.goK (by assumption) ?_);refine Sp.mk ?_
   exact ⟨_,hms,kn,fr2,M.done,hk4,hf4,rfl,rfl,Hs.lit rfl⟩
end
section
variable {c:Cx} {σ:Sto} {X:Addr->Sto->Prop} {Q:D->Sto->Prop} {K Kx:Frag} {C:Addr}
theorem j1G:typeOf (.type "ValueError")=pure (.type "type"):=by kernel_rfl
theorem ve_is:isType (.type "ValueError")=pure true:=by kernel_rfl
theorem Wt (T:Tp c B08 N08)(E:Xs c Kx E08)(h:Q (.str "many") σ):WF c (Room' 1) "_law_word_of" [.exc ux] σ Q X:=by
 refine WF.byH 44 T rfl (YV fun _ _ _ _=>rfl) (by rfl) rfl fun A fr env r hs fe=> ?_
 simp only [List.zip_cons_cons,List.zip_nil_left]
 with_reducible (refine WS.cons ?_;refine W1.assign ?_ (by with_unfolding_all first| exact .inl (ja (by assumption) (by rfl))| exact .inr (ja (by assumption) (by rfl))) (by with_unfolding_all rfl);refine WE.kStr ?_;refine WS.cons ?_;refine W1.ite ?_;refine WT.plain ?_ (he:=by with_unfolding_all (intro _;rfl));refine WE.callI (by assumption) (by with_unfolding_all exact ja (by assumption) (by rfl)) (by with_unfolding_all rfl) ?_ (hp:=by with_unfolding_all rfl);refine WA.cons ?_ (hp:=by with_unfolding_all rfl);refine WE.nLocal (by with_unfolding_all first| rfl| assumption| exact lk_here) (by with_unfolding_all exact ja (by assumption) (by rfl)) ?_;refine WA.cons ?_ (hp:=by with_unfolding_all rfl);refine WE.nX (by assumption) (by with_unfolding_all exact ja (by assumption) (by rfl)) (by with_unfolding_all rfl) ?_;refine WA.nil ?_)
 refine At1.isiX (x:="TooMany") (y:="BadSystem") (b:=false) E rfl rfl (by decide) (by decide) ?_
 with_reducible (refine WTr.bool ?_;refine U9 ?_;refine WS.nil ?_;refine WS.cons ?_;refine W1.ite ?_;refine WT.plain ?_ (he:=by with_unfolding_all (intro _;rfl));refine WE.callI (by assumption) (by with_unfolding_all exact ja (by assumption) (by rfl)) (by with_unfolding_all rfl) ?_ (hp:=by with_unfolding_all rfl);refine WA.cons ?_ (hp:=by with_unfolding_all rfl);refine WE.nLocal (by with_unfolding_all first| rfl| assumption| exact lk_here) (by with_unfolding_all exact ja (by assumption) (by rfl)) ?_;refine WA.cons ?_ (hp:=by with_unfolding_all rfl);refine WE.nX (by assumption) (by with_unfolding_all exact ja (by assumption) (by rfl)) (by with_unfolding_all rfl) ?_;refine WA.nil ?_)
 refine At1.isiX (x:="TooMany") (y:="BadRow") (b:=false) E rfl rfl (by decide) (by decide) ?_
 with_reducible (refine WTr.bool ?_;refine U9 ?_;refine WS.nil ?_;refine WS.cons ?_;refine W1.ite ?_;refine WT.plain ?_ (he:=by with_unfolding_all (intro _;rfl));refine WE.callI (by assumption) (by with_unfolding_all exact ja (by assumption) (by rfl)) (by with_unfolding_all rfl) ?_ (hp:=by with_unfolding_all rfl);refine WA.cons ?_ (hp:=by with_unfolding_all rfl);refine WE.nLocal (by with_unfolding_all first| rfl| assumption| exact lk_here) (by with_unfolding_all exact ja (by assumption) (by rfl)) ?_;refine WA.cons ?_ (hp:=by with_unfolding_all rfl);refine WE.nX (by assumption) (by with_unfolding_all exact ja (by assumption) (by rfl)) (by with_unfolding_all rfl) ?_;refine WA.nil ?_)
 refine At1.isiX (x:="TooMany") (y:="NotEven") (b:=false) E rfl rfl (by decide) (by decide) ?_
 with_reducible (refine WTr.bool ?_;refine U9 ?_;refine WS.nil ?_;refine WS.cons ?_;refine W1.ite ?_;refine WT.plain ?_ (he:=by with_unfolding_all (intro _;rfl));refine WE.callI (by assumption) (by with_unfolding_all exact ja (by assumption) (by rfl)) (by with_unfolding_all rfl) ?_ (hp:=by with_unfolding_all rfl);refine WA.cons ?_ (hp:=by with_unfolding_all rfl);refine WE.nLocal (by with_unfolding_all first| rfl| assumption| exact lk_here) (by with_unfolding_all exact ja (by assumption) (by rfl)) ?_;refine WA.cons ?_ (hp:=by with_unfolding_all rfl);refine WE.nX (by assumption) (by with_unfolding_all exact ja (by assumption) (by rfl)) (by with_unfolding_all rfl) ?_;refine WA.nil ?_)
 refine At1.isiX (x:="TooMany") (y:="BadWants") (b:=false) E rfl rfl (by decide) (by decide) ?_
 with_reducible (refine WTr.bool ?_;refine U9 ?_;refine WS.nil ?_;refine WS.cons ?_;refine W1.ite ?_;refine WT.plain ?_ (he:=by with_unfolding_all (intro _;rfl));refine WE.callI (by assumption) (by with_unfolding_all exact ja (by assumption) (by rfl)) (by with_unfolding_all rfl) ?_ (hp:=by with_unfolding_all rfl);refine WA.cons ?_ (hp:=by with_unfolding_all rfl);refine WE.nLocal (by with_unfolding_all first| rfl| assumption| exact lk_here) (by with_unfolding_all exact ja (by assumption) (by rfl)) ?_;refine WA.cons ?_ (hp:=by with_unfolding_all rfl);refine WE.nX (by assumption) (by with_unfolding_all exact ja (by assumption) (by rfl)) (by with_unfolding_all rfl) ?_;refine WA.nil ?_)
 refine At1.isiX (x:="TooMany") (y:="BadBound") (b:=false) E rfl rfl (by decide) (by decide) ?_
 with_reducible (refine WTr.bool ?_;refine U9 ?_;refine WS.nil ?_;refine WS.cons ?_;refine W1.ite ?_;refine WT.plain ?_ (he:=by with_unfolding_all (intro _;rfl));refine WE.callI (by assumption) (by with_unfolding_all exact ja (by assumption) (by rfl)) (by with_unfolding_all rfl) ?_ (hp:=by with_unfolding_all rfl);refine WA.cons ?_ (hp:=by with_unfolding_all rfl);refine WE.nLocal (by with_unfolding_all first| rfl| assumption| exact lk_here) (by with_unfolding_all exact ja (by assumption) (by rfl)) ?_;refine WA.cons ?_ (hp:=by with_unfolding_all rfl);refine WE.nX (by assumption) (by with_unfolding_all exact ja (by assumption) (by rfl)) (by with_unfolding_all rfl) ?_;refine WA.nil ?_)
 refine At1.isiX (x:="TooMany") (y:="TooMany") (b:=true) E rfl rfl (by decide) (by decide) ?_
 with_reducible (refine WTr.bool ?_;refine j0Z ?_;refine WS.cons ?_;refine W1.assign ?_ (by with_unfolding_all first| exact .inl (ja (by assumption) (by rfl))| exact .inr (ja (by assumption) (by rfl))) (by with_unfolding_all rfl);refine WE.binop ?_;refine WE.nLocal (by with_unfolding_all first| rfl| assumption| exact lk_here) (by with_unfolding_all exact ja (by assumption) (by rfl)) ?_;refine WE.kStr ?_;refine WB.addS (by with_unfolding_all decide) ?_;refine WS.nil ?_;refine WS.cons ?_;refine W1.ite ?_;refine WT.plain ?_ (he:=by with_unfolding_all (intro _;rfl));refine WE.callI (by assumption) (by with_unfolding_all exact ja (by assumption) (by rfl)) (by with_unfolding_all rfl) ?_ (hp:=by with_unfolding_all rfl);refine WA.cons ?_ (hp:=by with_unfolding_all rfl);refine WE.nLocal (by with_unfolding_all first| rfl| assumption| exact lk_here) (by with_unfolding_all exact ja (by assumption) (by rfl)) ?_;refine WA.cons ?_ (hp:=by with_unfolding_all rfl);refine WE.nX (by assumption) (by with_unfolding_all exact ja (by assumption) (by rfl)) (by with_unfolding_all rfl) ?_;refine WA.nil ?_)
 refine At1.isiX (x:="TooMany") (y:="Unread") (b:=false) E rfl rfl (by decide) (by decide) ?_
 with_reducible (refine WTr.bool ?_;refine U9 ?_;refine WS.nil ?_;refine WS.cons ?_;refine W1.ite ?_;refine WT.plain ?_ (he:=by with_unfolding_all (intro _;rfl));refine WE.callI (by assumption) (by with_unfolding_all exact ja (by assumption) (by rfl)) (by with_unfolding_all rfl) ?_ (hp:=by with_unfolding_all rfl);refine WA.cons ?_ (hp:=by with_unfolding_all rfl);refine WE.nLocal (by with_unfolding_all first| rfl| assumption| exact lk_here) (by with_unfolding_all exact ja (by assumption) (by rfl)) ?_;refine WA.cons ?_ (hp:=by with_unfolding_all rfl);refine WE.nType (Tp.good (by assumption)) (by with_unfolding_all exact ja (by assumption) (by rfl)) (Tp.bn (by assumption) _ _ (by with_unfolding_all rfl)).1 (Tp.bn (by assumption) _ _ (by with_unfolding_all rfl)).2 ?_;refine WA.nil ?_)
 refine At1.isiV (x:="TooMany") (b:=true) E rfl (by decide) j1G ve_is ?_
 with_reducible (refine WTr.bool ?_;refine j0Z ?_;refine WS.cons ?_;refine W1.ret ?_;refine WE.rstrip ?_ (by with_unfolding_all rfl) (hl:=by with_unfolding_all rfl);refine WE.nLocal (by with_unfolding_all first| rfl| assumption| exact lk_here) (by with_unfolding_all exact ja (by assumption) (by rfl)) ?_)
 refine ⟨_,rfl,by with_unfolding_all decide,?_⟩
 have e:Txt.rstrip (Str.ofString ""++Str.ofString "many ")=Str.ofString "many":=by kernel_rfl
 rw [e]
 exact h
theorem Uk {E due:List (List Int)}{n b:Nat}(T:Tp c B08 N08)(G:Gi c G08)(S:Ks c K C "System" Bd08)(Ex:Xs c Kx E08)(ra:Rai c "TooMany")(F6:Fits6 E n)(hr:∀r∈E,Yt r/\r.length<100)(hl:E.length<100)(hn:n<100)(h1:1<=n)(hb:b<=60)(U:UpL E n b due)
  (h:due.length<=300->QL Q (due.map row) σ) (hx:300<due.length->Q (.str "many") σ):WF c (Room 7) "_law_told" [sy C n E,.int b] σ Q X:=by
 refine WF.by 47 T rfl (JS fun _ _ _ _ _=>rfl) (by rfl) rfl fun A fr env r hh hs fe=> ?_
 simp only [List.zip_cons_cons,List.zip_nil_left]
 have d1:Dfn c "_law_word_of":=Dfn.by 44 T rfl
 have m1:Mth K C "up_to":=Mth.by 7 S rfl
 refine WS.cons (W1.join (fun m' σ'=>False) ?_ fun m' σ' hf=>hf.elim)
 refine W1.tryAs (Xb:=fun C' σ'=>C'=ux/\σ'=σ/\300<due.length) fe Ex (by with_unfolding_all exact ja (by assumption) (by rfl)) rfl (by with_unfolding_all exact ja (by assumption) (by rfl)) ?_ fun C' σ' ⟨e1,e2,e3⟩=> ?_
 ·with_reducible (refine WS.cons ?_;refine W1.ret ?_;refine WE.mth (by assumption) (by assumption) (by assumption) ?_ (h1:=by with_unfolding_all decide) (h2:=by with_unfolding_all decide) (hp:=by with_unfolding_all rfl) (hb:=by with_unfolding_all (intro _;rfl)) (hl:=by with_unfolding_all rfl) (hn:=by with_unfolding_all rfl);refine WE.nLocal (by with_unfolding_all first| rfl| assumption| exact lk_here) (by with_unfolding_all exact ja (by assumption) (by rfl)) ?_;refine AtSys.mk ?_;refine WA.cons ?_ (hp:=by with_unfolding_all rfl);refine WE.nLocal (by with_unfolding_all first| rfl| assumption| exact lk_here) (by with_unfolding_all exact ja (by assumption) (by rfl)) ?_;refine WA.nil ?_)
  exact WM.at (up_to_ T G S Ex ra F6 hr hl hn h1 hb U h fun q=>⟨rfl,rfl,q⟩) (by decide)
 ·subst e1 e2
  refine ⟨"TooMany",up08 ux,rfl,by decide,fun e=> ?_⟩
  refine WS.cons (W1.ret (WE.callP (P:=Room' 1) T (Room.mono r (by decide)).1.mark (by with_unfolding_all exact ja (by assumption) (by rfl)) d1 ?_))
  with_reducible (refine WA.cons ?_ (hp:=by with_unfolding_all rfl);refine WE.nLocal (by with_unfolding_all first| rfl| assumption| exact lk_here) (by with_unfolding_all exact ja (by assumption) (by rfl)) ?_;refine WA.nil ?_)
  exact Wt T Ex (hx e3)
end
section
variable {c:Cx} {σ:Sto} {X:Addr->Sto->Prop} {Q:D->Sto->Prop} {K:Frag} {C:Addr}
theorem SD.inv_cons {sd:SD}{p:Addr × O}(h:sd.inv σ):sd.inv (p::σ):=by
 cases sd
 ·trivial
 ·trivial
 ·exact List.mem_cons_of_mem _ h
theorem j1H {ws:List (SD × List Int)}{xd:SD}{xs:List Int}(T:Tp c B08 N08)(hw:∀w∈ws,Yt w.2/\w.1.ds=w.2.map D.int/\w.1.inv σ)(hx:xd.ds=xs.map D.int)(hi:xd.inv σ)(hl:ws.length<100)(h:Q (.lst (ws.map fun w=>.int (dot w.2 xs))) σ):WF c (Room 1) "_law_worth" [.lst (ws.map fun w=>w.1.d),xd.d] σ Q X:=by
 refine WF.byA 39 (ps:=["_law_equations","_law_row"]) T rfl rfl (JS fun _ _ _ _ _=>rfl) (by rfl) rfl fun A fr env g r hh hs fe=> ?_
 refine Sp.mk ?_
 refine .inr fun a ha=> ?_
 refine Sp.mk ?_
 refine WIv.seqA rfl (sd:=.lst _) (fun w:SD × List Int=>w.1.d) hh rfl trivial ?_
 refine Loop.of (fun k m' σ'=>k<=ws.length/\σ'=(a,.lst ((ws.take k).map fun w=>.int (dot w.2 xs)))::σ/\Hs m' [("_law_found",.ref a),("_law_row",xd.d)]) (fun _ _=>Jc (by walk_at "k2")) ⟨Nat.zero_le _,by simp,Hs.lit rfl⟩ (fun _ _ _ _=>trivial) (fun k w m' σ' hk hL fr'=> ?_) (fun m' σ' hL=> ?_)
 ·obtain ⟨hk1,rfl,hv⟩:=hL
  obtain ⟨w1,w2,w3⟩:=hw w (List.mem_of_getElem? hk)
  have hk2:k<ws.length:=(List.getElem?_eq_some_iff.mp hk).1
  (with_reducible refine WS.base (Hs.both (by assumption) _) ?_;refine WS.goN (by assumption) ?_);refine Sp.mk ?_
  refine ⟨_,_,w.1,xd,w.2,xs,D.int,D.int,rfl,rfl,w2,hx,SD.inv_cons w3,SD.inv_cons hi,?_⟩
  refine Loop.of (fun j m'' σ'=>σ'=(a,.lst ((ws.take k).map fun w=>.int (dot w.2 xs)))::σ/\Hs m'' [("_law_found",.ref a),("_law_row",xd.d),("_law_worth_here",.int ((((w.2.zip xs).take j).map fun q=>q.1*q.2).sum))]) (fun _ _=>kinds2 (by walk_at "k2") (by walk_at "k2")) ⟨rfl,Hs.lit rfl⟩ (fun _ _ _ hL=>by rw [hL.1];exact ⟨SD.inv_cons w3,SD.inv_cons hi⟩) (fun j q m'' σ' hq hL fr'=> ?_) (fun m'' σ' hL=> ?_)
  ·obtain ⟨rfl,hv⟩:=hL
   have hq':=(List.of_mem_zip (List.mem_of_getElem? hq)).1
   (with_reducible refine WS.base (Hs.both (by assumption) _) ?_;refine WS.goN (by assumption) ?_);refine Sp.mk ?_
   refine WB.mul (jP (w1 _ hq')) ?_
   refine Sp.mk ?_
   refine ⟨rfl,?_⟩
   rw [jN hq,List.map_append,List.sum_append,List.map_singleton,List.sum_singleton]
   exact Hs.lit rfl
  ·obtain ⟨rfl,hv⟩:=hL
   rw [List.take_length] at hv
   (with_reducible refine WS.base (by assumption) ?_;refine WS.goK (by assumption) ?_);refine Sp.mk ?_
   refine ⟨.ref a _,rfl,rfl,List.mem_cons_self,?_⟩
   refine Sp.mk ?_
   refine At1.append (σ1:=[]) (by walk_at "z") ?_
   refine Sp.mk ?_
   refine ⟨hk2,?_,Hs.lit rfl⟩
   rw [jN hk,List.map_append]
   rfl
 ·obtain ⟨_,rfl,hv⟩:=hL
  rw [List.take_length]
  refine WS.cons (W1.ret (WE.freeze ?_))
  (with_reducible refine WE.base (by assumption) ?_;refine WE.go (by assumption) ?_);refine Sp.mk ?_
  exact ⟨a,_,[],σ,rfl,rfl,Sp.mk h⟩
theorem wn {rows:List (List Int)}{xd:SD}{xs:List Int}(T:Tp c B08 N08)(hr:∀r∈rows,Yt r)(hx:xd.ds=xs.map D.int)(hi:xd.inv σ)(hl:rows.length<100)(h:Q (il (rows.map fun r=>dot r xs)) σ):WF c (Room 1) "_law_worth" [rl rows,xd.d] σ Q X:=by
 have e:rl rows=.lst ((lstW rows).map fun w=>w.1.d):=by rw [<-Ws]
 rw [e]
 refine j1H T (fun w hw=> ?_) hx hi (by rw [uw];exact hl) ?_
 ·obtain ⟨h1,h2⟩:=Yv (σ:=σ) hw
  exact ⟨hr _ h2,h1.ds,h1.inv⟩
 ·rw [show ((lstW rows).map fun w=>D.int (dot w.2 xs))=(rows.map fun r=>dot r xs).map D.int by unfold lstW;rw [List.map_map,List.map_map];rfl]
  exact h
theorem j0u {rows:List (List Int)}{xs:List Int}(T:Tp c B08 N08)(hr:∀r∈rows,Yt r/\r.length<100)(hl:rows.length<100)(h:Q (.bool (rows.all fun r=>dot r xs==0)) σ):WF c (Room 2) "_law_is_even" [rl rows,row xs] σ Q X:=by
 refine WF.byA 40 (ps:=["_law_equations","_law_row"]) T rfl rfl (JS fun _ _ _ _ _=>rfl) (by rfl) rfl fun A fr env g r hh hs fe=> ?_
 refine Sp.mk ?_
 refine WF.at (wn (xd:=.tup _) (xs:=xs) T (fun r h=>(hr r h).1) rfl trivial hl ?_) (by decide)
 refine Sp.mk ?_
 refine WIv.seqA rfl (sd:=.lst _) (fun r=>.int (dot r xs)) hh (by rw [SD.ds,List.map_map];rfl) trivial ?_
 refine Loop.of (fun k m' σ'=>σ'=σ/\∀r∈rows.take k,dot r xs=0) (fun _ _=>Jc (by walk_at "k2")) ⟨rfl,fun _ h=>(by simp at h)⟩ (fun _ _ _ _=>trivial) (fun k w m' σ' hk hL fr'=> ?_) (fun m' σ' hL=> ?_)
 ·obtain ⟨rfl,e1⟩:=hL
  have hw:=List.mem_of_getElem? hk
  (with_reducible refine WS.goN (by assumption) ?_)
  by_cases h0:dot w xs=0
  ·refine brF (show (dot w xs !=0)=false by simp [h0]) ?_
   refine Sp.mk ?_
   refine ⟨rfl,fun r hr'=> ?_⟩
   rw [jN hk] at hr'
   rcases List.mem_append.mp hr' with z| z
   ·exact e1 r z
   ·rw [List.mem_singleton.mp z];exact h0
  ·refine brT (show (dot w xs !=0)=true by simp [h0]) ?_
   refine Sp.mk ?_
   have:rows.all (fun r=>dot r xs==0)=false:=by
    rw [List.all_eq_false]
    exact ⟨w,hw,by simp [h0]⟩
   rw [this] at h
   exact h
 ·obtain ⟨rfl,e1⟩:=hL
  rw [List.take_length] at e1
  (with_reducible refine WS.goK (by assumption) ?_);refine Sp.mk ?_
  have:rows.all (fun r=>dot r xs==0)=true:=by
   rw [List.all_eq_true]
   intro r hr';simp [e1 r hr']
  rw [this] at h
  exact h
noncomputable def boxU (b:Nat):Nat->List (List Int)
 | 0=>[[]]
 | k+1=>(boxU b k).flatMap fun r=>(List.range (b+1)).map fun (j:Nat)=>r++[(j:Int)]
theorem yX (b:Nat):∀k,(boxU b k).length=(b+1)^k
 | 0=>rfl
 | k+1=>by
  have:∀l:List (List Int),(l.flatMap fun r=>(List.range (b+1)).map fun (j:Nat)=>r++[(j:Int)]).length=l.length*(b+1):=fun l=>by
   induction l with
   | nil=>simp
   | cons x l ih=>rw [List.flatMap_cons,List.length_append,ih,List.length_map,List.length_range,List.length_cons,Nat.succ_mul,Nat.add_comm]
  rw [boxU,this,yX b k,Nat.pow_succ]
theorem yY (b:Nat):∀{k:Nat} {r:List Int},r∈boxU b k->Row k r/\∀x∈r,x<=b
 | 0,r,h=>by rw [List.mem_singleton.mp h];exact ⟨.of rfl nofun,nofun⟩
 | k+1,r,h=>by
  obtain ⟨w,hw,hr⟩:=List.mem_flatMap.mp h
  obtain ⟨j,hj,rfl⟩:=List.mem_map.mp hr
  obtain ⟨h1,h2⟩:=yY b hw
  have hj:=List.mem_range.mp hj
  refine ⟨j0q h1 z289,fun x hx=> ?_⟩
  rcases List.mem_append.mp hx with z| z
  ·exact h2 x z
  ·rw [List.mem_singleton.mp z];exact z1289 hj
theorem UN (b:Nat):∀{k:Nat} {r:List Int},Row k r->(∀x∈r,x<=b)->r∈boxU b k
 | 0,r,h,_=>by rw [List.length_eq_zero_iff.mp h.len];exact List.mem_singleton.mpr rfl
 | k+1,r,h,hb=>by
  have hl:=h.len
  obtain ⟨w,y,rfl⟩:∃w y,r=w++[y]:=by
   rcases List.eq_nil_or_concat r with q| ⟨w,y,q⟩
   ·rw [q] at hl;cases hl
   ·exact ⟨w,y,by rw [q,List.concat_eq_append]⟩
  have hy:=hb y (by simp)
  have hy0:=h.mem y (by simp)
  refine List.mem_flatMap.mpr ⟨w,UN b (.of (by simpa using hl) fun x hx=>h.mem x (List.mem_append_left _ hx)) fun x hx=>hb x (List.mem_append_left _ hx),List.mem_map.mpr ⟨y.toNat,List.mem_range.mpr (z401 hy),by rw [Int.toNat_of_nonneg hy0]⟩⟩
theorem YO (b:Nat):∀k,(boxU b k).Nodup
 | 0=>List.pairwise_singleton ..
 | k+1=>by
  rw [boxU,List.Nodup,List.pairwise_flatMap]
  refine ⟨fun w _=> ?_,(YO b k).imp fun {u v} h x hx y hy e=>h ?_⟩
  ·rw [List.pairwise_map]
   exact List.pairwise_lt_range.imp fun {i j} h e=>by
    have:=List.append_cancel_left e
    injection this with this
    exact j0U this h
  ·obtain ⟨i,_,rfl⟩:=List.mem_map.mp hx
   obtain ⟨j,_,rfl⟩:=List.mem_map.mp hy
   exact (List.append_inj' e rfl).1
inductive BoxA (n b:Nat)(σ:Sto)(k:Nat)(m':Vars)(σ':Sto):Prop
 | mk (hk:k<=n) (eq:σ'=σ) (hv:Hs m' [("_law_found",.lst ((boxU b k).map row)),("_law_bound",.int b)]):BoxA n b σ k m' σ'
inductive BoxB (b k:Nat)(a:Addr)(σ:Sto)(i:Nat)(m':Vars)(σ':Sto):Prop
 | mk (more:List (List Int)) (hm:more=((boxU b k).take i).flatMap fun r=>(List.range (b+1)).map fun (j:Nat)=>r++[(j:Int)]) (hn:more.length=i*(b+1)) (eq:σ'=(a,.lst (more.map row))::σ) (hv:Hs m' [("_law_more",.ref a),("_law_bound",.int b)]):BoxB b k a σ i m' σ'
inductive BoxC (b k i:Nat)(a:Addr)(w:List Int)(σ:Sto)(j:Nat)(m':Vars)(σ':Sto):Prop
 | mk (more:List (List Int)) (hj:j<=b+1) (hm:more=(((boxU b k).take i).flatMap fun r=>(List.range (b+1)).map fun (j:Nat)=>r++[(j:Int)])++((List.range (b+1)).take j).map fun (j:Nat)=>w++[(j:Int)]) (hn:more.length=i*(b+1)+j) (eq:σ'=(a,.lst (more.map row))::σ) (hv:Hs m' [("_law_more",.ref a),("_law_bound",.int b),("_law_row",row w)]):BoxC b k i a w σ j m' σ'
theorem box_ {n b:Nat}(T:Tp c B08 N08)(hb:b<=60)(hn:n<=5)(hp:(b+1)^n<=4084101)(h:Q (.lst ((boxU b n).map row)) σ):WF c (Room 1) "_law_box" [.int n,.int b] σ Q X:=by
 refine WF.byA 43 (ps:=["_law_size_here","_law_bound"]) T rfl rfl (JS fun _ _ _ _ _=>rfl) (by rfl) rfl fun A fr env g r hh hs fe=> ?_
 have pw:∀k,k<=n->(b+1)^k<=4084101:=fun k hk=>Nat.le_trans (Nat.pow_le_pow_right z1413 hk) hp
 refine Sp.mk ?_
 refine .inl ?_
 refine Sp.mk ?_
 refine ⟨z653,z674 hn,?_⟩
 rw [Int.toNat_natCast]
 refine Loop.of (BoxA n b σ) (fun _ _=>Jc (by walk_at "k2")) ⟨Nat.zero_le _,rfl,Hs.lit rfl⟩ (fun _ _ _ _=>trivial) (fun k i m' σ' hi hL fr'=> ?_) (fun m' σ' hL=> ?_)
 ·obtain ⟨hk,rfl,hv⟩:=hL
  have hk2:k<n:=by have:=(List.getElem?_eq_some_iff.mp hi).1;simpa using this
  have hp:=pw (k+1) (z665 hk2)
  have hll:=yX b k
  rw [Nat.pow_succ,<-hll] at hp
  (with_reducible refine WS.base (Hs.both (by assumption) _) ?_;refine WS.goN (by assumption) ?_);refine Sp.mk ?_
  refine .inr fun a ha=> ?_
  refine Sp.mk ?_
  refine WIv.seqA rfl (sd:=.lst _) row hh rfl trivial ?_
  refine Loop.of (BoxB b k a σ') (fun _ _=>Jc (by walk_at "k2")) ⟨[],rfl,by simp,rfl,Hs.lit rfl⟩ (fun _ _ _ _=>trivial) (fun i w m2 σ2 hw hL fr'=> ?_) (fun m2 σ2 hL=> ?_)
  ·obtain ⟨more,hm,hml,rfl,hv⟩:=hL
   have hwr:=(yY b (List.mem_of_getElem? hw)).1
   have hil:i<(boxU b k).length:=(List.getElem?_eq_some_iff.mp hw).1
   have hsz:(i+1)*(b+1)<=(boxU b k).length*(b+1):=Nat.mul_le_mul_right _ hil
   rw [Nat.succ_mul] at hsz
   (with_reducible refine WS.base (Hs.both (by assumption) _) ?_;refine WS.goN (by assumption) ?_);refine Sp.mk ?_
   refine ⟨z676,j0V hb,?_⟩
   rw [show ((b:Int)+1).toNat=b+1 by exact z678]
   refine Loop.of (BoxC b k i a w σ') (fun _ _=>Jc (by walk_at "k2")) ⟨more,Nat.zero_le _,by simp [hm],hml,rfl,Hs.lit rfl⟩ (fun _ _ _ _=>trivial) (fun j y m3 σ3 hy hL fr'=> ?_) (fun m3 σ3 hL=> ?_)
   ·obtain ⟨mo,hj,hmo,hmol,rfl,hv⟩:=hL
    have hjb:j<b+1:=by have:=(List.getElem?_eq_some_iff.mp hy).1;simpa using this
    have hwl:=hwr.len
    (with_reducible refine WS.base (Hs.both (by assumption) _) ?_;refine WS.goN (by assumption) ?_);refine Sp.mk ?_
    refine ⟨.ref a _,rfl,rfl,List.mem_cons_self,?_⟩
    refine Sp.mk ?_
    refine WB.addTs (by simp only [List.length_map,List.length_cons,List.length_nil,sizeLine];exact z679 hwl hn hk) ?_
    refine Sp.mk ?_
    refine At1.append (σ1:=[]) (by simp only [List.length_map,sizeLine];exact z680 hsz hmol hp hj) ?_
    refine Sp.mk ?_
    exact ⟨mo++[w++[(y:Int)]],hjb,by rw [hmo,jN hy,List.map_append,List.append_assoc];rfl,by rw [List.length_append,hmol];rfl,by simp [row],Hs.lit rfl⟩
   ·obtain ⟨mo,hj,hmo,hmol,rfl,hv⟩:=hL
    rw [List.take_length] at hmo
    rw [List.length_range] at hmol
    (with_reducible refine WS.base (by assumption) ?_;refine WS.goK (by assumption) ?_);refine Sp.mk ?_
    exact ⟨mo,by rw [hmo,jN hw,List.flatMap_append,List.flatMap_singleton],by rw [hmol,Nat.succ_mul],rfl,Hs.lit rfl⟩
  ·obtain ⟨more,hm,hml,rfl,hv⟩:=hL
   rw [List.take_length] at hm
   refine WS.freeze (σa:=[]) ?_
   have hv:=hv.fz (a:=a) (ds:=more.map row)
   rw [j1i] at hv
   subst hm
   (with_reducible refine WS.base (by assumption) ?_;refine WS.goK (by assumption) ?_);refine Sp.mk ?_
   exact ⟨hk2,rfl,Hs.lit rfl⟩
 ·obtain ⟨hk,rfl,hv⟩:=hL
  rw [List.length_range] at hv
  (with_reducible refine WS.base (by assumption) ?_;refine WS.goK (by assumption) ?_);refine Sp.mk ?_
  exact h
end
section
variable {c:Cx} {σ:Sto} {X:Addr->Sto->Prop} {Q:D->Sto->Prop} {K:Frag} {C:Addr}
noncomputable def JR (w0 w1 want:Int)(b i:Nat):List (List Int):=
 if w1=0 then (if want-w0*(i:Int)=0 then (List.range (b+1)).map fun j:Nat=>[(i:Int),(j:Int)] else [])
 else if (want-w0*(i:Int)).fmod w1=0/\0<=(want-w0*(i:Int)).fdiv w1/\(want-w0*(i:Int)).fdiv w1<=(b:Int) then [[(i:Int),(want-w0*(i:Int)).fdiv w1]] else []
noncomputable def JC (w0 w1 want:Int)(b k:Nat):List (List Int):=(List.range k).flatMap (JR w0 w1 want b)
theorem yB {w0 w1 want:Int}{b k:Nat}:JC w0 w1 want b (k+1)=JC w0 w1 want b k++JR w0 w1 want b k:=by
 unfold JC;rw [List.range_succ,List.flatMap_append,List.flatMap_singleton]
theorem Wu {w0 w1 want:Int}{b i:Nat}:(JR w0 w1 want b i).length<=b+1:=by
 unfold JR
 split
 ·split
  ·simp
  ·simp
 ·split<;>simp
theorem Yw {w0 w1 want:Int}{b:Nat}:∀k,(JC w0 w1 want b k).length<=k*(b+1)
 | 0=>by simp [JC]
 | k+1=>by
  have h1:=Yw (w0:=w0) (w1:=w1) (want:=want) (b:=b) k
  have h2:=Wu (w0:=w0) (w1:=w1) (want:=want) (b:=b) (i:=k)
  rw [yB,List.length_append,Nat.succ_mul];exact z1203 h1 h2
theorem YQ {w0 w1 want:Int}{b k:Nat}{l:List (List Int)}(h:JR w0 w1 want b k=l):JC w0 w1 want b (k+1)=JC w0 w1 want b k++l:=by rw [yB,h]
theorem JP {w0 w1 want:Int}{b k:Nat}(h:JR w0 w1 want b k=[]):JC w0 w1 want b (k+1)=JC w0 w1 want b k:=by rw [yB,h,List.append_nil]
inductive TwoL (w0 w1 want:Int)(b:Nat)(σ:Sto)(k:Nat)(m':Vars)(σ':Sto):Prop
 | mk (a:Addr) (σx:Sto) (hx:σ.Sublist σx) (hk:k<=b+1) (eq:σ'=(a,.lst ((JC w0 w1 want b k).map row))::σx) (hv:Hs m' [("_law_found",.ref a),("_law_weights",il [w0,w1]),("_law_want",.int want),("_law_most_here",.int b)]):TwoL w0 w1 want b σ k m' σ'
theorem two_ {w0 w1 want:Int}{b:Nat}(T:Tp c B08 N08)(hb:b<=60)(h0:w0.natAbs<100)(h1:w1.natAbs<100)(h:Q (.lst ((JC w0 w1 want b (b+1)).map row)) σ):WF c (Room 1) "_law_two" [il [w0,w1],.int want,.int b] σ Q X:=by
 refine WF.byA 45 (ps:=["_law_weights","_law_want","_law_most_here"]) T rfl rfl (WR fun _ _ _ _ _ _=>rfl) (by rfl) rfl fun A fr env g r hh hs fe=> ?_
 refine Sp.mk ?_
 refine .inr fun a0 ha0=> ?_
 refine Sp.mk ?_
 refine ⟨z676,j0V hb,?_⟩
 rw [show ((b:Int)+1).toNat=b+1 by exact z678]
 refine Loop.of (TwoL w0 w1 want b σ) (fun _ _=>Jc (by walk_at "k2")) ⟨a0,σ,.refl _,Nat.zero_le _,rfl,Hs.lit rfl⟩ (fun _ _ _ _=>trivial) (fun k i m' σ' hi hL fr'=> ?_) (fun m' σ' hL=> ?_)
 ·obtain ⟨a,σx,hx,hk,rfl,hv⟩:=hL
  have hll:=Yw (w0:=w0) (w1:=w1) (want:=want) (b:=b) k
  have hi':i=k/\k<b+1:=by
   obtain ⟨z1,z2⟩:=List.getElem?_eq_some_iff.mp hi
   simp at z1 z2
   exact z655 z1 z2
  obtain ⟨rfl,hkb⟩:=hi'
  have hkk:i*(b+1)<=60*61:=Nat.mul_le_mul (z682 hkb hb) (j0W hb)
  (with_reducible refine WS.base (Hs.both (by assumption) _) ?_;refine WS.goN (by assumption) ?_);refine Sp.mk ?_
  refine WSb.at (sd:=.lst _) (d:=.int w0) (k:=0) rfl trivial rfl (by decide) ?_
  refine Sp.mk ?_
  refine WB.mul (jP (z684 h0)) ?_
  refine Sp.mk ?_;(with_reducible refine WS.goK (by assumption) ?_);refine Sp.mk ?_
  refine WSb.at (sd:=.lst _) (d:=.int w1) (k:=1) rfl trivial rfl (by decide) ?_
  skip
  by_cases hz:w1=0
  ·refine brT (show (w1==0)=true by simpa using hz) ?_
   skip
   by_cases hl0:want-w0*(i:Int)=0
   ·refine brT (show (want-w0*(i:Int)==0)=true by simpa using hl0) ?_
    refine Sp.mk ?_
    refine ⟨z676,j0V hb,?_⟩
    rw [show ((b:Int)+1).toNat=b+1 by exact z678]
    refine Turns.map (fun j:Nat=>row [(i:Int),(j:Int)]) (fun _ _=>loc1 rfl) trivial (by walk_at "z") (fun j hj fr' cenv hc=> ?_) (.inl ?_)
    ·have g:=g.at (jl hc hs)
     (with_reducible refine WE.go (by assumption) ?_);refine Sp.mk ?_
     exact ⟨rfl,rfl⟩
    refine Sp.mk ?_
    refine WB.addL (sd1:=.ref a _) (sd2:=.lst _) rfl rfl List.mem_cons_self trivial (by simp only [SD.ds,List.length_map,List.length_range,sizeLine];exact z1401 hb hkk hll) (.inr fun a2 ha2=> ?_)
    refine Sp.mk ?_;(with_reducible refine WS.goK (by assumption) ?_);refine Sp.mk ?_
    refine WSb.at (sd:=.lst _) (d:=.int w1) (k:=1) rfl trivial rfl (by decide) ?_
    skip
    refine brF (show (w1 !=0)=false by simpa using hz) ?_
    refine Sp.mk ?_
    exact ⟨a2,_,hx.cons _,hkb,by rw [YQ (by unfold JR;rw [if_pos hz,if_pos hl0]),List.map_append,List.map_map];rfl,Hs.lit rfl⟩
   ·refine brF (show (want-w0*(i:Int)==0)=false by simpa using hl0) ?_
    refine Sp.mk ?_;(with_reducible refine WS.goK (by assumption) ?_);refine Sp.mk ?_
    refine WSb.at (sd:=.lst _) (d:=.int w1) (k:=1) rfl trivial rfl (by decide) ?_
    skip
    refine brF (show (w1 !=0)=false by simpa using hz) ?_
    refine Sp.mk ?_
    exact ⟨a,σx,hx,hkb,by rw [JP (by unfold JR;rw [if_pos hz,if_neg hl0])],Hs.lit rfl⟩
  ·refine brF (show (w1==0)=false by simpa using hz) ?_
   refine Sp.mk ?_;(with_reducible refine WS.goK (by assumption) ?_);refine Sp.mk ?_
   refine WSb.at (sd:=.lst _) (d:=.int w1) (k:=1) rfl trivial rfl (by decide) ?_
   skip
   refine brT (show (w1 !=0)=true by simpa using hz) ?_
   refine Sp.mk ?_
   refine WSb.at (sd:=.lst _) (d:=.int w1) (k:=1) rfl trivial rfl (by decide) ?_
   refine Sp.mk ?_
   refine WB.mod hz (z684 h1) ?_
   skip
   by_cases hm:(want-w0*(i:Int)).fmod w1=0
   ·refine brT (show ((want-w0*(i:Int)).fmod w1==0)=true by simpa using hm) ?_
    have hq:w1*(want-w0*(i:Int)).fdiv w1=want-w0*(i:Int):=by
     have:=Int.mul_fdiv_add_fmod (want-w0*(i:Int)) w1
     exact z36 this hm
    refine Sp.mk ?_
    refine WSb.at (sd:=.lst _) (d:=.int w1) (k:=1) rfl trivial rfl (by decide) ?_
    refine Sp.mk ?_
    refine WB.fdiv hz (z684 h1) ?_
    skip
    generalize hyd:(want-w0*(i:Int)).fdiv w1=y at hq⊢
    skip
    by_cases hy0:0<=y
    ·refine brT (decide_eq_true hy0) ?_
     skip
     by_cases hyb:y<=(b:Int)
     ·refine brT (decide_eq_true hyb) ?_
      refine Sp.mk ?_
      refine ⟨.ref a _,rfl,rfl,List.mem_cons_self,?_⟩
      refine Sp.mk ?_
      refine WSb.at (sd:=.lst _) (d:=.int w1) (k:=1) rfl trivial rfl (by decide) ?_
      refine Sp.mk ?_
      refine WB.fdiv hz (z684 h1) ?_
      refine Sp.mk ?_
      rw [hyd]
      skip
      refine At1.append (σ1:=[]) (by simp only [List.length_map,sizeLine];exact z1402 hkk hll) ?_
      refine Sp.mk ?_
      exact ⟨a,σx,hx,hkb,by rw [YQ (by unfold JR;rw [if_neg hz,hyd,if_pos ⟨hm,hy0,hyb⟩]),List.map_append];rfl,Hs.lit rfl⟩
     ·refine brF (decide_eq_false hyb) ?_
      refine Sp.mk ?_
      exact ⟨a,σx,hx,hkb,by rw [JP (by unfold JR;rw [if_neg hz,hyd,if_neg (fun q=>hyb q.2.2)])],Hs.lit rfl⟩
    ·refine brF (decide_eq_false hy0) ?_
     refine Sp.mk ?_
     exact ⟨a,σx,hx,hkb,by rw [JP (by unfold JR;rw [if_neg hz,hyd,if_neg (fun q=>hy0 q.2.1)])],Hs.lit rfl⟩
   ·refine brF (show ((want-w0*(i:Int)).fmod w1==0)=false by simpa using hm) ?_
    refine Sp.mk ?_
    exact ⟨a,σx,hx,hkb,by rw [JP (by unfold JR;rw [if_neg hz,if_neg (fun q=>hm q.1)])],Hs.lit rfl⟩
 ·obtain ⟨a,σx,hx,hk,rfl,hv⟩:=hL
  rw [List.length_range] at*
  refine WS.forget (σ':=(a,.lst ((JC w0 w1 want b (b+1)).map row))::σ) (hx.cons_cons _) ?_
  refine WS.cons (W1.ret (WE.freeze ?_))
  (with_reducible refine WE.base (by assumption) ?_;refine WE.go (by assumption) ?_);refine Sp.mk ?_
  exact ⟨a,_,[],σ,rfl,rfl,Sp.mk h⟩
end
section
variable {c:Cx} {σ:Sto} {X:Addr->Sto->Prop} {Q:D->Sto->Prop} {K:Frag} {C:Addr}
theorem twoAt_mem {w0 w1 want:Int}{b i:Nat}{r:List Int}:r∈JR w0 w1 want b i↔∃y:Int,r=[(i:Int),y]/\0<=y/\y<=(b:Int)/\w0*(i:Int)+w1*y=want:=by
 unfold JR
 by_cases hz:w1=0
 ·rw [if_pos hz]
  subst hz
  by_cases h0:want-w0*(i:Int)=0
  ·rw [if_pos h0]
   constructor
   ·intro h
    obtain ⟨j,hj,rfl⟩:=List.mem_map.mp h
    have:=List.mem_range.mp hj
    exact ⟨j,rfl,z289,z1289 this,z1290 h0⟩
   ·rintro ⟨y,rfl,y0,yb,_⟩
    exact List.mem_map.mpr ⟨y.toNat,List.mem_range.mpr (z401 yb),by rw [Int.toNat_of_nonneg y0]⟩
  ·rw [if_neg h0]
   constructor
   ·intro h;cases h
   ·rintro ⟨y,rfl,y0,yb,e⟩
    exact absurd (z1291 e h0).elim h0
 ·rw [if_neg hz]
  constructor
  ·intro h
   split at h
   ·rename_i q
    rw [List.mem_singleton.mp h]
    refine ⟨_,rfl,q.2.1,q.2.2,?_⟩
    have:=Int.mul_fdiv_add_fmod (want-w0*(i:Int)) w1
    have q1:=q.1
    exact z1292 this q.1
   ·cases h
  ·rintro ⟨y,rfl,y0,yb,e⟩
   have e1:want-w0*(i:Int)=w1*y:=z1293 e
   rw [e1,Int.mul_fdiv_cancel_left _ hz,Int.mul_fmod_right,if_pos ⟨rfl,y0,yb⟩]
   exact .head _
theorem Wv {w0 w1 want:Int}{b k:Nat}{r:List Int}:r∈JC w0 w1 want b k↔∃x y:Int,r=[x,y]/\0<=x/\x<(k:Int)/\0<=y/\y<=(b:Int)/\w0*x+w1*y=want:=by
 unfold JC
 rw [List.mem_flatMap]
 constructor
 ·rintro ⟨i,hi,h⟩
  obtain ⟨y,rfl,y0,yb,e⟩:=twoAt_mem.mp h
  have:=List.mem_range.mp hi
  exact ⟨i,y,rfl,z289,z943 this,y0,yb,e⟩
 ·rintro ⟨x,y,rfl,x0,xk,y0,yb,e⟩
  refine ⟨x.toNat,List.mem_range.mpr (z309 x0 xk),twoAt_mem.mpr ⟨y,?_,y0,yb,?_⟩⟩
  ·rw [Int.toNat_of_nonneg x0]
  ·rw [Int.toNat_of_nonneg x0];exact e
theorem even_iff {E:List (List Int)}{v:List Int}:Even E v↔∀e∈E,dot e v=0:=by
 unfold Even wor
 constructor
 ·exact fun h e he=>h _ (List.mem_map.mpr ⟨e,he,rfl⟩)
 ·rintro h x hx
  obtain ⟨e,he,rfl⟩:=List.mem_map.mp hx
  exact h e he
theorem Ul {w0 w1 want:Int}{b i:Nat}:(JR w0 w1 want b i).Nodup:=by
 unfold JR
 split
 ·split
  ·rw [List.Nodup,List.pairwise_map]
   refine List.pairwise_lt_range.imp fun {x y} h e=> ?_
   injection e with _ e
   injection e with e
   exact j0U e h
  ·exact .nil
 ·split
  ·exact List.pairwise_singleton ..
  ·exact .nil
theorem Um {w0 w1 want:Int}{b k:Nat}:(JC w0 w1 want b k).Nodup:=by
 unfold JC
 rw [List.Nodup,List.pairwise_flatMap]
 refine ⟨fun a _=>Ul,List.pairwise_lt_range.imp fun {x y} h r hr t ht e=> ?_⟩
 obtain ⟨p,rfl,_⟩:=twoAt_mem.mp hr
 obtain ⟨q,rfl,_⟩:=twoAt_mem.mp ht
 injection e with e
 exact j0U e h
theorem yo {E:List (List Int)}{n b:Nat}{v:List Int}:UpTo E n b v↔Row n v/\(∀e∈E,dot e v=0)/\∀x∈v,x<=(b:Int):=by
 constructor
 ·rintro ⟨h1,h2,h3⟩
  exact ⟨h1,even_iff.mp h2,fun x hx=>by obtain ⟨i,_,e⟩:=YX hx;rw [<-e];exact h3 i⟩
 ·rintro ⟨h1,h2,h3⟩
  refine ⟨h1,even_iff.mpr h2,fun i=> ?_⟩
  by_cases hi:i<v.length
  ·exact h3 _ (jX hi)
  ·rw [List.getD_eq_getElem?_getD,List.getElem?_eq_none (z12 hi)];simp
structure AllR (E:List (List Int))(n b:Nat)(al:List (List Int)):Prop where
 nd:al.Nodup
 mem:∀v,v∈al↔UpTo E n b v
 len:al.length<=4084101
theorem AllR.two {w0 w1:Int}{b:Nat}(hb:b<=60):AllR [[w0,w1]] 2 b (JC w0 w1 0 b (b+1)) where
 nd:=Um
 mem:=fun v=>by
  rw [Wv,yo]
  constructor
  ·rintro ⟨x,y,rfl,h1,h2,h3,h4,h5⟩
   refine ⟨.of rfl fun z hz=> ?_,fun e he=> ?_,fun z hz=> ?_⟩
   ·simp at hz;rcases hz with rfl| rfl<;>omega
   ·rw [List.mem_singleton.mp he];simp [dot];exact h5
   ·simp at hz;rcases hz with rfl| rfl<;>omega
  ·rintro ⟨h1,h2,h3⟩
   obtain ⟨x,y,rfl⟩:=len2 h1.len
   have e:=h2 _ (.head _)
   simp [dot] at e
   have a1:=h1.mem x (.head _)
   have a2:=h1.mem y (.tail _ (.head _))
   have a3:=h3 x (.head _)
   have a4:=h3 y (.tail _ (.head _))
   exact ⟨x,y,rfl,a1,z1415 a3,a2,a4,e⟩
 len:=Nat.le_trans (Yw (b+1)) (Nat.le_trans (Nat.mul_le_mul ((j0W hb):b+1<=61) ((j0W hb):b+1<=61)) (by decide))
theorem AllR.box {E:List (List Int)}{n b:Nat}(hp:(b+1)^n<=4084101):AllR E n b ((boxU b n).filter fun r=>E.all fun e=>dot e r==0) where
 nd:=(YO b n).sublist List.filter_sublist
 mem:=fun v=>by
  rw [List.mem_filter,yo]
  simp only [List.all_eq_true,beq_iff_eq]
  constructor
  ·rintro ⟨h1,h2⟩
   exact ⟨(yY b h1).1,h2,(yY b h1).2⟩
  ·rintro ⟨h1,h2,h3⟩
   exact ⟨UN b h1 h3,h2⟩
 len:=Nat.le_trans (List.length_filter_le _ _) (by rw [yX];exact hp)
theorem flt_eq {p:List Int->Bool}(l:List (List Int)):l.filterMap (fun x=>if p x=true then some (row x) else none)=(l.filter p).map row:=by
 induction l with
 | nil=>rfl
 | cons s l ih=>
  by_cases q:p s=true
  ·simp only [List.filterMap_cons,if_pos q,ih,List.filter_cons,List.map_cons]
  ·simp only [List.filterMap_cons,if_neg q,ih,List.filter_cons]
theorem all_ {E:List (List Int)}{n b:Nat}(T:Tp c B08 N08)(hr:∀r∈E,okW n r)(hl:E.length<=3)(hn:n<=5)(hb:b<=60)(hp:¬(n=2/\E.length=1)->(b+1)^n<=4084101)(h:∀al,AllR E n b al->Q (.lst (al.map row)) σ):WF c (Room 3) "_law_all" [.int n,rl E,.int b] σ Q X:=by
 refine WF.byS 46 (ps:=["_law_size_here","_law_equations","_law_bound"]) T rfl rfl (WR fun _ _ _ _ _ _=>rfl) (by rfl) rfl fun A fr env g r hh hs fe=> ?_
 refine WS.joinA rfl (fun m' σ'=>σ'=σ/\¬(n=2/\E.length=1)/\Hs m' [("_law_size_here",.int n),("_law_equations",rl E),("_law_bound",.int b)]) ?_ fun m' σ' ⟨e0,hno,hv⟩=> ?_
 ·(with_reducible refine W1.go (by assumption) ?_)
  by_cases h2:n=2
  ·refine brT (show ((n:Int)==2)=true by rw [h2];rfl) ?_
   refine Sp.mk ?_
   refine At1.lenM (sd:=.lst _) (l:=E) (F:=il) rfl trivial (z661 hl) ?_
   skip
   by_cases h1:E.length=1
   ·refine brT (show ((E.length:Int)==1)=true by rw [h1];rfl) ?_
    obtain ⟨e,rfl⟩:=List.length_eq_one_iff.mp h1
    subst h2
    obtain ⟨w0,w1,rfl⟩:=len2 (hr e (.head _)).1
    have b0:=(hr _ (.head _)).2 w0 (.head _)
    have b1:=(hr _ (.head _)).2 w1 (.tail _ (.head _))
    refine Sp.mk ?_
    refine WSb.at (sd:=.lst _) (d:=il [w0,w1]) (k:=0) rfl trivial rfl (by decide) ?_
    refine Sp.mk ?_
    refine WF.at (two_ T hb (z714 b0.1 b0.2) (z714 b1.1 b1.2) ?_) (by decide)
    refine Sp.mk ?_
    exact h _ (AllR.two hb)
   ·refine brF (show ((E.length:Int)==1)=false by rw [beq_eq_false_iff_ne];exact z1416 h1) ?_
    refine Sp.mk ?_
    exact ⟨rfl,fun z=>h1 z.2,Hs.lit rfl⟩
  ·refine brF (show ((n:Int)==2)=false by rw [beq_eq_false_iff_ne];exact z1417 h2) ?_
   refine Sp.mk ?_
   exact ⟨rfl,fun z=>h2 z.1,Hs.lit rfl⟩
 subst e0
 have hp:=hp hno
 have hbl:=yX b n
 (with_reducible refine WS.base (by assumption) ?_;refine WS.go (by assumption) ?_);refine Sp.mk ?_
 refine WF.at (box_ T hb hn hp ?_) (by decide)
 refine Sp.mk ?_
 refine WIv.seqA rfl (sd:=.lst _) row hh rfl trivial (Turns.of (fun x=>if (E.all fun e=>dot e x==0)=true then some (row x) else none) (fun _ _=>loc1 rfl) trivial (by simp only [sizeLine];exact z1418 hbl hp) (fun x hx fr' cenv hc=>WIfs.one ?_) (.inl ?_))
 ·have g:=g.at (jl hc hs)
  (with_reducible refine WT.go (by assumption) ?_);refine Sp.mk ?_
  refine WF.at (j0u T (fun r h=>UL (hr r h) hn) (z672 hl) ?_) (by decide)
  refine Sp.mk ?_
  cases q:E.all fun e=>dot e x==0 with
  | true=>
   (with_reducible refine j0Z ?_;refine WE.go (by assumption) ?_);refine Sp.mk ?_
   exact ⟨rfl,rfl⟩
  | false=>
   (with_reducible refine U9 ?_)
   exact ⟨rfl,rfl⟩
 rw [flt_eq]
 refine Sp.mk ?_
 exact h _ (AllR.box hp)
end
structure Ask8 (E:List (List Int))(n b:Nat):Prop where
 n1:1<=n
 n5:n<=5
 len:E.length<=3
 ok:∀e∈E,okW n e
 fits:Fits6 E n
 hb:b<=60
 hp:¬(n=2/\E.length=1)->(b+1)^n<=4084101
theorem UpL.zero {E:List (List Int)}{n:Nat}:UpL E n (0:Nat) [List.replicate n 0] where
 srt:=List.pairwise_singleton ..
 mem:=fun v=>by
  rw [List.mem_singleton,yo]
  constructor
  ·rintro rfl
   refine ⟨.of (by simp) fun x hx=>by rw [(List.mem_replicate.mp hx).2];exact Int.le_refl _,fun e _=>JN _ _ fun x hx=>(List.mem_replicate.mp hx).2,fun x hx=>by rw [(List.mem_replicate.mp hx).2];exact Int.le_refl _⟩
  ·rintro ⟨h1,_,h3⟩
   rw [<-h1.len]
   exact List.eq_replicate_iff.mpr ⟨rfl,fun x hx=>Int.le_antisymm (h3 x hx) (h1.mem x hx)⟩
theorem UpL.less {E:List (List Int)}{n b:Nat}{due:List (List Int)}(h1:1<=n)(U:UpL E n (b+1:Nat) due):UpL E n b (due.filter fun r=>decide (maxL r<((b+1:Nat):Int))) where
 srt:=U.srt.sublist List.filter_sublist
 mem:=fun v=>by
  rw [List.mem_filter,U.mem,yo,yo,decide_eq_true_eq]
  constructor
  ·rintro ⟨⟨a,e,m⟩,l⟩
   exact ⟨a,e,(Uj (a.ne h1)).mp (z1414 l)⟩
  ·rintro ⟨a,e,m⟩
   have:=(Uj (a.ne h1)).mpr m
   exact ⟨⟨a,e,fun x hx=>Int.le_trans (m x hx) z1419⟩,z1415 this⟩
theorem Ww:∀(xs:List (List Int)),PyData.eqvAll (xs.map fun r=>.tuple (r.map .int)) (xs.map fun r=>.tuple (r.map .int))=true
 | []=>rfl
 | a::r=>by
  simp only [List.map_cons,PyData.eqvAll,Ww r]
  rw [show PyData.eqv (.tuple (a.map .int)) (.tuple (a.map .int))=decide (a=a) from j0Y a a];simp
theorem J1 {xs:List (List Int)}:PyData.eqv (.list (xs.map fun r=>.tuple (r.map .int))) (.list (xs.map fun r=>.tuple (r.map .int)))=true:=Ww xs
theorem j1I {b:Int}(l:List (List Int)):l.filterMap (fun x=>if maxL x<b then some (row x) else none)=(l.filter fun r=>decide (maxL r<b)).map row:=by
 induction l with
 | nil=>rfl
 | cons s l ih=>
  by_cases q:maxL s<b
  ·simp only [List.filterMap_cons,if_pos q,ih,List.filter_cons,decide_eq_true q,if_true,List.map_cons]
  ·simp only [List.filterMap_cons,if_neg q,ih,List.filter_cons,decide_eq_false q,Bool.false_eq_true,if_false]
theorem Wx:PyData.strOk (Str.ofString "many")=true:=by kernel_rfl
section
variable {c:Cx} {X:Addr->Sto->Prop} {K Kx:Frag} {C:Addr}
theorem law_ {S:List Int}(T:Tp c B08 N08)(G:Gi c G08)(Sy:Ks c K C "System" Bd08)(Ex:Xs c Kx E08)(ra:Rai c "TooMany")(hS:S.length<=63):WF c (Room 14) "law" [.lst (S.map .int)] [] (fun d _=>d=.bool true) X:=by
 refine WF.byG 48 (ps:=["_law_script"]) T G rfl rfl (YV fun _ _ _ _=>rfl) (by rfl) rfl fun A fr env g r hh hs fe=> ?_
 have m1:Mth K C "__init__":=Mth.byA 0 Sy rfl rfl
 have m4:Mth K C "least":=Mth.byA 5 Sy rfl rfl
 refine Sp.mk ?_
 refine WF.at (size_ T hS ?_) (by decide)
 refine Sp.mk ?_
 refine WF.at (j1F T hS fun rows hrl hr=> ?_) (by decide)
 refine Sp.mk ?_
 have hn:=j0R S
 have hm:=UK S
 generalize szS S=n at hn hr⊢
 refine WF.at (jO T hS (by decide) (by decide) ?_) (by decide)
 refine Sp.mk ?_
 refine .inl ?_
 refine Sp.mk ?_
 obtain ⟨M,hM,eM⟩:∃M:Nat,(3<=M/\M<=6)/\[D.int 0,D.int 6,D.int 6,D.int 5,D.int 3,D.int 3][n]? =some (.int M):=by
  rcases ((z586 hn.1 hn.2):n=1\/n=2\/n=3\/n=4\/n=5) with rfl| rfl| rfl| rfl| rfl
  ·exact ⟨6,z1420,rfl⟩
  ·exact ⟨6,z1420,rfl⟩
  ·exact ⟨5,z1421,rfl⟩
  ·exact ⟨3,z1422,rfl⟩
  ·exact ⟨3,z1422,rfl⟩
 refine WSb.at (sd:=.lst _) (d:=.int M) (k:=n) rfl trivial eM (z696 hn.2) ?_
 refine Sp.mk ?_
 refine WB.modE (z1423 hM.1) (z1424 hM.2) ?_
 obtain ⟨b,hb,eb⟩:∃b:Nat,b<M/\S.getD (Int.toNat 2) 0 % (M:Int)=b:=⟨(S.getD (Int.toNat 2) 0 % (M:Int)).toNat,by
  have h1:=Int.emod_nonneg (S.getD (Int.toNat 2) 0) (show (M:Int)≠0 by exact z1425 hM.1)
  have h2:=Int.emod_lt_of_pos (S.getD (Int.toNat 2) 0) (show 0<(M:Int) by exact z1423 hM.1)
  exact z309 h1 h2,(Int.toNat_of_nonneg (Int.emod_nonneg _ (z1425 hM.1))).symm⟩
 rw [eb]
 have hpow:∀{k m:Nat},k+1<=6->m<=5->(k+1)^m<=4084101:=fun {k m} h1 h2=>Nat.le_trans (Nat.pow_le_pow_left h1 m) (Nat.le_trans (Nat.pow_le_pow_right (by decide) h2) (by decide))
 have A0:Ask8 rows n b:=⟨hn.1,hn.2,z645 hrl hm,fun e he=>okW_of (hr e he) (UJ _ _).2,Fits6.base hn.1 hn.2 (fun e he=>(hr e he).1) (z645 hrl hm) (by rw [hrl];exact fun e he=>(hr e he).2),z1426 hb hM.2,fun _=>hpow (z675 hb hM.2) hn.2⟩
 have hp0:(b+1)^n<=4084101:=hpow (z675 hb hM.2) hn.2
 clear hr hrl hn hm hM eM hb eb
 refine Sp.mk ?_
 refine WS.joinA rfl (fun m' σ'=>∃E n b,Ask8 E n b/\(b+1)^n<=4084101/\σ'=[]/\Hs m' [("_law_bound",.int (b:Nat)),("_law_equations",rl E),("_law_size_here",.int (n:Nat)),("_law_script",.lst (S.map .int))]) ?_ fun m' σ' ⟨E,n,b,A1,hp1,e0,hv⟩=> ?_
 ·(with_reducible refine W1.goN (by assumption) ?_);refine Sp.mk ?_
  refine WF.at (jO T hS (by decide) (by decide) ?_) (by decide)
  skip
  by_cases q5:S.getD (Int.toNat 2) 0/6 % 8=5
  ·refine brT (show (S.getD (Int.toNat 2) 0/6 % 8==5)=true by simpa using q5) ?_
   refine Sp.mk ?_
   refine WF.at (jO T hS (by decide) (by decide) ?_) (by decide)
   refine Sp.mk ?_
   obtain ⟨u,hu,eu⟩:∃u:Nat,(u=1\/u=2)/\1+S.getD (Int.toNat 0) 0 % 2=u:=⟨(1+S.getD (Int.toNat 0) 0 % 2).toNat,z1427,z1428⟩
   rw [eu]
   skip
   refine .inl ?_
   refine Sp.mk ?_
   refine WF.at (jO T hS (by decide) (by decide) ?_) (by decide)
   refine Sp.mk ?_
   refine WF.at (jO T hS (by decide) (by decide) ?_) (by decide)
   refine Sp.mk ?_
   refine .inl ?_
   refine Sp.mk ?_
   obtain ⟨b',hb',hp',eb'⟩:∃b':Nat,b'<=60/\(b'+1)^u<=4084101/\[D.int (58+S.getD (Int.toNat 1) 0 % 3),D.int (16+(S.getD (Int.toNat 1) 0 % 4+1)/2)][u-1]? =some (.int b'):=by
    rcases hu with rfl| rfl
    ·refine ⟨(58+S.getD (Int.toNat 1) 0 % 3).toNat,z1429,by rw [Nat.pow_one];exact z1430,?_⟩
     rw [Int.toNat_of_nonneg z1431];rfl
    ·refine ⟨(16+(S.getD (Int.toNat 1) 0 % 4+1)/2).toNat,z1432,Nat.le_trans (Nat.pow_le_pow_left (z1433:_<=19) 2) (by decide),?_⟩
     rw [Int.toNat_of_nonneg z1434];rfl
   refine WSb.at (sd:=.lst _) (d:=.int b') (k:=u-1) (z1435 hu) trivial eb' (z1436 hu) ?_
   refine Sp.mk ?_
   exact ⟨[],u,b',⟨z1437 hu,z1438 hu,by decide,nofun,Fits6.base (z1437 hu) (z1438 hu) nofun (by decide) nofun,hb',fun _=>hp'⟩,hp',rfl,Hs.lit rfl⟩
  ·refine brF (show (S.getD (Int.toNat 2) 0/6 % 8==5)=false by simpa using q5) ?_
   refine Sp.mk ?_
   exact ⟨rows,n,b,A0,hp0,rfl,Hs.lit rfl⟩
 subst e0
 clear A0 hp0
 show WS _ _ _ _ _ _ _ _ _ _
 refine WS.base hv ?_
 refine WS.joinA rfl (fun m' σ'=>∃b,Ask8 E n b/\σ'=[]/\Hs m' [("_law_bound",.int (b:Nat)),("_law_equations",rl E),("_law_size_here",.int (n:Nat))]) ?_ fun m' σ' ⟨b,A1,e0,hv⟩=> ?_
 ·(with_reducible refine W1.goN (by assumption) ?_)
  by_cases h2:n=2
  ·refine brT (show ((n:Int)==2)=true by rw [h2];rfl) ?_
   have hl3:=A1.len
   refine Sp.mk ?_
   refine At1.lenM (sd:=.lst _) (l:=E) (F:=il) rfl trivial (z661 hl3) ?_
   skip
   by_cases h1:E.length=1
   ·refine brT (show ((E.length:Int)==1)=true by rw [h1];rfl) ?_
    refine Sp.mk ?_
    refine WF.at (jO T hS (by decide) (by decide) ?_) (by decide)
    refine Sp.mk ?_
    obtain ⟨b',hb',eb'⟩:∃b':Nat,b'<=60/\S.getD (Int.toNat 2) 0/48 % 61=b':=⟨(S.getD (Int.toNat 2) 0/48 % 61).toNat,z1439,z1440⟩
    rw [eb']
    skip
    exact ⟨b',{A1 with hb:=hb',hp:=fun z=>absurd ⟨h2,h1⟩ z},rfl,Hs.lit rfl⟩
   ·refine brF (show ((E.length:Int)==1)=false by rw [beq_eq_false_iff_ne];exact z1416 h1) ?_
    refine Sp.mk ?_
    exact ⟨b,A1,rfl,Hs.lit rfl⟩
  ·refine brF (show ((n:Int)==2)=false by rw [beq_eq_false_iff_ne];exact z1417 h2) ?_
   refine Sp.mk ?_
   exact ⟨b,A1,rfl,Hs.lit rfl⟩
 subst e0
 clear hp1
 show WS _ _ _ _ _ _ _ _ _ _
 refine WS.base hv ?_
 have hEl:=A1.len
 have hn1:=A1.n1
 have hn5:=A1.n5
 have hb6:=A1.hb
 have hok:=A1.ok
 have hsm:∀e∈E,Yt e/\e.length<100:=fun e he=>UL (hok e he) hn5
 (with_reducible refine WS.goK (by assumption) ?_);refine Sp.mk ?_;(with_reducible refine WE.callCA (by with_unfolding_all rfl) (by assumption) (by assumption) (by assumption) (by with_unfolding_all exact ja (by assumption) (by rfl)) (by assumption) ?_ (by with_unfolding_all rfl) (by with_unfolding_all decide);refine WA.go (by assumption) ?_);refine Sp.mk ?_
 refine WIv.seqA rfl (sd:=.lst _) il hh rfl trivial (Turns.map (fun w=>il w) (fun _ _=>loc1 rfl) trivial (by simp only [sizeLine];exact z632 hEl) (fun w hw fr' cenv hc=> ?_) (.inl ?_))
 ·have g:=g.at (jl hc hs)
  have:=(hok w hw).1
  (with_reducible refine WE.go (by assumption) ?_);refine Sp.mk ?_
  refine At1.list (sd:=.lst _) trivial (by walk_at "z") (.inl ⟨rfl,rfl⟩)
 refine Sp.mk ?_
 intro dx hdx
 refine WM.at (new_ (sd:=.lst _) (ws:=lstW E) T G Sy rfl trivial Ws ⟨fun w hw=>⟨(Yv hw).1,hok _ (Yv (σ:=[]) hw).2⟩,by rw [uw];exact hEl⟩ hn1 hn5 ?_ dx) (by decide)
 refine Sp.mk ?_
 rw [j0S]
 skip
 refine WF.at (all_ T hok hEl hn5 hb6 A1.hp fun al R=> ?_) (by decide)
 refine Sp.mk ?_
 have hal:=R.len
 refine WIv.seqA rfl (sd:=.lst _) row hh rfl trivial (Turns.map keyD (fun _ _=>loc1 rfl) trivial (by simp only [sizeLine];exact z726 hal) (fun x hx fr' cenv hc=> ?_) (.inl ?_))
 ·have g:=g.at (jl hc hs)
  (with_reducible refine WE.go (by assumption) ?_);refine Sp.mk ?_
  refine WF.at (key_ T ?_) (by decide)
  refine Sp.mk ?_
  exact ⟨rfl,rfl⟩
 refine Sp.mk ?_
 refine At1.sortedP (sd:=.lst _) (rows:=al) r rfl rfl trivial (z1441 hal) fun due hp hso=>.inl ?_
 have U:UpL E n b due:=UpL.of R.nd R.mem hp hso
 have hdl:due.length<=4084101:=hp.length_eq▸hal
 clear hp hso R hal al
 refine Sp.mk ?_
 refine WIv.seqA rfl (sd:=.lst _) keyD hh rfl trivial (Turns.map (fun x=>row x) (fun _ _=>loc1 rfl) trivial (by simp only [sizeLine];exact z726 hdl) (fun x hx fr' cenv hc=> ?_) (.inl ?_))
 ·have g:=g.at (jl hc hs)
  (with_reducible refine WE.go (by assumption) ?_);refine Sp.mk ?_
  refine WSb.at (sd:=.tup _) (d:=row x) (k:=1) rfl trivial rfl (by decide) ?_
  refine Sp.mk ?_
  exact ⟨rfl,rfl⟩
 refine Sp.mk ?_
 have hz:¬300<[List.replicate n (0:Int)].length:=by rw [List.length_singleton];decide
 refine WF.at (Uk (b:=0) T G Sy Ex ra A1.fits hsm (z672 hEl) (z633 hn5) hn1 (by decide) UpL.zero (fun _=>.inl ?_) (fun h=>absurd h hz)) (by decide)
 refine Sp.mk ?_;(with_reducible refine WS.goK (by assumption) ?_);refine Sp.mk ?_
 refine .inl ?_
 refine Sp.mk ?_
 refine WB.rep (z658 hn5) (.inl ?_)
 refine Sp.mk ?_
 refine At1.tuple (sd:=.lst _) trivial (by walk_at "z") ?_
 refine Sp.mk ?_
 refine .inl ?_
 refine Sp.mk ?_
 refine WB.neD r (.of (Py.lst (n:=3) PyAll.rows)) (.of (Py.lst (n:=3) (PyAll.rows (xs:=[List.replicate n 0])))) ?_
 rw [J1]
 refine Sp.mk ?_
 by_cases h3:300<due.length
 ·refine WF.at (Uk T G Sy Ex ra A1.fits hsm (z672 hEl) (z633 hn5) hn1 hb6 U (fun h=>absurd h (z74 h3 h).elim) (fun _=> ?_)) (by decide)
  refine Sp.mk ?_;(with_reducible refine WS.goK (by assumption) ?_);refine Sp.mk ?_
  refine WF.at (U5 T ?_) (by decide)
  refine Sp.mk ?_
  refine WF.at (U5 T ?_) (by decide)
  refine Sp.mk ?_;(with_reducible refine WS.goK (by assumption) ?_);refine Sp.mk ?_
  refine At1.lenM (sd:=.lst _) (l:=due) (F:=fun x=>row x) rfl trivial (z1442 hdl) ?_
  skip
  refine brT (decide_eq_true (show (300:Int)<(due.length:Int) by exact z1443 h3)) ?_
  refine Sp.mk ?_
  refine WB.eqD r (.of (Py.str (n:=1) Wx)) (.of (Py.str (n:=1) Wx)) ?_
  refine Sp.mk ?_
  rfl
 refine WF.at (Uk T G Sy Ex ra A1.fits hsm (z672 hEl) (z633 hn5) hn1 hb6 U (fun _=>.inr fun f hf=> ?_) (fun h=>absurd h h3)) (by decide)
 refine Sp.mk ?_;(with_reducible refine WS.goK (by assumption) ?_);refine Sp.mk ?_
 refine WF.at (U5 T ?_) (by decide)
 refine Sp.mk ?_
 refine WF.at (U5 T ?_) (by decide)
 refine Sp.mk ?_;(with_reducible refine WS.goK (by assumption) ?_);refine Sp.mk ?_
 refine At1.lenM (sd:=.lst _) (l:=due) (F:=fun x=>row x) rfl trivial (z1442 hdl) ?_
 skip
 refine brF (decide_eq_false (show ¬(300:Int)<(due.length:Int) by exact z1444 h3)) ?_
 refine Sp.mk ?_;(with_reducible refine WS.goK (by assumption) ?_);refine Sp.mk ?_
 have mf:(f,O.lst (due.map row))∈[(f,O.lst (due.map row))]:=List.mem_cons_self
 refine WF.at (rows_ (sd:=.ref f _) (l:=due) (n:=n) T rfl mf rfl (fun s hs=>((U.mem s).mp hs).row.len) (z633 hn5) ?_) (by decide)
 refine Sp.mk ?_
 refine WB.neD r (.ref (n:=3) mf PyAll.rows) (.of (Py.lst (n:=3) (PyAll.rows (xs:=due)))) ?_
 rw [J1]
 refine Sp.mk ?_
 refine WIv.seqA rfl (sd:=.lst _) row hh rfl trivial (Turns.of (fun x=>if maxL x<(b:Int) then some (row x) else none) (fun _ _=>loc1 rfl) trivial (by simp only [sizeLine];exact z726 hdl) (fun x hx fr' cenv hc=>WIfs.one ?_) (.inl ?_))
 ·have g:=g.at (jl hc hs)
  have ru:=((U.mem x).mp hx).row
  (with_reducible refine WT.go (by assumption) ?_);refine Sp.mk ?_
  refine At1.max (sd:=.tup _) (l:=x) hh rfl (ru.ne hn1) trivial ?_
  refine Sp.mk ?_
  by_cases q:maxL x<(b:Int)
  ·refine brT (decide_eq_true q) ?_
   (with_reducible refine WE.go (by assumption) ?_);refine Sp.mk ?_
   exact ⟨rfl,by rw [if_pos q]⟩
  ·refine brF (decide_eq_false q) ?_
   skip
   rw [if_neg q]
   exact ⟨rfl,rfl⟩
 rw [j1I]
 refine Sp.mk ?_
 refine WS.checkA rfl ?_ ?_
 ·(with_reducible refine W1.goN (by assumption) ?_)
  by_cases q:(0:Int)<(b:Int)
  ·refine brT (decide_eq_true q) ?_
   refine Sp.mk ?_
   obtain ⟨b',rfl⟩:∃b',b=b'+1:=⟨b-1,z1445 q⟩
   have hlen:¬300<(due.filter fun r=>decide (maxL r<((b'+1:Nat):Int))).length:=by have:=List.length_filter_le (fun r=>decide (maxL r<((b'+1:Nat):Int))) due;exact z1446 this ‹_›
   rw [show ((b'+1:Nat):Int)-1=(b':Nat) by exact z1447]
   refine WF.at (Uk (b:=b') T G Sy Ex ra A1.fits hsm (z672 hEl) (z633 hn5) hn1 (z32 hb6) (U.less hn1) (fun _=>.inl ?_) (fun h=>absurd h hlen)) (by decide)
   refine Sp.mk ?_
   refine WB.neD r (.of (Py.lst (n:=3) PyAll.rows)) (.of (Py.lst (n:=3) PyAll.rows)) ?_
   rw [J1]
   refine Sp.mk ?_
   refine WF.at (Uk (b:=0) T G Sy Ex ra A1.fits hsm (z672 hEl) (z633 hn5) hn1 (by decide) UpL.zero (fun _=>.inl ?_) (fun h=>absurd h hz)) (by decide)
   refine Sp.mk ?_
   refine .inl ?_
   refine Sp.mk ?_
   refine WB.rep (z658 hn5) (.inl ?_)
   refine Sp.mk ?_
   refine At1.tuple (sd:=.lst _) trivial (by walk_at "z") ?_
   refine Sp.mk ?_
   refine .inl ?_
   refine Sp.mk ?_
   refine WB.neD r (.of (Py.lst (n:=3) PyAll.rows)) (.of (Py.lst (n:=3) (PyAll.rows (xs:=[List.replicate n 0])))) ?_
   rw [J1]
   refine Sp.mk ?_
   exact ⟨rfl,rfl⟩
  ·refine brF (decide_eq_false q) ?_
   refine Sp.mk ?_
   refine WF.at (Uk (b:=0) T G Sy Ex ra A1.fits hsm (z672 hEl) (z633 hn5) hn1 (by decide) UpL.zero (fun _=>.inl ?_) (fun h=>absurd h hz)) (by decide)
   refine Sp.mk ?_
   refine .inl ?_
   refine Sp.mk ?_
   refine WB.rep (z658 hn5) (.inl ?_)
   refine Sp.mk ?_
   refine At1.tuple (sd:=.lst _) trivial (by walk_at "z") ?_
   refine Sp.mk ?_
   refine .inl ?_
   refine Sp.mk ?_
   refine WB.neD r (.of (Py.lst (n:=3) PyAll.rows)) (.of (Py.lst (n:=3) (PyAll.rows (xs:=[List.replicate n 0])))) ?_
   rw [J1]
   refine Sp.mk ?_
   exact ⟨rfl,rfl⟩
 refine WS.checkA rfl ?_ ?_
 ·(with_reducible refine W1.goN (by assumption) ?_);refine Sp.mk ?_
  refine WB.neD r (.ref (n:=3) mf PyAll.rows) (.of (Py.lst (n:=3) (PyAll.rows (xs:=due)))) ?_
  rw [J1]
  refine Sp.mk ?_
  refine .inl ?_
  refine Sp.mk ?_
  refine WB.rep (z658 hn5) (.inl ?_)
  refine Sp.mk ?_
  refine At1.tuple (sd:=.lst _) trivial (by walk_at "z") ?_
  refine Sp.mk ?_
  refine .inl ?_
  refine Sp.mk ?_
  refine WB.neD r (.of (Py.lst (n:=3) PyAll.rows)) (.of (Py.lst (n:=3) (PyAll.rows (xs:=[List.replicate n 0])))) ?_
  rw [J1]
  refine Sp.mk ?_
  exact ⟨rfl,rfl⟩
 (with_reducible refine WS.goK (by assumption) ?_);refine Sp.mk ?_;(with_reducible refine WE.go (by assumption) ?_);refine Sp.mk ?_
 refine WE.methL F.slot_list_clear F.type_list_clear ?_ (hp:=by with_unfolding_all rfl) (hb:=by with_unfolding_all (intro _;rfl)) (hl:=by with_unfolding_all rfl) (hn:=by with_unfolding_all rfl)
 (with_reducible refine WE.go (by assumption) ?_);refine Sp.mk ?_
 refine ⟨.ref f _,rfl,rfl,mf,?_⟩
 (with_reducible refine WA.go (by assumption) ?_);refine Sp.mk ?_
 refine At1.clear (σ1:=[]) (by simp only [List.length_map,sizeLine];exact z726 hdl) ?_
 refine Sp.mk ?_;refine Sp.mk ?_;(with_reducible refine WE.callCA (by with_unfolding_all rfl) (by assumption) (by assumption) (by assumption) (by with_unfolding_all exact ja (by assumption) (by rfl)) (by assumption) ?_ (by with_unfolding_all rfl) (by with_unfolding_all decide);refine WA.go (by assumption) ?_);refine Sp.mk ?_
 simp only [List.cons_append,List.nil_append]
 have mf:(f,O.lst [])∈[(f,O.lst [])]:=List.mem_cons_self
 skip
 refine WIv.seqA rfl (sd:=.lst _) il hh rfl trivial (Turns.map (fun w=>il w) (fun _ _=>loc1 rfl) trivial (by simp only [sizeLine];exact z632 hEl) (fun w hw fr' cenv hc=> ?_) (.inl ?_))
 ·have g:=g.at (jl hc hs)
  have:=(hok w hw).1
  (with_reducible refine WE.go (by assumption) ?_);refine Sp.mk ?_
  refine At1.list (sd:=.lst _) trivial (by walk_at "z") (.inl ⟨rfl,rfl⟩)
 refine Sp.mk ?_
 intro dx2 hdx2
 refine WM.at (new_ (sd:=.lst _) (ws:=lstW E) T G Sy rfl trivial Ws ⟨fun w hw=>⟨(Yv hw).1,hok _ (Yv (σ:=[]) hw).2⟩,by rw [uw];exact hEl⟩ hn1 hn5 ?_ dx2) (by decide)
 refine Sp.mk ?_
 rw [j0S]
 skip
 refine WF.at (Uk T G Sy Ex ra A1.fits hsm (z672 hEl) (z633 hn5) hn1 hb6 U (fun _=>.inl ?_) (fun h=>absurd h h3)) (by decide)
 refine Sp.mk ?_
 refine WB.eqD r (.of (Py.lst (n:=3) PyAll.rows)) (.of (Py.lst (n:=3) (PyAll.rows (xs:=due)))) ?_
 skip
 rw [J1]
 refine Sp.mk ?_;(with_reducible refine WE.mthA (by with_unfolding_all rfl) (by assumption) (by assumption) (by assumption) ?_ (by with_unfolding_all decide) (by with_unfolding_all decide) (by with_unfolding_all rfl) (by with_unfolding_all (intro _;rfl)) (by with_unfolding_all rfl) (by with_unfolding_all rfl);refine WE.go (by assumption) ?_);refine Sp.mk ?_;(with_reducible refine kMeth.mk ?_;refine WA.go (by assumption) ?_);refine Sp.mk ?_
 refine WM.at (Wr T Sy A1.fits hsm (z672 hEl) (z633 hn5) hn1 fun o1 M1=>.inl ?_) (by decide)
 refine Sp.mk ?_;(with_reducible refine WE.mthA (by with_unfolding_all rfl) (by assumption) (by assumption) (by assumption) ?_ (by with_unfolding_all decide) (by with_unfolding_all decide) (by with_unfolding_all rfl) (by with_unfolding_all (intro _;rfl)) (by with_unfolding_all rfl) (by with_unfolding_all rfl);refine WE.go (by assumption) ?_);refine Sp.mk ?_;(with_reducible refine kMeth.mk ?_;refine WA.go (by assumption) ?_);refine Sp.mk ?_
 refine WM.at (Wr T Sy A1.fits hsm (z672 hEl) (z633 hn5) hn1 fun o2 M2=>.inl ?_) (by decide)
 refine Sp.mk ?_
 rw [M1.eq M2]
 refine WB.eqD r (.of (Py.lst (n:=3) PyAll.rows)) (.of (Py.lst (n:=3) PyAll.rows)) ?_
 skip
 rw [J1]
 refine Sp.mk ?_
 refine .inl ?_
 refine Sp.mk ?_
 refine WB.eqD r (.ref (n:=3) mf .nil) (.of (Py.lst (n:=3) .nil)) ?_
 refine Sp.mk ?_
 rfl
end
end Mine
open PySem PySem.W PyProof.Rows
set_option maxRecDepth 100000
set_option maxHeartbeats 8000000
theorem PySem.Challenge.cw_uf050013_08_holds : PySem.Challenge.rw_uf050013_08.Holds := by
 w_on
 refine holds_law Mine.said08 fun said=> ?_
 refine holds_open (q:=Mine.q08) (loose:=[]) (Xt:=fun s=>xlAt Mine.q08 [] s&&recOk (RowW.records PySem.Challenge.rw_uf050013_08.row.toRowW) s) (XP:=XL Mine.q08 []) (Yf:=Hook.obs (Mine.xHook Mine.A08 Mine.E08)) (Ya:=Hook.val (Mine.xHook Mine.A08 Mine.E08)) (YP:=Hook.says (Mine.xHook Mine.A08 Mine.E08)) (N:=6442) Mine.left08 (Hook.of (Mine.xHook Mine.A08 Mine.E08)) (Hook.keeps (Mine.xHook Mine.A08 Mine.E08)) (fun s e=>xl_of s (Bool.and_eq_true_iff.mp e).1) XL.keeps (by rfl) (by rfl) (by rfl) (fun s e=>recFacts_of (Bool.and_eq_true_iff.mp e).2) (by rfl) (by assumption) (by decide+kernel) ⟨rfl,rfl,rfl,rfl,rfl,by decide+kernel⟩ ?hw ?hc
 (case hw=>w_witness2)
 intro w s₀ s₁ mg mb G Y fa o pm cd doc dV kV ho hd hcd hD hmg hg args vals as hpre hlay hrd hwl hlo
 refine Ground.open G ?_
 intro T B D TE TW
 clear ho hd hcd hD
 wrow_args hpre hlay hrd hwl hlo
 rename_i S hs1 hlay0 hL1 hr1 hl2 w4 w3 l vs as' hL ra w1 r0 hI hr hc1 hc2
 have Tm:Mine.Tp ⟨PySem.Challenge.rw_uf050013_08.row.prog,w,s₁.heap,mg,mb⟩ Mine.B08 Mine.N08:=Mine.Tp.ofTop T (by kernel_rfl) (by kernel_rfl) (by kernel_rfl)
 have Gm:Mine.Gi ⟨PySem.Challenge.rw_uf050013_08.row.prog,w,s₁.heap,mg,mb⟩ Mine.G08:=Mine.Gi.ofTop T (by kernel_rfl)
 have Xm:=Mine.Xs.ofHook (c:=⟨PySem.Challenge.rw_uf050013_08.row.prog,w,s₁.heap,mg,mb⟩) Y Tm.good
 have R1:Mine.Rai ⟨PySem.Challenge.rw_uf050013_08.row.prog,w,s₁.heap,mg,mb⟩ (Str.ofString "TooMany"):=Mine.Rai.ofTop T (by kernel_rfl)
 obtain ⟨K,C,Sm⟩:=Mine.Ks.ofTop (c:=⟨PySem.Challenge.rw_uf050013_08.row.prog,w,s₁.heap,mg,mb⟩) (cn:=Str.ofString "System") (Bd:=Mine.Bd08) TE 0 (by kernel_rfl)
 have w2:Well w.params s₁.heap (.ref l) (.list (S.map WData.int)):=by
  have:=w1
  simp only [ofPy,Mine.ofPys_ints] at this
  exact this
 exact Mine.last (c:=⟨PySem.Challenge.rw_uf050013_08.row.prog,w,s₁.heap,mg,mb⟩) (Mine.law_ Tm Gm Sm Xm R1 (by omega)) (by decide) hmg (Mine.V.ofWell w2) rfl hg (Mine.post_ok _ _ _) (Mine.raises_ok _ _)
