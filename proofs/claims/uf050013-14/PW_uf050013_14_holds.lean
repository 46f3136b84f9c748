import PyProof.Rows.All
import Wide.FinOn
import Open.Line
import PyProof.Walks
import PyProof.WalksMore
import PyProof.WalksT
import PyProof.CompFree
import PyProof.Cells
import PyProof.Rows.Many
import PyProof.RaisesMany
import PyProof.TupleKey
import PyProof.DictRoadsH
import PyProof.RangeFor
import PyProof.Rows.Range3
import PyProof.ZipIter
import PyProof.EnumMake
import PyProof.Rows.ZipGen
import PyProof.IsInstance
import PyProof.IsInstanceH
import PyProof.IsiNone
import PyProof.Rows.IntRules
import PyProof.Rows.RuleB_mul
import PyProof.Rows.RuleB_floordiv
import PyProof.Rows.RuleB_pow
import PyProof.Rows.RuleC_int
import PyProof.Rows.RuleU_int
import PyProof.SumAny
import PyProof.MinMaxWalk
import PyProof.ConsumeWalk
import PyProof.TupleOfSeq
import PyProof.ListCopy
import PyProof.TupleCall
import PyProof.ListIndexNeg
import PyProof.Rows.StrTemp
import KE.KSortTup
import KE.KSortKey
import KE.KEqDeep
import PyProof.StrBlock
import PyProof.Rows.RuleN_abs
import PyProof.Rows.TupAssign
import PyProof.Dict
import PyProof.DictIter
import PyProof.DictWalks
import PyProof.ListRange
import PyProof.MeetsDictList
import PyProof.AutoListH
import PyProof.AutoSeq1
import PyProof.SliceSyntax
import PyProof.SliceList
import PyProof.LetGo
import PyProof.Rows.SortRuns
import PySem.Challenge.RW_uf050013_14
set_option compiler.extract_closed false
set_option genSizeOf false
set_option Elab.async false
set_option linter.all false
set_option autoImplicit false
namespace Mine
open PySem PySem.Calls PyProof.Rows PySem.W
end Mine
namespace Mine
open PySem PySem.W PyProof.Rows
def q14:Program:={PySem.Challenge.rw_uf050013_14.row.prog with main:={PySem.Challenge.rw_uf050013_14.row.prog.main with body:=[0,2,3,4,6,7,8,9,10,12,13,14,15,16,17,18,19,20,21,22,24,25,26,27,28,29,30,31,32,33,34,35].filterMap fun i=>PySem.Challenge.rw_uf050013_14.row.prog.main.body[i]?}}
set_option maxRecDepth 100000 in
theorem said14:OpenLaw.wellSaid PySem.Challenge.rw_uf050013_14=true:=by kernel_rfl
set_option maxRecDepth 100000 in
theorem left14:LeftO PySem.Challenge.rw_uf050013_14.row.prog q14 [] (fun s=>xlAt q14 [] s&&recOk (RowW.records PySem.Challenge.rw_uf050013_14.row.toRowW) s) (Hook.obs Hook.none) (Hook.val Hook.none) 3872:=fun w=>by kernel_rfl
end Mine
namespace Mine
inductive NE where
 | v (i:Nat)
 | n (k:Nat)
 | a (x y:NE)
 | m (k:Nat) (x:NE)
inductive IE where
 | v (i:Nat)
 | n (k:Int)
 | a (x y:IE)
 | s (x y:IE)
 | g (x:IE)
 | m (k:Int) (x:IE)
 | c (x:NE)
noncomputable def NE.d (xs:List Nat):NE->Nat
 | .v i=>xs.getD i 0
 | .n k=>k
 | .a x y=>x.d xs+y.d xs
 | .m k x=>k*x.d xs
noncomputable def IE.d (xs:List Nat)(ys:List Int):IE->Int
 | .v i=>ys.getD i 0
 | .n k=>k
 | .a x y=>x.d xs ys+y.d xs ys
 | .s x y=>x.d xs ys-y.d xs ys
 | .g x=> -x.d xs ys
 | .m k x=>k*x.d xs ys
 | .c x=>((x.d xs:Nat):Int)
inductive Cn where
 | nl (x y:NE)
 | nt (x y:NE)
 | ne (x y:NE)
 | nf (x y:NE)
 | il (x y:IE)
 | it (x y:IE)
 | ie (x y:IE)
 | jf (x y:IE)
noncomputable def Cn.d (xs:List Nat)(ys:List Int):Cn->Prop
 | .nl x y=>x.d xs<=y.d xs
 | .nt x y=>x.d xs<y.d xs
 | .ne x y=>x.d xs=y.d xs
 | .nf x y=>x.d xs=y.d xs
 | .il x y=>x.d xs ys<=y.d xs ys
 | .it x y=>x.d xs ys<y.d xs ys
 | .ie x y=>x.d xs ys=y.d xs ys
 | .jf x y=>x.d xs ys=y.d xs ys
structure Li where
 p:List Int
 q:List Int
 k:Int
noncomputable def ladd:List Int->List Int->List Int
 | [],y=>y
 | x,[]=>x
 | a::x,b::y=>(a+b)::ladd x y
noncomputable def lev:List Int->List Int->Int
 | a::x,b::y=>a*b+lev x y
 | _,_=>0
noncomputable def lone:Nat->List Int
 | 0=>[1]
 | i+1=>0::lone i
noncomputable def Li.add (x y:Li):Li:=⟨ladd x.p y.p,ladd x.q y.q,x.k+y.k⟩
noncomputable def Li.mul (c:Int)(x:Li):Li:=⟨x.p.map (c*·),x.q.map (c*·),c*x.k⟩
noncomputable def Li.ev (xs:List Nat)(ys:List Int)(x:Li):Int:=lev x.p (xs.map fun (n:Nat)=>(n:Int))+lev x.q ys+x.k
noncomputable def NE.l:NE->Li
 | .v i=>⟨lone i,[],0⟩
 | .n k=>⟨[],[],k⟩
 | .a x y=>x.l.add y.l
 | .m k x=>x.l.mul k
noncomputable def IE.l:IE->Li
 | .v i=>⟨[],lone i,0⟩
 | .n k=>⟨[],[],k⟩
 | .a x y=>x.l.add y.l
 | .s x y=>x.l.add (y.l.mul (-1))
 | .g x=>x.l.mul (-1)
 | .m k x=>x.l.mul k
 | .c x=>x.l
theorem lev_add:∀(x y z:List Int),lev (ladd x y) z=lev x z+lev y z
 | [],y,z=>by cases z<;>simp [ladd,lev]
 | a::x,[],z=>by cases z<;>simp [ladd,lev]
 | a::x,b::y,[]=>by simp [ladd,lev]
 | a::x,b::y,c::z=>by
  simp only [ladd,lev,lev_add x y z,Int.add_mul];lia
theorem lev_mul (c:Int):∀(x z:List Int),lev (x.map (c*·)) z=c*lev x z
 | [],z=>by cases z<;>simp [lev]
 | a::x,[]=>by simp [lev]
 | a::x,b::z=>by simp only [List.map_cons,lev,lev_mul c x z,Int.mul_add,Int.mul_assoc]
theorem lev_one:∀(i:Nat) (z:List Int),lev (lone i) z=z.getD i 0
 | 0,[]=>rfl
 | 0,b::z=>by cases z<;>simp [lone,lev]
 | i+1,[]=>rfl
 | i+1,b::z=>by simp [lone,lev,lev_one i z]
section
variable (xs:List Nat) (ys:List Int)
theorem Li.ev_add (x y:Li):(x.add y).ev xs ys=x.ev xs ys+y.ev xs ys:=by
 simp only [Li.add,Li.ev,lev_add];lia
theorem Li.ev_mul (c:Int)(x:Li):(x.mul c).ev xs ys=c*x.ev xs ys:=by
 simp only [Li.mul,Li.ev,lev_mul,Int.mul_add]
theorem NE.ok:∀e:NE,((e.d xs:Nat):Int)=e.l.ev xs ys
 | .v i=>by
  simp only [NE.d,NE.l,Li.ev,lev_one]
  have:(xs.map fun (n:Nat)=>(n:Int)).getD i 0=((xs.getD i 0:Nat):Int):=by
   simp only [List.getD_eq_getElem?_getD,List.getElem?_map]
   cases xs[i]? <;>rfl
  rw [this];cases ys<;>simp [lev]
 | .n k=>by simp [NE.d,NE.l,Li.ev,lev]
 | .a x y=>by rw [NE.l,Li.ev_add,<-NE.ok x,<-NE.ok y];simp [NE.d]
 | .m k x=>by rw [NE.l,Li.ev_mul,<-NE.ok x];simp [NE.d]
theorem IE.ok:∀e:IE,e.d xs ys=e.l.ev xs ys
 | .v i=>by
  simp only [IE.d,IE.l,Li.ev,lev_one]
  cases xs<;>simp [lev]
 | .n k=>by simp [IE.d,IE.l,Li.ev,lev]
 | .a x y=>by rw [IE.l,Li.ev_add,<-IE.ok x,<-IE.ok y];rfl
 | .s x y=>by rw [IE.l,Li.ev_add,Li.ev_mul,<-IE.ok x,<-IE.ok y];simp only [IE.d];lia
 | .g x=>by rw [IE.l,Li.ev_mul,<-IE.ok x];simp only [IE.d];lia
 | .m k x=>by rw [IE.l,Li.ev_mul,<-IE.ok x];rfl
 | .c x=>by rw [IE.l,<-NE.ok];rfl
noncomputable def Cn.l:Cn->Li
 | .nl x y=>x.l.add (y.l.mul (-1))
 | .nt x y=>(x.l.add (y.l.mul (-1))).add ⟨[],[],1⟩
 | .ne x y=>x.l.add (y.l.mul (-1))
 | .nf x y=>y.l.add (x.l.mul (-1))
 | .il x y=>x.l.add (y.l.mul (-1))
 | .it x y=>(x.l.add (y.l.mul (-1))).add ⟨[],[],1⟩
 | .ie x y=>x.l.add (y.l.mul (-1))
 | .jf x y=>y.l.add (x.l.mul (-1))
theorem ev_one:Li.ev xs ys ⟨[],[],1⟩=1:=by simp [Li.ev,lev]
theorem Cn.ok (c:Cn)(h:c.d xs ys):c.l.ev xs ys<=0:=by
 cases c<;>simp only [Cn.d,Cn.l,Li.ev_add,Li.ev_mul,<-NE.ok,<-IE.ok,ev_one] at h⊢<;>lia
noncomputable def imp:List (Nat × Cn)->Prop
 | []=>False
 | c::r=>c.2.d xs ys->imp r
noncomputable def linTot:Li->List (Nat × Cn)->Li
 | s,[]=>s
 | s,c::r=>linTot (s.add (c.2.l.mul c.1)) r
noncomputable def lok (x:Li):Bool:=x.p.all (fun a=>decide (0<=a))&&x.q.all (fun a=>decide (a=0))&&decide (0<x.k)
theorem lev_pos:∀(p:List Int) (zs:List Nat),p.all (fun a=>decide (0<=a))=true->0<=lev p (zs.map fun (n:Nat)=>(n:Int))
 | [],zs,_=>by cases zs<;>simp [lev]
 | a::p,[],_=>by simp [lev]
 | a::p,b::zs,h=>by
  simp only [List.all_cons,Bool.and_eq_true,decide_eq_true_eq] at h
  have:=lev_pos p zs h.2
  have:=Int.mul_nonneg h.1 (Int.natCast_nonneg b)
  simp only [List.map_cons,lev];lia
theorem lev_zero:∀(q:List Int) (z:List Int),q.all (fun a=>decide (a=0))=true->lev q z=0
 | [],z,_=>by cases z<;>simp [lev]
 | a::p,[],_=>by simp [lev]
 | a::p,b::zs,h=>by
  simp only [List.all_cons,Bool.and_eq_true,decide_eq_true_eq] at h
  simp only [lev,lev_zero p zs h.2,h.1];simp
theorem lin_of:∀(cs:List (Nat × Cn)) (s:Li),s.ev xs ys<=0->lok (linTot s cs)=true->imp xs ys cs
 | [],s,h,hk=>by
  simp only [linTot,lok,Bool.and_eq_true] at hk
  have h1:=lev_pos s.p xs hk.1.1
  have h2:=lev_zero s.q ys hk.1.2
  have h3:=of_decide_eq_true hk.2
  simp only [Li.ev] at h
  exact absurd h (by lia)
 | c::r,s,h,hk=>fun hc=>lin_of r _ (by
  rw [Li.ev_add,Li.ev_mul]
  have:=c.2.ok xs ys hc
  have:=Int.mul_le_mul_of_nonneg_left this (Int.natCast_nonneg c.1)
  lia) hk
end
theorem lin (xs:List Nat)(ys:List Int)(cs:List (Nat × Cn))(h:lok (linTot ⟨[],[],0⟩ cs)=true):imp xs ys cs:=lin_of xs ys cs _ (by cases xs<;>cases ys<;>simp [Li.ev,lev]) h
theorem z0 {a b c:Nat}(h0:a<b):a<b+c:=Nat.lt_add_right c h0
theorem z1 {a b c d:Int}:a+b+(c+d)=a+c+(b+d):=by lia
theorem z2 {a b:Int}(h0:a+b<0)(h1:¬(b<0)):a<0:=Int.not_le.mp fun qz=>lin [] [_,_] [(1,.il (.n 0) (.v 0)),(1,.il (.n 0) (.v 1)),(1,.it (.a (.v 0) (.v 1)) (.n 0))] rfl qz (Int.not_lt.mp h1) h0
theorem z3 {a b c d:Int}(h0:b<=d)(h1:a<=c):a+b<=c+d:=Int.add_le_add h1 h0
theorem z4 {a:Nat}(h0:a<0):False:=Nat.not_succ_le_zero a h0
theorem z5 {a b c d:Int}(h0:a+c<=b+d)(h1:d<=c):a<=b:=Int.not_lt.mp fun qz=>lin [] [_,_,_,_] [(1,.it (.v 0) (.v 1)),(1,.il (.v 2) (.v 3)),(1,.il (.a (.v 1) (.v 3)) (.a (.v 0) (.v 2)))] rfl qz h1 h0
theorem z6 {a b:Nat}(h0:a<b+1)(h1:¬(a=b)):a<b:=by lia
theorem z7 {a b c d:Int}:a-b+(c-d)=a+c-(b+d):=by lia
theorem z8 {a b:Nat}(h0:a<b):¬(a=b):=Nat.ne_of_lt h0
theorem z9 {a b:Int}(h0:0<=b)(h1:0<=a):0<=a+b:=Int.add_nonneg h1 h0
theorem z10 {a b:Int}(h0:0<=b)(h1:0<=a)(h2:a+b<=0):a=0:=Int.le_antisymm (Int.not_lt.mp fun qz=>lin [] [_,_] [(1,.it (.n 0) (.v 0)),(1,.il (.a (.v 0) (.v 1)) (.n 0)),(1,.il (.n 0) (.v 1))] rfl qz h2 h0) (Int.not_lt.mp fun qz=>lin [] [_] [(1,.it (.v 0) (.n 0)),(1,.il (.n 0) (.v 0))] rfl qz h1)
theorem z11 {a b:Int}(h0:0<=b)(h1:b+a<=0):a<=0:=Int.not_lt.mp fun qz=>lin [] [_,_] [(1,.it (.n 0) (.v 0)),(1,.il (.a (.v 1) (.v 0)) (.n 0)),(1,.il (.n 0) (.v 1))] rfl qz h1 h0
theorem z12 {a b:Nat}(h0:¬(b<a)):a<=b:=Nat.le_of_not_lt h0
theorem z13 {a b:Int}(h0:b<=a):0<=a-b:=Int.sub_nonneg_of_le h0
theorem z14 {a b:Int}(h0:0<=b):a-b<=a:=Int.sub_le_self a h0
theorem z15 {a b:Int}(h0:¬(b<=a)):a<b:=Int.lt_of_not_ge h0
theorem z16 {b:Nat}{a c:Int}(h0:c.toNat<=b+1)(h1:a<c):a.toNat<=b:=by simp at*;lia
theorem z17 {a b:Int}(h0:a=0):a-b= -b:=by lia
theorem z18 {a b:Int}(h0:0<b)(h1:a= -b):a<0:=Int.not_le.mp fun qz=>lin [] [_,_] [(1,.il (.n 0) (.v 0)),(1,.ie (.v 0) (.g (.v 1))),(1,.it (.n 0) (.v 1))] rfl qz h1 h0
theorem z19 {a b c:Int}(h0:a=b-c)(h1:c<=b)(h2:¬(c<b)):a=0:=Int.le_antisymm (Int.not_lt.mp fun qz=>lin [] [_,_,_] [(1,.it (.n 0) (.v 0)),(1,.il (.v 1) (.v 2)),(1,.ie (.v 0) (.s (.v 1) (.v 2)))] rfl qz (Int.not_lt.mp h2) h0) (Int.not_lt.mp fun qz=>lin [] [_,_,_] [(1,.it (.v 0) (.n 0)),(1,.il (.v 1) (.v 2)),(1,.jf (.v 0) (.s (.v 2) (.v 1)))] rfl qz h1 h0)
theorem z20 {a b c:Int}(h0:a=b-c)(h1:c<=b):0<=a:=Int.not_lt.mp fun qz=>lin [] [_,_,_] [(1,.it (.v 0) (.n 0)),(1,.il (.v 1) (.v 2)),(1,.jf (.v 0) (.s (.v 2) (.v 1)))] rfl qz h1 h0
theorem z21 {a b:Int}(h0:¬(b<a)):a<=b:=Int.not_lt.mp h0
theorem z22 {a b:Int}(h0:a<b)(h1:b<=a):False:=lin [] [_,_] [(1,.il (.v 0) (.v 1)),(1,.it (.v 1) (.v 0))] rfl h1 h0
theorem z23 {a b c:Nat}(h0:a<c)(h1:b=c):a<b:=Nat.lt_of_lt_of_eq h0 (id (Eq.symm h1))
theorem z24 {a b:Nat}(h0:a<b):a<=b:=Nat.le_of_lt h0
theorem z26 {a b:Nat}(h0:a<b+1)(h1:¬(a<b)):a=b:=Nat.eq_of_lt_succ_of_not_lt h0 h1
theorem z27 {a:Nat}:a<=a:=Nat.le_refl a
theorem z28 {a b:Nat}(h0:a=b):a<=b:=Nat.le_of_eq h0
theorem z29 {a b:Nat}(h0:b=a):a<=b:=(Nat.le_of_eq h0.symm)
theorem z32 {a b c:Nat}(h0:a+c<=b):a<=b:=Nat.le_of_add_right_le h0
theorem z36 {a b c:Int}(h0:a+c=b)(h1:c=0):a=b:=Int.le_antisymm (Int.not_lt.mp fun qz=>lin [] [_,_,_] [(1,.it (.v 0) (.v 1)),(1,.jf (.v 2) (.n 0)),(1,.ie (.a (.v 1) (.v 2)) (.v 0))] rfl qz h1 h0) (Int.not_lt.mp fun qz=>lin [] [_,_,_] [(1,.it (.v 0) (.v 1)),(1,.ie (.v 2) (.n 0)),(1,.jf (.a (.v 0) (.v 2)) (.v 1))] rfl qz h1 h0)
theorem z39 {a b c:Nat}(h0:a<c)(h1:c=b):a<b:=Nat.lt_of_lt_of_le h0 (Nat.le_of_eq h1)
theorem z42 {a b:Nat}(h0:b<=a):a-(a-b)=b:=Nat.sub_sub_self h0
theorem z47 {a b c:Int}(h0:a=c)(h1:c<=b):a<=b:=le_of_eq_of_le h0 h1
theorem z51 {a b c:Int}:a+(b+c)=b+(a+c):=Int.add_left_comm a b c
theorem z52 {a b:Nat}(h0:a<=b)(h1:¬(b=a)):a+1<=b:=by lia
theorem z53 {a b c:Int}(h0:b-a=c): -a+b=c:=by lia
theorem z54 {a b c d:Nat}(h0:a+(c+b)=d):a+b+c=d:=by lia
theorem z55 {a b c:Int}(h0:a<b)(h1:a=c)(h2:b<=c):False:=lin [] [_,_,_] [(1,.il (.v 0) (.v 1)),(1,.jf (.v 2) (.v 1)),(1,.it (.v 2) (.v 0))] rfl h2 h1 h0
theorem z56 {a:Int}(h0:¬(0<=a)):0<=-a:=Int.not_lt.mp fun qz=>lin [] [_] [(1,.it (.g (.v 0)) (.n 0)),(1,.it (.v 0) (.n 0))] rfl qz (Int.not_le.mp h0)
theorem z57 {a:Int}(h0:a<0):0< -a:=Int.neg_pos_of_neg h0
theorem z58 {a b c:Int}(h0:a+(b+c)=c):a= -b:=by lia
theorem z59 {a b:Int}(h0:0*b+(a+0)=0):a=0:=by lia
theorem z60 {a b:Int}:a+(-b+0)=a-b:=by lia
theorem z61 {a:Int}(h0:¬(0<a)):0<=-a:=Int.not_lt.mp fun qz=>lin [] [_] [(1,.it (.g (.v 0)) (.n 0)),(1,.il (.v 0) (.n 0))] rfl qz (Int.not_lt.mp h0)
theorem z62 {a b:Int}(h0:0<=-b)(h1:0<=a):0<=a-b:=Int.not_lt.mp fun qz=>lin [] [_,_] [(1,.it (.s (.v 0) (.v 1)) (.n 0)),(1,.il (.n 0) (.v 0)),(1,.il (.n 0) (.g (.v 1)))] rfl qz h1 h0
theorem z63 {a b:Int}(h0:0<=a)(h1:a+1<=b)(h2:b.toNat<=a.toNat):False:=by simp at*;lia
theorem z64 {a:Int}(h0:a<0):0< -1*a+(0*a+0):=by lia
theorem z65 {a b:Int}:1*a+(-1*b+0)=a-b:=by lia
theorem z66 {b:Nat}{a:Int}(h0:0<=a)(h1:a<=(b:Int)):0<=a/\a<0+(b+1:Int):=⟨h0,Int.not_le.mp fun qz=>lin [_] [_] [(1,.il (.a (.n 0) (.a (.c (.v 0)) (.n 1))) (.v 0)),(1,.il (.v 0) (.c (.v 0)))] rfl qz h1⟩
theorem z67 {b:Nat}{a c:Int}(h0:0<=c)(h1:a+c<=(b:Int)):a.toNat<b+1:=by simp;lia
theorem z69 {a:Nat}(h0:a<=5):a<6:=Nat.lt_succ_of_le h0
theorem z70 {b:Nat}{a:Int}(h0:(b+1:Int)<=a):0<a:=Int.not_le.mp fun qz=>lin [_] [_] [(1,.il (.v 0) (.n 0)),(1,.il (.a (.c (.v 0)) (.n 1)) (.v 0))] rfl qz h0
theorem z71 {a b:Int}(h0:0<=a):0<=a+b*0:=by lia
theorem z72 {a:Nat}{b:Int}(h0:(a+1:Int)<=b):(a:Int)<=b+-1:=Int.sub_right_le_iff_le_add.mp h0
theorem z73 {a b c:Int}(h0:a<=b+c*0):a<=b:=by lia
theorem z74 {a b:Nat}(h0:a<b)(h1:b<=a):False:=lin [_,_] [] [(1,.nl (.v 0) (.v 1)),(1,.nt (.v 1) (.v 0))] rfl h1 h0
theorem z75 {a:Nat}:1+(a:Int)=(a+1:Int):=Int.add_comm 1 ↑a
theorem z76 {a b:Nat}(h0:b<a):0<(a:Int):=Int.not_le.mp fun qz=>lin [_,_] [] [(1,.il (.c (.v 0)) (.n 0)),(1,.nt (.v 1) (.v 0))] rfl qz h0
theorem z89 {b:Nat}{a:Int}:a<=(a.natAbs+b:Int):=by lia
theorem z90 {b c:Nat}{a:Int}(h0:a<=(c:Int)):a<=(b+c:Int):=Int.not_lt.mp fun qz=>lin [_,_] [_] [(1,.it (.a (.c (.v 0)) (.c (.v 1))) (.v 0)),(1,.il (.v 0) (.c (.v 1)))] rfl qz h0
theorem z91 {b c:Nat}{a:Int}(h0:a<=(b:Int)):a<=(b+c:Int):=Int.not_lt.mp fun qz=>lin [_,_] [_] [(1,.it (.a (.c (.v 0)) (.c (.v 1))) (.v 0)),(1,.il (.v 0) (.c (.v 0)))] rfl qz h0
theorem z112 {a b c:Nat}(h0:a<min c b):a<b:=Nat.lt_of_lt_of_le h0 (Nat.min_le_right _ _)
theorem z113 {a b c:Nat}(h0:a<min b c):a<b:=Nat.lt_of_lt_of_le h0 (Nat.min_le_left _ _)
theorem z114 {a b:Nat}(h0:b<a):a-1<a:=Nat.sub_one_lt_of_lt h0
theorem z115 {a b:Int}(h0:0<=b):a<=a+b:=Int.le_add_of_nonneg_right h0
theorem z116 {a b:Int}(h0:b=a+1):a<b:=Int.lt.intro (id (Eq.symm h0))
theorem z117 {a b c:Int}(h0:a<c)(h1:b=c+1):a<b:=Int.not_le.mp fun qz=>lin [] [_,_,_] [(1,.il (.v 0) (.v 1)),(1,.jf (.v 0) (.a (.v 2) (.n 1))),(1,.it (.v 1) (.v 2))] rfl qz h1 h0
theorem z118 {a b:Int}(h0:b<a):0<a-b:=Int.sub_pos_of_lt h0
theorem z119 {a b c:Int}(h0:0<=a)(h1:b-a=c)(h2:b<c):False:=lin [] [_,_,_] [(1,.it (.v 0) (.v 1)),(1,.jf (.s (.v 0) (.v 2)) (.v 1)),(1,.il (.n 0) (.v 2))] rfl h2 h1 h0
theorem z120 {a b c d:Nat}(h0:c<b)(h1:d=b-1)(h2:a<=d):a+1<=b:=Nat.not_lt.mp fun qz=>lin [_,_,_,_] [] [(1,.nt (.v 0) (.a (.v 1) (.n 1))),(1,.nl (.v 1) (.v 2)),(1,.ne (.v 2) (.v 3)),(1,.ne (.a (.v 3) (.n 1)) (.v 0))] rfl qz h2 h1 (Nat.sub_add_cancel (Nat.not_lt.mp fun qz=>lin [_,_] [] [(1,.nt (.v 0) (.n 1)),(1,.nt (.v 1) (.v 0))] rfl qz h0))
theorem z121 {a c:Nat}{b:Int}(h0:a<=c):(a:Int)+b<=(c:Int)+b:=Int.not_lt.mp fun qz=>lin [_,_] [_] [(1,.it (.a (.c (.v 0)) (.v 0)) (.a (.c (.v 1)) (.v 0))),(1,.nl (.v 1) (.v 0))] rfl qz h0
theorem z122 {a b c:Int}(h0:c<b)(h1:a<=c):a<b:=Int.lt_of_le_of_lt h1 h0
theorem z123 {a b c:Int}(h0:a=c+1)(h1:¬(b<=c)):a<=b:=Int.not_lt.mp fun qz=>lin [] [_,_,_] [(1,.it (.v 0) (.v 1)),(1,.it (.v 2) (.v 0)),(1,.ie (.v 1) (.a (.v 2) (.n 1)))] rfl qz (Int.not_le.mp h1) h0
theorem z124 {a b:Int}(h0:a<=b):a<=b+1:=Int.le_add_one h0
theorem z125 {b:Nat}{a:Int}(h0:a=(b:Int)+1):0<a:=Int.not_le.mp fun qz=>lin [_] [_] [(1,.il (.v 0) (.n 0)),(1,.jf (.v 0) (.a (.c (.v 0)) (.n 1)))] rfl qz h0
theorem z126 {a b:Int}(h0:a=b):a<=b:=Int.le_of_eq h0
theorem z127 {a b:Int}(h0:a=b+1)(h1:a<=b):False:=lin [] [_,_] [(1,.il (.v 0) (.v 1)),(1,.jf (.v 0) (.a (.v 1) (.n 1)))] rfl h1 h0
theorem z128 {a b:Int}(h0:¬(b<=a)):a+1<=b:=Int.not_lt.mp fun qz=>lin [] [_,_] [(1,.it (.v 0) (.a (.v 1) (.n 1))),(1,.it (.v 1) (.v 0))] rfl qz (Int.not_le.mp h0)
theorem z129 {c:Nat}{a b:Int}(h0:b=(c:Int)+1)(h1:a<=(c+1:Int)):a<=b:=Int.le_trans h1 (Int.le_of_eq h0.symm)
theorem z130 {a d:Nat}{b c:Int}(h0:(a+d:Int)+b<=c):(a:Int)+b<=c:=Int.not_lt.mp fun qz=>lin [_,_] [_,_] [(1,.it (.v 0) (.a (.c (.v 0)) (.v 1))),(1,.il (.a (.a (.c (.v 0)) (.c (.v 1))) (.v 1)) (.v 0))] rfl qz h0
theorem z131 {a:Nat}{b c:Int}(h0:(a+1:Int)+b<=c)(h1:c=(a:Int)+b):False:=lin [_] [_,_] [(1,.ie (.v 0) (.a (.c (.v 0)) (.v 1))),(1,.il (.a (.a (.c (.v 0)) (.n 1)) (.v 1)) (.v 0))] rfl h1 h0
theorem z132 {a b:Int}(h0:a<=b):a+0<=b:=Int.not_lt.mp fun qz=>lin [] [_,_] [(1,.it (.v 0) (.a (.v 1) (.n 0))),(1,.il (.v 1) (.v 0))] rfl qz h0
theorem z134 {a:Int}(h0: -a<0):1<=a:=Int.not_lt.mp fun qz=>lin [] [_] [(1,.it (.v 0) (.n 1)),(1,.it (.g (.v 0)) (.n 0))] rfl qz h0
theorem z149 {a b c:Nat}(h0:a<c)(h1:c<=b):¬((a:Int)=(b:Int)):=fun qz=>lin [_,_,_] [] [(1,.jf (.c (.v 0)) (.c (.v 1))),(1,.nl (.v 2) (.v 1)),(1,.nt (.v 0) (.v 2))] rfl qz h1 h0
theorem z150 {a b c d e f g k m n p q r s t u:Int}:a+b+(c+d)*65536+(e+f)*4294967296+(g+k)*281474976710656+((m+n)*18446744073709551616+(p+q)*1208925819614629174706176+(r+s)*79228162514264337593543950336+(t+u)*5192296858534827628530496329220096)=a+c*65536+e*4294967296+g*281474976710656+(m*18446744073709551616+p*1208925819614629174706176+r*79228162514264337593543950336+t*5192296858534827628530496329220096)+(b+d*65536+f*4294967296+k*281474976710656+(n*18446744073709551616+q*1208925819614629174706176+s*79228162514264337593543950336+u*5192296858534827628530496329220096)):=by lia
theorem z151 {a b c d:Int}(h0: -a<=c)(h1: -b<=d)(h2:c<=a)(h3:d<=b): -(a+b)<=c+d/\c+d<=a+b:=⟨Int.not_lt.mp fun qz=>lin [] [_,_,_,_] [(1,.it (.a (.v 0) (.v 1)) (.g (.a (.v 2) (.v 3)))),(1,.il (.g (.v 3)) (.v 1)),(1,.il (.g (.v 2)) (.v 0))] rfl qz h1 h0,Int.not_lt.mp fun qz=>lin [] [_,_,_,_] [(1,.it (.a (.v 0) (.v 1)) (.a (.v 2) (.v 3))),(1,.il (.v 3) (.v 1)),(1,.il (.v 2) (.v 0))] rfl qz h3 h2⟩
theorem z152 {c:Nat}{a b:Int}(h0:b<=(c:Int))(h1:a<=b)(h2:c<32768):a<32768:=Int.not_le.mp fun qz=>lin [_] [_,_] [(1,.il (.n 32768) (.v 0)),(1,.nt (.v 0) (.n 32768)),(1,.il (.v 0) (.v 1)),(1,.il (.v 1) (.c (.v 0)))] rfl qz h2 h1 h0
theorem z153 {c:Nat}{a b:Int}(h0: -b<=a)(h1:b<=(c:Int))(h2:a<=b)(h3:c<32768): -32768<a/\a<32768:=⟨Int.not_le.mp fun qz=>lin [_] [_,_] [(1,.il (.v 0) (.g (.n 32768))),(1,.nt (.v 0) (.n 32768)),(1,.il (.v 1) (.c (.v 0))),(1,.il (.g (.v 1)) (.v 0))] rfl qz h3 h1 h0,Int.not_le.mp fun qz=>lin [_] [_,_] [(1,.il (.n 32768) (.v 0)),(1,.nt (.v 0) (.n 32768)),(1,.il (.v 0) (.v 1)),(1,.il (.v 1) (.c (.v 0)))] rfl qz h3 h2 h1⟩
theorem z154 {a b c d e f g k:Int}(h0: -32768<e)(h1: -32768<k)(h2: -32768<g)(h3: -32768<f)(h4:0<=a)(h5:0<=d)(h6:0<=c)(h7:0<=b):0<=a+b*65536+c*4294967296+d*281474976710656+(e*18446744073709551616+f*1208925819614629174706176+g*79228162514264337593543950336+k*5192296858534827628530496329220096)+170143779648513184865543545075408044032:=by lia
theorem z155 {a b c d e:Int}:a+(b*18446744073709551616+c*1208925819614629174706176+d*79228162514264337593543950336+e*5192296858534827628530496329220096)+170143779648513184865543545075408044032=a+((b+32768)*18446744073709551616+(c+32768)*1208925819614629174706176+(d+32768)*79228162514264337593543950336+(e+32768)*5192296858534827628530496329220096):=by lia
theorem z157 {a b c:Nat}{d e f g:Int}(h0:(b:Int)=d+340282366920938463463374607431768211456*e)(h1:(a:Int)=f+g)(h2:(c:Int)=f+d+g)(h3:c<340282366920938463463374607431768211456):(a+b)%340282366920938463463374607431768211456=c:=by lia
theorem z158 {a b:Nat}{c:Int}(h0:(a:Int)=c)(h1:(b:Int)=c):a=b:=by lia
theorem z159 {a b:Int}(h0:a<b):a<b+1:=Int.not_le.mp fun qz=>lin [] [_,_] [(1,.il (.a (.v 0) (.n 1)) (.v 1)),(1,.it (.v 1) (.v 0))] rfl qz h0
theorem z160 {a b c:Int}(h0:a<c)(h1:b=c):a<b:=Int.lt_of_lt_of_le h0 (Int.le_of_eq h1.symm)
theorem z161 {a b:Int}(h0:a=b):a<b+1:=Int.lt.intro (congrFun (congrArg HAdd.hAdd h0) (↑0+1))
theorem z162 {a b:Int}(h0:a<b+1)(h1:¬(a<b)):a=b:=Int.le_antisymm (Int.not_lt.mp fun qz=>lin [] [_,_] [(1,.it (.v 0) (.v 1)),(1,.it (.v 1) (.a (.v 0) (.n 1)))] rfl qz h0) (Int.not_lt.mp fun qz=>lin [] [_,_] [(1,.it (.v 0) (.v 1)),(1,.il (.v 1) (.v 0))] rfl qz (Int.not_lt.mp h1))
theorem z163 {a b c:Int}(h0:a<c+1)(h1:c<=b):a<=b:=Int.not_lt.mp fun qz=>lin [] [_,_,_] [(1,.it (.v 0) (.v 1)),(1,.il (.v 2) (.v 0)),(1,.it (.v 1) (.a (.v 2) (.n 1)))] rfl qz h1 h0
theorem z164 {a b:Int}(h0:a+1<=b):a<=b:=Int.le_of_lt h0
theorem z165 {a b c:Int}(h0:c+1<=b)(h1:a=c):a<=b:=Int.le_of_lt (Int.lt_of_le_of_lt (Int.le_of_eq h1) h0)
theorem z166 {a b c d:Int}(h0:d+b<=c)(h1:a=d):a+b<=c:=le_of_eq_of_le (congrFun (congrArg HAdd.hAdd h1) b) h0
theorem z167 {a b c d:Int}(h0:c=b+d)(h1:c=a+d):a=b:=Int.le_antisymm (Int.not_lt.mp fun qz=>lin [] [_,_,_,_] [(1,.it (.v 0) (.v 1)),(1,.jf (.v 2) (.a (.v 1) (.v 3))),(1,.ie (.v 2) (.a (.v 0) (.v 3)))] rfl qz h1 h0) (Int.not_lt.mp fun qz=>lin [] [_,_,_,_] [(1,.it (.v 0) (.v 1)),(1,.ie (.v 2) (.a (.v 0) (.v 3))),(1,.jf (.v 2) (.a (.v 1) (.v 3)))] rfl qz h1 h0)
theorem z168 {d:Nat}{a b c:Int}(h0:b<c)(h1:c<=(d:Int))(h2:a<=b)(h3:d<32768):a<32768:=Int.not_le.mp fun qz=>lin [_] [_,_,_] [(1,.il (.n 32768) (.v 0)),(1,.nt (.v 0) (.n 32768)),(1,.il (.v 0) (.v 1)),(1,.il (.v 2) (.c (.v 0))),(1,.it (.v 1) (.v 2))] rfl qz h3 h2 h1 h0
theorem z169 {a b:Int}(h0:a<b)(h1:a=b):False:=lin [] [_,_] [(1,.jf (.v 0) (.v 1)),(1,.it (.v 0) (.v 1))] rfl h1 h0
theorem z170 {d:Nat}{a b c:Int}(h0:a=b)(h1:a=c+(d+1:Int))(h2:b<=c):False:=lin [_] [_,_,_] [(1,.il (.v 0) (.v 1)),(1,.jf (.v 2) (.a (.v 1) (.a (.c (.v 0)) (.n 1)))),(1,.ie (.v 2) (.v 0))] rfl h2 h1 h0
theorem z171 {c:Nat}{a b d:Int}(h0:a=b+(c+1:Int))(h1:a=d+1)(h2:d≠b+(c:Int)):False:=by grind
theorem z172 {a:Int}(h0:0<a):1<=a:=Int.le_of_sub_one_lt h0
theorem z173 {a b:Int}(h0:a≠b+((a-b).toNat:Int))(h1:¬(a<b)):False:=by lia
theorem z174 {d:Nat}{a b c:Int}(h0:c+(d:Int)<=b)(h1:a<c):a<=b:=Int.not_lt.mp fun qz=>lin [_] [_,_,_] [(1,.it (.v 0) (.v 1)),(1,.it (.v 1) (.v 2)),(1,.il (.a (.v 2) (.c (.v 0))) (.v 0))] rfl qz h1 h0
theorem z175 {c:Nat}{a b:Int}(h0:a+(c+1:Int)<=b):a+1<=b:=Int.not_lt.mp fun qz=>lin [_] [_,_] [(1,.it (.v 0) (.a (.v 1) (.n 1))),(1,.il (.a (.v 1) (.a (.c (.v 0)) (.n 1))) (.v 0))] rfl qz h0
theorem z176 {b:Nat}{a c:Int}(h0:a+(b+1:Int)<=c):a+1+(b:Int)<=c:=Int.not_lt.mp fun qz=>lin [_] [_,_] [(1,.it (.v 0) (.a (.a (.v 1) (.n 1)) (.c (.v 0)))),(1,.il (.a (.v 1) (.a (.c (.v 0)) (.n 1))) (.v 0))] rfl qz h0
theorem z177 {a:Nat}(h0:1<=a):1<=(a:Int):=Int.toNat_le.mp h0
theorem z178 {a b:Int}:a+b=0+a+b:=by simp
theorem z179 {a b:Nat}(h0:1+a<=b):1+(a:Int)<=(b:Int):=Int.toNat_le.mp h0
theorem z180 {a:Nat}(h0:a<32768):a<=100000000:=Nat.le_of_lt (Nat.lt_trans h0 (by decide))
theorem z182 {a b c:Nat}(h0:b<c)(h1:¬(a<c)):¬(a=b):=fun qz=>lin [_,_,_] [] [(1,.ne (.v 0) (.v 1)),(1,.nl (.v 2) (.v 0)),(1,.nt (.v 1) (.v 2))] rfl qz (Nat.not_lt.mp h1) h0
theorem z186 {a b k m n p:Nat}{c d e f g:Int}(h0:(k:Int)=65536*g+f)(h1:(m:Int)=65536+c)(h2:(n:Int)=65536+e)(h3:(p:Int)=65536+d)(h4:b+(m*18446744073709551616+p*1208925819614629174706176+(n*79228162514264337593543950336+(k*5192296858534827628530496329220096+340277174544850557195662124712720334848)))=a):(a:Int)=(b:Int)+(c*18446744073709551616+d*1208925819614629174706176+e*79228162514264337593543950336+f*5192296858534827628530496329220096)+340282366920938463463374607431768211456*(g+1):=by lia
theorem z187 {a:Nat}{b c:Int}(h0:(a:Int)=b+340282366920938463463374607431768211456*c):(a%340282366920938463463374607431768211456:Int)=b+340282366920938463463374607431768211456*(c-(a/340282366920938463463374607431768211456:Int)):=by lia
theorem z192 {b:Nat}{a:Int}(h0: -(b:Int)<=a)(h1:a<=(b:Int)):a.natAbs<=b:=by lia
theorem z194 {a b:Int}(h0: -b<=a):0<=a+b:=Int.add_nonneg_iff_neg_le.mpr h0
theorem z198 {a c:Nat}{b:Int}(h0: -(c:Int)<=b)(h1:b<=(c:Int))(h2:c<=a): -(a:Int)<=b/\b<=(a:Int):=⟨Int.not_lt.mp fun qz=>lin [_,_] [_] [(1,.it (.v 0) (.g (.c (.v 0)))),(1,.nl (.v 1) (.v 0)),(1,.il (.g (.c (.v 1))) (.v 0))] rfl qz h2 h0,Int.not_lt.mp fun qz=>lin [_,_] [_] [(1,.it (.c (.v 0)) (.v 0)),(1,.nl (.v 1) (.v 0)),(1,.il (.v 0) (.c (.v 1)))] rfl qz h2 h1⟩
theorem z199 {a:Nat}: -(a:Int)<=0/\0<=(a:Int):=by simp
theorem z202 {a:Nat}(h0:a<3):a=0\/a=1\/a=2:=(by decide:∀x,x<3->(x=0\/x=1\/x=2)) a h0
theorem z203 {a:Nat}(h0:a<5):a=0\/a=1\/a=2\/a=3\/a=4:=by lia
theorem z231 {a b c:Int}(h0:b<=a)(h1:c<=b)(h2:a<=c):a=b:=Int.le_antisymm (Int.not_lt.mp fun qz=>lin [] [_,_,_] [(1,.it (.v 0) (.v 1)),(1,.il (.v 1) (.v 2)),(1,.il (.v 2) (.v 0))] rfl qz h2 h1) (Int.not_lt.mp fun qz=>lin [] [_,_] [(1,.it (.v 0) (.v 1)),(1,.il (.v 1) (.v 0))] rfl qz h0)
theorem z232 {a b c:Int}(h0:c=b)(h1:c<=a)(h2:a<=b):a=b:=Int.le_antisymm (Int.not_lt.mp fun qz=>lin [] [_,_] [(1,.it (.v 0) (.v 1)),(1,.il (.v 1) (.v 0))] rfl qz h2) (Int.not_lt.mp fun qz=>lin [] [_,_,_] [(1,.it (.v 0) (.v 1)),(1,.il (.v 2) (.v 0)),(1,.jf (.v 2) (.v 1))] rfl qz h1 h0)
theorem z233 {a b c d e:Int}(h0:b=e)(h1:a=e):a<=b/\c<=d\/b<=a/\d<=c:=by lia
theorem z234 {a b c d:Int}(h0:a+b<=c)(h1:d=c)(h2:d<=a)(h3:¬(b<=0)):False:=lin [] [_,_,_,_] [(1,.it (.n 0) (.v 0)),(1,.il (.v 1) (.v 2)),(1,.jf (.v 1) (.v 3)),(1,.il (.a (.v 2) (.v 0)) (.v 3))] rfl (Int.not_le.mp h3) h2 h1 h0
theorem z235 {a b:Nat}:a<=b+a:=Nat.le_add_left a b
theorem z236 {a b:Int}(h0:a-b=0)(h1:a≠b):False:=by lia
theorem z237 {a b c:Int}(h0:b<b+c+a)(h1:¬(1<=c)):1<=a:=Int.not_lt.mp fun qz=>lin [] [_,_,_] [(1,.it (.v 0) (.n 1)),(1,.it (.v 1) (.n 1)),(1,.it (.v 2) (.a (.a (.v 2) (.v 1)) (.v 0)))] rfl qz (Int.not_le.mp h1) h0
theorem z252 {a:Nat}(h0:a<2):a=0\/a=1:=by lia
theorem z258 {a b:Int}(h0: -a<=b)(h1:b<=a): -a<=-b/\-b<=a:=⟨Int.not_lt.mp fun qz=>lin [] [_,_] [(1,.it (.g (.v 0)) (.g (.v 1))),(1,.il (.v 0) (.v 1))] rfl qz h1,Int.not_lt.mp fun qz=>lin [] [_,_] [(1,.it (.v 0) (.g (.v 1))),(1,.il (.g (.v 0)) (.v 1))] rfl qz h0⟩
theorem z273 {a:Int}(h0:¬(1<=a)):a<=0:=by lia
theorem z274 {a b:Int}(h0:0<a)(h1:b= -a)(h2:b=0):False:=lin [] [_,_] [(1,.jf (.v 0) (.n 0)),(1,.ie (.v 0) (.g (.v 1))),(1,.it (.n 0) (.v 1))] rfl h2 h1 h0
theorem z275 {a b:Int}(h0:a<b):a<=b:=Int.le_of_lt h0
theorem z283 {a:Int}(h0:1<=a):0<a:=Int.lt_of_add_one_le h0
theorem z289 {a:Nat}:0<=(a:Int):=by simp
theorem z309 {b:Nat}{a:Int}(h0:0<=a)(h1:a<(b:Int)):a.toNat<b:=(Int.toNat_lt h0).mpr h1
theorem z310 {a b c d:Int}(h0:a+c=d)(h1:b+c=d):a=b:=Int.le_antisymm (Int.not_lt.mp fun qz=>lin [] [_,_,_,_] [(1,.it (.v 0) (.v 1)),(1,.jf (.a (.v 0) (.v 2)) (.v 3)),(1,.ie (.a (.v 1) (.v 2)) (.v 3))] rfl qz h1 h0) (Int.not_lt.mp fun qz=>lin [] [_,_,_,_] [(1,.it (.v 0) (.v 1)),(1,.ie (.a (.v 1) (.v 2)) (.v 3)),(1,.jf (.a (.v 0) (.v 2)) (.v 3))] rfl qz h1 h0)
theorem z311 {a b:Nat}(h0:0=a)(h1:a=b+1):False:=lin [_,_] [] [(1,.nf (.v 0) (.a (.v 1) (.n 1))),(1,.nf (.n 0) (.v 0))] rfl h1 h0
theorem z312 {a b:Nat}(h0:b<a):a=a-1+1:=((Nat.sub_add_cancel (Nat.not_lt.mp fun qz=>lin [_,_] [] [(1,.nt (.v 0) (.n 1)),(1,.nt (.v 1) (.v 0))] rfl qz h0))).symm
theorem z313 {a b c:Int}(h0:c<=b)(h1:a<=c):a<b+1:=Int.not_le.mp fun qz=>lin [] [_,_,_] [(1,.il (.a (.v 0) (.n 1)) (.v 1)),(1,.il (.v 1) (.v 2)),(1,.il (.v 2) (.v 0))] rfl qz h1 h0
theorem z314 {a:Nat}(h0:a<=24):a-1<=23:=Nat.sub_le_of_le_add h0
theorem z345 {b:Nat}{a:Int}(h0:a<=(b:Int)):(a+(b:Int)).toNat<2*b+1:=by simp;lia
theorem z349 {a:Int}(h0:a<0):0<=-a:=Int.not_lt.mp fun qz=>lin [] [_] [(1,.it (.g (.v 0)) (.n 0)),(1,.it (.v 0) (.n 0))] rfl qz h0
theorem z355 {a b:Int}(h0:a<=b):a<=1*b:=Int.not_lt.mp fun qz=>lin [] [_,_] [(1,.it (.m 1 (.v 0)) (.v 1)),(1,.il (.v 1) (.v 0))] rfl qz h0
theorem z371 {a b:Nat}(h0:a<b+1):a<=b:=Nat.le_of_lt_succ h0
theorem z372 {a b c d e f:Int}(h0:e+c=a)(h1:f+d=b)(h2:f=e):a-b=c-d:=Int.le_antisymm (Int.not_lt.mp fun qz=>lin [] [_,_,_,_,_,_] [(1,.it (.s (.v 0) (.v 1)) (.s (.v 2) (.v 3))),(1,.jf (.v 4) (.v 5)),(1,.ie (.a (.v 4) (.v 1)) (.v 3)),(1,.jf (.a (.v 5) (.v 0)) (.v 2))] rfl qz h2 h1 h0) (Int.not_lt.mp fun qz=>lin [] [_,_,_,_,_,_] [(1,.it (.s (.v 0) (.v 1)) (.s (.v 2) (.v 3))),(1,.ie (.v 4) (.v 5)),(1,.jf (.a (.v 4) (.v 3)) (.v 1)),(1,.ie (.a (.v 5) (.v 2)) (.v 0))] rfl qz h2 h1 h0)
theorem z373 {a b:Nat}(h0:b<a):(a:Int)≠0:=fun qz=>lin [_,_] [] [(1,.ie (.c (.v 0)) (.n 0)),(1,.nt (.v 1) (.v 0))] rfl qz h0
theorem z374 {a:Int}(h0:0<=a):(a.toNat:Int)=a:=Int.toNat_of_nonneg h0
theorem z375 {a:Nat}(h0:a+1<=a):False:=lin [_] [] [(1,.nl (.a (.v 0) (.n 1)) (.v 0))] rfl h0
theorem z376 {a b e:Nat}{c d:Int}(h0: -(b:Int)<=c)(h1: -(a:Int)<=d)(h2:d<=-(e:Int))(h3:c<=-1): -(a+b:Int)<=c+d/\c+d<=-(e+1:Int):=⟨Int.not_lt.mp fun qz=>lin [_,_] [_,_] [(1,.it (.a (.v 0) (.v 1)) (.g (.a (.c (.v 0)) (.c (.v 1))))),(1,.il (.g (.c (.v 0))) (.v 1)),(1,.il (.g (.c (.v 1))) (.v 0))] rfl qz h1 h0,Int.not_lt.mp fun qz=>lin [_] [_,_] [(1,.it (.g (.a (.c (.v 0)) (.n 1))) (.a (.v 0) (.v 1))),(1,.il (.v 0) (.g (.n 1))),(1,.il (.v 1) (.g (.c (.v 0))))] rfl qz h3 h2⟩
theorem z377 {a b:Int}:a+b=b+(1:Int)*a:=by lia
theorem z378 {a:Int}(h0:0<a):a=(a.toNat:Int):=by cases a<;>simp<;>lia
theorem z379 {a b:Int}(h0:¬(b<=a)):a<=b-1:=Int.not_lt.mp fun qz=>lin [] [_,_] [(1,.it (.s (.v 0) (.n 1)) (.v 1)),(1,.it (.v 1) (.v 0))] rfl qz (Int.not_le.mp h0)
theorem z380 {g:Nat}{a b c d e f:Int}(h0: -a+b<=c)(h1:d+e<=b)(h2:c<f)(h3:f=e)(h4:a<=d-(g:Int)):False:=lin [_] [_,_,_,_,_,_] [(1,.il (.v 0) (.s (.v 1) (.c (.v 0)))),(1,.ie (.v 2) (.v 3)),(1,.it (.v 4) (.v 2)),(1,.il (.a (.v 1) (.v 3)) (.v 5)),(1,.il (.a (.g (.v 0)) (.v 5)) (.v 4))] rfl h4 h3 h2 h1 h0
theorem z381 {a:Nat}{b:Int}(h0:0<b)(h1:b=(a:Int)):0<a:=Nat.not_le.mp fun qz=>lin [_] [_] [(1,.nl (.v 0) (.n 0)),(1,.ie (.v 0) (.c (.v 0))),(1,.it (.n 0) (.v 0))] rfl qz h1 h0
theorem z382 {a b c d:Nat}(h0:b=d)(h1:a<=d):min a b-c=a-c:=by lia
theorem z383 {a b:Int}(h0:b<0)(h1:a<=b):a<=b/\b<=-1:=⟨h1,Int.not_lt.mp fun qz=>lin [] [_] [(1,.it (.g (.n 1)) (.v 0)),(1,.it (.v 0) (.n 0))] rfl qz h0⟩
theorem z384 {a b c d:Int}(h0:c-d=b)(h1:c=d+a):a=b:=Int.le_antisymm (Int.not_lt.mp fun qz=>lin [] [_,_,_,_] [(1,.it (.v 0) (.v 1)),(1,.jf (.v 2) (.a (.v 3) (.v 1))),(1,.ie (.s (.v 2) (.v 3)) (.v 0))] rfl qz h1 h0) (Int.not_lt.mp fun qz=>lin [] [_,_,_,_] [(1,.it (.v 0) (.v 1)),(1,.ie (.v 2) (.a (.v 3) (.v 0))),(1,.jf (.s (.v 2) (.v 3)) (.v 1))] rfl qz h1 h0)
theorem z385 {a b c d:Nat}(h0:a=c-d)(h1:c<=b):a<=b:=Nat.le_trans (Nat.le_trans (Nat.le_of_eq h0) (Nat.sub_le _ _)) h1
theorem z386 {e f g:Nat}{a b c d:Int}(h0:0<=a)(h1:b-c=a)(h2:b=c+d)(h3:d<=-(e:Int))(h4:f<g)(h5:e=g-f):False:=lin [_,_,_,_] [_,_,_,_] [(1,.nf (.v 0) (.v 1)),(1,.nt (.v 2) (.v 3)),(1,.il (.v 0) (.g (.c (.v 0)))),(1,.ie (.v 1) (.a (.v 2) (.v 0))),(1,.jf (.s (.v 1) (.v 2)) (.v 3)),(1,.il (.n 0) (.v 3)),(1,.nl (.v 3) (.a (.v 1) (.v 2)))] rfl h5 h4 h3 h2 h1 h0 (Nat.sub_le_iff_le_add.mp (Nat.le_refl _))
theorem z387 {a c:Nat}{b d e f g:Int}(h0:(a:Int)=b)(h1: -(c:Int)<=d)(h2:0<e)(h3:e=f)(h4:d=g)(h5:g<=-b-f)(h6:c<=a):False:=lin [_,_] [_,_,_,_,_] [(1,.nl (.v 0) (.v 1)),(1,.il (.v 0) (.s (.g (.v 1)) (.v 2))),(1,.ie (.v 3) (.v 0)),(1,.ie (.v 4) (.v 2)),(1,.it (.n 0) (.v 4)),(1,.il (.g (.c (.v 0))) (.v 3)),(1,.ie (.c (.v 1)) (.v 1))] rfl h6 h5 h4 h3 h2 h1 h0
theorem z388 {a:Int}(h0:a<0):a= -((-a).toNat:Int):=by cases a<;>simp<;>lia
theorem z389 {a b:Int}(h0:a<b)(h1:b<a):False:=lin [] [_,_] [(1,.it (.v 0) (.v 1)),(1,.it (.v 1) (.v 0))] rfl h1 h0
theorem z390 {a:Int}: -a+a=0:=Int.add_left_neg a
theorem z391 {a b c d:Int}(h0: -c<=d)(h1:d= -a)(h2:¬(b<=c)):a<=b:=Int.not_lt.mp fun qz=>lin [] [_,_,_,_] [(1,.it (.v 0) (.v 1)),(1,.it (.v 2) (.v 0)),(1,.ie (.v 3) (.g (.v 1))),(1,.il (.g (.v 2)) (.v 3))] rfl qz (Int.not_le.mp h2) h1 h0
theorem z392 {a c:Nat}{b:Int}(h0:(c:Int)<=b)(h1:a<=c):(a:Int)<=b:=Int.not_lt.mp fun qz=>lin [_,_] [_] [(1,.it (.v 0) (.c (.v 0))),(1,.nl (.v 0) (.v 1)),(1,.il (.c (.v 1)) (.v 0))] rfl qz h1 h0
theorem z393 {a b:Nat}(h0:0=a-b)(h1:b<a):False:=lin [_,_,_] [] [(1,.nt (.v 0) (.v 1)),(1,.nf (.n 0) (.v 2)),(1,.nl (.v 1) (.a (.v 2) (.v 0)))] rfl h1 h0 (Nat.sub_le_iff_le_add.mp (Nat.le_refl _))
theorem z394 {a b:Int}:a+-b= -(-a+b):=by lia
theorem z395 {a b c d:Int}(h0: -a<=b)(h1:b= -c)(h2:d=c)(h3:¬(d<=a)):False:=lin [] [_,_,_,_] [(1,.it (.v 0) (.v 1)),(1,.ie (.v 1) (.v 2)),(1,.ie (.v 3) (.g (.v 2))),(1,.il (.g (.v 0)) (.v 3))] rfl (Int.not_le.mp h3) h2 h1 h0
theorem z396 {b:Nat}{a:Int}(h0:¬(0<a)):a<=(b:Int):=Int.not_lt.mp fun qz=>lin [_] [_] [(1,.it (.c (.v 0)) (.v 0)),(1,.il (.v 0) (.n 0))] rfl qz (Int.not_lt.mp h0)
theorem z397 {a:Nat}(h0:a<=3):a<=5:=Nat.le_of_lt (Nat.lt_of_le_of_lt h0 (by decide))
theorem z398 {a b:Nat}(h0:1+a=b)(h1:b<=3):a=0\/a=1\/a=2:=by lia
theorem z399 {a b c:Nat}(h0:b+1+1+a=c)(h1:c<=3):a=0\/a=1:=by subst h0;lia
theorem z401 {b:Nat}{a:Int}(h0:a<=(b:Int)):a.toNat<b+1:=by simp;lia
theorem z424 {a b:Int}(h0:a-b=0):a=b:=by lia
theorem z443 {a:Int}(h0:0<=a): -a<=0/\0<=a:=⟨Int.not_lt.mp fun qz=>lin [] [_] [(1,.it (.n 0) (.g (.v 0))),(1,.il (.n 0) (.v 0))] rfl qz h0,h0⟩
theorem z446 {a:Nat}:0<a+1:=Nat.zero_lt_succ a
theorem z467 {a b:Int}(h0:a<=b)(h1:b<=a):a=b:=Int.le_antisymm h0 h1
theorem z471 {a:Nat}(h0:a<=1):a<=3:=Nat.le_of_lt (Nat.lt_of_le_of_lt h0 (by decide))
theorem z472 {a:Int}(h0: -5<=a)(h1:a<=5): -20<=a/\a<=20:=⟨Int.not_lt.mp fun qz=>lin [] [_] [(1,.it (.v 0) (.g (.n 20))),(1,.il (.g (.n 5)) (.v 0))] rfl qz h0,Int.le_of_lt (Int.lt_of_le_of_lt h1 (by decide))⟩
theorem z474 {a:Nat}(h0:a<=5):a-1<=4:=Nat.sub_le_of_le_add h0
theorem z475 {a b c d:Int}(h0:0<c)(h1:b<0)(h2:a<=b)(h3:c<=d):a<=b+c/\b+c<=d:=⟨Int.not_lt.mp fun qz=>lin [] [_,_,_] [(1,.it (.a (.v 0) (.v 1)) (.v 2)),(1,.il (.v 2) (.v 0)),(1,.it (.n 0) (.v 1))] rfl qz h2 h0,Int.not_lt.mp fun qz=>lin [] [_,_,_] [(1,.it (.v 0) (.a (.v 1) (.v 2))),(1,.il (.v 2) (.v 0)),(1,.it (.v 1) (.n 0))] rfl qz h3 h1⟩
theorem z476 {a b c d:Int}(h0:0<b)(h1:c<0)(h2:b<=d)(h3:a<=c):a<=b+c/\b+c<=d:=⟨Int.not_lt.mp fun qz=>lin [] [_,_,_] [(1,.it (.a (.v 0) (.v 1)) (.v 2)),(1,.il (.v 2) (.v 1)),(1,.it (.n 0) (.v 0))] rfl qz h3 h0,Int.not_lt.mp fun qz=>lin [] [_,_,_] [(1,.it (.v 0) (.a (.v 1) (.v 2))),(1,.il (.v 1) (.v 0)),(1,.it (.v 2) (.n 0))] rfl qz h2 h1⟩
theorem z477 {a:Nat}(h0:a<=20):2*a+2<=100000000:=Nat.not_lt.mp fun qz=>lin [_] [] [(1,.nt (.n 100000000) (.a (.m 2 (.v 0)) (.n 2))),(2,.nl (.v 0) (.n 20))] rfl qz h0
theorem z478 {c:Nat}{a b:Int}(h0:a<b+(c:Int))(h1:b<=a):(a-b).toNat<c:=by lia
theorem z479 {a b:Int}:a+(b-a)=b:=by lia
theorem z493 {a:Nat}(h0:a<1):a=0:=Nat.lt_one_iff.mp h0
theorem z494 {a b:Int}(h0:1*a<=b):a<=b:=Int.not_lt.mp fun qz=>lin [] [_,_] [(1,.it (.v 0) (.v 1)),(1,.il (.m 1 (.v 1)) (.v 0))] rfl qz h0
theorem z495 {a b:Int}:0+a+-b=a-b:=by lia
theorem z496 {a b:Int}:0+-a+b=b-a:=by lia
theorem z497 {a b:Int}(h0:0<a)(h1:0<=b): -a<=b:=Int.not_lt.mp fun qz=>lin [] [_,_] [(1,.it (.v 0) (.g (.v 1))),(1,.il (.n 0) (.v 0)),(1,.it (.n 0) (.v 1))] rfl qz h1 h0
theorem z498 {b:Nat}{a:Int}(h0: -(b*(20*20):Int)<=a)(h1:a<=(b*(20*20):Int))(h2:b<=3): -1200<=a/\a<=1200:=⟨by lia,by lia⟩
theorem z499 {a b:Int}(h0: -b<=-a):a<=b:=Int.le_of_neg_le_neg h0
theorem z500 {a b c d e f g k m n p q:Int}(h0:c=d+e)(h1:f=g+k)(h2:m<=1200*1200)(h3:n<=1200*1200)(h4:p<=1200*1200)(h5:q<=1200*1200)(h6:b<=c)(h7:e<=m)(h8:d<=p)(h9:k<=n)(h10:g<=q)(h11:a<=f):a<=2880000/\b<=2880000:=⟨Int.not_lt.mp fun qz=>lin [] [_,_,_,_,_,_] [(1,.it (.n 2880000) (.v 0)),(1,.il (.v 0) (.v 1)),(1,.il (.v 2) (.v 3)),(1,.il (.v 4) (.v 5)),(1,.il (.v 3) (.m 1200 (.n 1200))),(1,.il (.v 5) (.m 1200 (.n 1200))),(1,.ie (.v 1) (.a (.v 2) (.v 4)))] rfl qz h11 h10 h9 h5 h3 h1,Int.not_lt.mp fun qz=>lin [] [_,_,_,_,_,_] [(1,.it (.n 2880000) (.v 0)),(1,.il (.v 1) (.v 2)),(1,.il (.v 3) (.v 4)),(1,.il (.v 0) (.v 5)),(1,.il (.v 2) (.m 1200 (.n 1200))),(1,.il (.v 4) (.m 1200 (.n 1200))),(1,.ie (.v 5) (.a (.v 1) (.v 3)))] rfl qz h8 h7 h6 h4 h2 h0⟩
theorem z501 {a b c:Int}(h0:1<=c)(h1:a<b):a<b+c:=Int.not_le.mp fun qz=>lin [] [_,_,_] [(1,.il (.a (.v 0) (.v 1)) (.v 2)),(1,.it (.v 2) (.v 0)),(1,.il (.n 1) (.v 1))] rfl qz h1 h0
theorem z502 {a b c:Int}(h0: -b<=-c)(h1:a<c):a<=b:=Int.not_lt.mp fun qz=>lin [] [_,_,_] [(1,.it (.v 0) (.v 1)),(1,.it (.v 1) (.v 2)),(1,.il (.g (.v 0)) (.g (.v 2)))] rfl qz h1 h0
theorem z503 {a b c d e f:Int}(h0: -1200<=-c)(h1:d-e<=f)(h2:a<c)(h3:f<=1200)(h4:e<=1200*1200)(h5:b<=d):a<=2880000/\b<=2880000:=⟨Int.not_lt.mp fun qz=>lin [] [_,_] [(1,.it (.n 2880000) (.v 0)),(1,.it (.v 0) (.v 1)),(1,.il (.g (.n 1200)) (.g (.v 1)))] rfl qz h2 h0,Int.not_lt.mp fun qz=>lin [] [_,_,_,_] [(1,.it (.n 2880000) (.v 0)),(1,.il (.v 0) (.v 1)),(1,.il (.v 2) (.m 1200 (.n 1200))),(1,.il (.v 3) (.n 1200)),(1,.il (.s (.v 1) (.v 2)) (.v 3))] rfl qz h5 h4 h3 h1⟩
theorem z504 {a b c d:Int}(h0:a-d<=b)(h1:d<=c):a<=b+c:=Int.not_lt.mp fun qz=>lin [] [_,_,_,_] [(1,.it (.a (.v 0) (.v 1)) (.v 2)),(1,.il (.v 3) (.v 1)),(1,.il (.s (.v 2) (.v 3)) (.v 0))] rfl qz h1 h0
theorem z505 {a b c d:Int}(h0: -1200<=-c)(h1:b<d)(h2:a<=1+c)(h3:d<=1200):a<=2880000/\b<=2880000:=⟨Int.not_lt.mp fun qz=>lin [] [_,_] [(1,.it (.n 2880000) (.v 0)),(1,.il (.v 0) (.a (.n 1) (.v 1))),(1,.il (.g (.n 1200)) (.g (.v 1)))] rfl qz h2 h0,Int.le_of_lt (Int.lt_trans (Int.lt_of_lt_of_le h1 h3) (by decide))⟩
theorem z506 {a b c d:Int}(h0: -1200<=-c)(h1:c=a)(h2:d=b)(h3:d<=1200):a<=2880000/\b<=2880000:=⟨Int.not_lt.mp fun qz=>lin [] [_,_] [(1,.it (.n 2880000) (.v 0)),(1,.jf (.v 1) (.v 0)),(1,.il (.g (.n 1200)) (.g (.v 1)))] rfl qz h1 h0,Int.le_of_lt (Int.lt_of_le_of_lt (Int.le_trans (Int.le_of_eq h2.symm) h3) (by decide))⟩
theorem z507 {a b c:Int}(h0:c=1)(h1:b<=c)(h2:a<=c):a<=2880000/\b<=2880000:=⟨Int.le_of_lt (Int.lt_of_le_of_lt (Int.le_trans h2 (Int.le_of_eq h0)) (by decide)),Int.le_of_lt (Int.lt_of_le_of_lt (Int.le_trans h1 (Int.le_of_eq h0)) (by decide))⟩
theorem z508 {a b c:Int}(h0:a=0+b+c)(h1:c<=2880000)(h2:b<=2880000):a<=(5760000:Int):=Int.not_lt.mp fun qz=>lin [] [_,_,_] [(1,.it (.n 5760000) (.v 0)),(1,.il (.v 1) (.n 2880000)),(1,.il (.v 2) (.n 2880000)),(1,.ie (.v 0) (.a (.a (.n 0) (.v 1)) (.v 2)))] rfl qz h2 h1 h0
theorem z509 {a:Int}(h0:a<=2880000):a<2880001:=Int.lt_of_le_sub_one h0
theorem z527 {a:Int}(h0:0<=a)(h1:a≠0):1<=a:=by lia
theorem z594 {a b c:Int}(h0: -c<=b)(h1:c<=a)(h2:b<=c): -a<=b/\b<=a:=⟨Int.not_lt.mp fun qz=>lin [] [_,_,_] [(1,.it (.v 0) (.g (.v 1))),(1,.il (.v 2) (.v 1)),(1,.il (.g (.v 2)) (.v 0))] rfl qz h1 h0,Int.le_trans h2 h1⟩
theorem z597 {a:Nat}:0<=a:=by simp
theorem z598 {a b:Nat}(h0:b<=a):a+1-(b+1)<a+1-b:=Nat.not_le.mp fun qz=>lin [_,_,_,_] [] [(1,.nl (.v 0) (.v 1)),(1,.nl (.a (.v 2) (.n 1)) (.a (.v 0) (.v 3))),(1,.ne (.a (.v 1) (.a (.v 3) (.n 1))) (.a (.v 2) (.n 1)))] rfl qz (Nat.sub_le_iff_le_add.mp (Nat.le_refl _)) (Nat.sub_add_cancel (Nat.not_lt.mp fun qz=>lin [_,_] [] [(1,.nt (.a (.v 0) (.n 1)) (.a (.v 1) (.n 1))),(1,.nl (.v 1) (.v 0))] rfl qz h0))
theorem z599 {a b:Nat}(h0:a<=b)(h1:¬(a<b)):a=b:=Nat.le_antisymm (Nat.not_lt.mp fun qz=>lin [_,_] [] [(1,.nt (.v 0) (.v 1)),(1,.nl (.v 1) (.v 0))] rfl qz h0) (Nat.not_lt.mp fun qz=>lin [_,_] [] [(1,.nt (.v 0) (.v 1)),(1,.nl (.v 1) (.v 0))] rfl qz (Nat.not_lt.mp h1))
theorem z603 {a b:Nat}:a<=min a b\/b<=min a b:=by lia
theorem z604 {a:Nat}(h0:a<64):a<9000:=Nat.lt_trans h0 (by decide)
theorem z605 {a:Int}(h0:a≠0):a.natAbs≠0:=by simp<;>omega
theorem z606 {a b c:Nat}(h0:a+c<b):a<b:=Nat.not_le.mp fun qz=>lin [_,_,_] [] [(1,.nl (.v 0) (.v 1)),(1,.nt (.a (.v 1) (.v 2)) (.v 0))] rfl qz h0
theorem z607 {a b:Int}(h0:a<b):a=min b a:=by grind
theorem z608 {a b:Int}(h0:¬(b<a)):a=min a b:=by lia
theorem z609 {a b:Int}(h0:b<a):a=max b a:=by grind
theorem z610 {a b:Int}(h0:¬(a<b)):a=max a b:=by grind
theorem z611 {a:Nat}(h0:a<2^62):(a:Int)<2^63:=by lia
theorem z612 {b:Nat}{a:Int}(h0:a.toNat<b):a<(b:Int):=by lia
theorem z616 {a b c d e:Nat}(h0:a+(b+1)<c)(h1:d+10*(b+1)<e):a+1+b<c/\d+3+10*b<e:=⟨Nat.not_le.mp fun qz=>lin [_,_,_] [] [(1,.nl (.v 0) (.a (.a (.v 1) (.n 1)) (.v 2))),(1,.nt (.a (.v 1) (.a (.v 2) (.n 1))) (.v 0))] rfl qz h0,Nat.not_le.mp fun qz=>lin [_,_,_] [] [(1,.nl (.v 0) (.a (.a (.v 1) (.n 3)) (.m 10 (.v 2)))),(1,.nt (.a (.v 1) (.m 10 (.a (.v 2) (.n 1)))) (.v 0))] rfl qz h1⟩
theorem z617 {a b c d e f:Nat}(h0:a+(b+f)<c)(h1:d+10*(b+f)<e):a+b<c/\d+10*b<e:=⟨Nat.not_le.mp fun qz=>lin [_,_,_,_] [] [(1,.nl (.v 0) (.a (.v 1) (.v 2))),(1,.nt (.a (.v 1) (.a (.v 2) (.v 3))) (.v 0))] rfl qz h0,Nat.not_le.mp fun qz=>lin [_,_,_,_] [] [(1,.nl (.v 0) (.a (.v 1) (.m 10 (.v 2)))),(1,.nt (.a (.v 1) (.m 10 (.a (.v 2) (.v 3)))) (.v 0))] rfl qz h1⟩
theorem z619 {a:Nat}:¬((a:Int)<0):=by simp
theorem z626 {a b:Nat}(h0:b<100)(h1:a=b):a<2^62:=by lia
theorem z628 {a b c:Int}(h0:b<=c)(h1:a<=b):a<=b/\b<=c:=⟨h1,h0⟩
theorem z629 {a:Nat}(h0:1<=a)(h1:a<=5):1<=(a:Int)/\(a:Int)<=5:=⟨Int.not_lt.mp fun qz=>lin [_] [] [(1,.it (.c (.v 0)) (.n 1)),(1,.nl (.n 1) (.v 0))] rfl qz h0,Int.not_lt.mp fun qz=>lin [_] [] [(1,.it (.n 5) (.c (.v 0))),(1,.nl (.v 0) (.n 5))] rfl qz h1⟩
theorem z630 {a b:Nat}(h0:a=b)(h1:b<=3):a<2^62:=by lia
theorem z631 {a:Nat}(h0:a<=3):¬(3<(a:Int)):=fun qz=>lin [_] [] [(1,.it (.n 3) (.c (.v 0))),(1,.nl (.v 0) (.n 3))] rfl qz h0
theorem z632 {a:Nat}(h0:a<=3):a<=2^24:=by lia
theorem z633 {a:Nat}(h0:a<=5):a<100:=Nat.lt_of_le_of_lt h0 (by decide)
theorem z645 {a b c:Nat}(h0:a=c)(h1:c<=b):a<=b:=Nat.le_trans (Nat.le_of_eq h0) h1
theorem z647 {a b:Nat}(h0:a=b)(h1:b<=3):a<=2^24:=by lia
theorem z648 {a b:Nat}:min a b<=a:=Nat.min_le_left a b
theorem z652 {a:Nat}(h0:a<64):a<=2^24:=by lia
theorem z653 {a:Nat}: -2^62<=(a:Int):=Int.neg_ofNat_le_natCast (2^62) a
theorem z655 {a b c:Nat}(h0:b<c)(h1:b=a):a=b/\b<c:=⟨(h1).symm,h0⟩
theorem z676 {a:Nat}: -2^62<=(a:Int)+1:=Int.neg_ofNat_le_ofNat (2^62) (a+1)
theorem z678 {a:Nat}:((a:Int)+1).toNat=a+1:=Int.toNat_natCast_add_one
theorem z681 {a:Nat}(h0:a<=40):(a:Int)+1<2^62:=by lia
theorem z682 {a b c:Nat}(h0:a<c+1)(h1:c<=b):a<=b:=Nat.not_lt.mp fun qz=>lin [_,_,_] [] [(1,.nt (.v 0) (.v 1)),(1,.nl (.v 2) (.v 0)),(1,.nt (.v 1) (.a (.v 2) (.n 1)))] rfl qz h1 h0
theorem z683 {a:Nat}(h0:a<=40):a+1<=41:=Nat.succ_le_succ h0
theorem z684 {a:Nat}(h0:a<100):a<2^64:=by lia
theorem z686 {a b c:Nat}(h0:b<=40)(h1:c<=40*41)(h2:a<=c):a+(b+1)<=2^24:=by lia
theorem z687 {a b c:Nat}(h0:a<=c):a+b<=c+b:=Nat.add_le_add_right h0 b
theorem z689 {a b c:Nat}(h0:a<=b):a<=b+c:=Nat.le_add_right_of_le h0
theorem z690 {a b:Nat}(h0:b<=40*41)(h1:a<=b):a<=2^24:=by lia
theorem z697 {a:Nat}(h0:a<=3):(a:Int)<2^62:=by lia
theorem z702 {a:Int}:2*a+1≠0:=by lia
theorem z703 {a b:Int}(h0:0<=b)(h1:b<2*a+1): -a<=b-a/\b-a<=a:=⟨Int.not_lt.mp fun qz=>lin [] [_,_] [(1,.it (.s (.v 0) (.v 1)) (.g (.v 1))),(1,.il (.n 0) (.v 0))] rfl qz h0,Int.not_lt.mp fun qz=>lin [] [_,_] [(1,.it (.v 0) (.s (.v 1) (.v 0))),(1,.it (.v 1) (.a (.m 2 (.v 0)) (.n 1)))] rfl qz h1⟩
theorem z714 {a:Int}(h0: -20<=a)(h1:a<=20):a.natAbs<100:=by lia
theorem z717 {a:Nat}(h0:¬(a=2)):¬((a:Int)=2):=Nat.ToInt.of_diseq rfl rfl h0
theorem z718 {a:Int}(h0: -20<=a)(h1:a<=20):a.natAbs<2^64:=by lia
theorem z719 {a:Nat}(h0:a=2):0+1+a<=2^24:=by lia
theorem z725 {a:Nat}(h0:¬(a=3)):¬((a:Int)=3):=Nat.ToInt.of_diseq rfl rfl h0
theorem z729 {a b:Int}(h0:b<=a):¬(a<b):=Int.not_lt_of_ge h0
theorem z743 {a b:Nat}(h0:b<a):0<a:=Nat.zero_lt_of_lt h0
theorem z759 {a:Nat}(h0:a=2\/a=3):(a:Int)<2^62:=by lia
theorem z771 {a:Nat}(h0:a=2\/a=3):a<2^60:=by lia
theorem z774 {a:Int}:(a%4).toNat<2^60:=by simp;lia
theorem z775 {a b:Int}(h0:b<a):a≠b:=Ne.symm (Int.ne_of_lt h0)
theorem z781: -2^63<=-1:=by simp
theorem z782: -1<2^63:=by simp
theorem z784: -1<0:=by simp
theorem z795 {a:Int}(h0:0<=a): -2^62<=a:=by lia
theorem z796 {a:Int}(h0:a<100):a<2^62:=by lia
theorem z800 {a:Nat}(h0:a<100):(a:Int)<100:=Int.lt_toNat.mp h0
theorem z801 {a:Nat}(h0:a<100):(a:Int)<2^62:=by lia
theorem z803 {a:Nat}:0+a=a:=by simp
theorem z805 {a b c d:Nat}(h0:a+d<=c)(h1:b<=d):a+b<=c:=Nat.not_lt.mp fun qz=>lin [_,_,_,_] [] [(1,.nt (.v 0) (.a (.v 1) (.v 2))),(1,.nl (.v 2) (.v 3)),(1,.nl (.a (.v 1) (.v 3)) (.v 0))] rfl qz h1 h0
theorem z807 {a b c:Nat}(h0:c<b)(h1:a=c):a<b:=lt_of_eq_of_lt h1 h0
theorem z808 {a:Nat}:(-1+(a:Int)).toNat=a-1:=by cases a with| zero=>rfl| succ n=>simp;lia
theorem z809 {a b c:Nat}(h0:c<a)(h1:b=a):a-1<b:=Nat.not_le.mp fun qz=>lin [_,_,_] [] [(1,.nl (.v 0) (.v 1)),(1,.nf (.v 0) (.v 2)),(1,.ne (.a (.v 1) (.n 1)) (.v 2))] rfl qz h1 (Nat.sub_add_cancel (Nat.not_lt.mp fun qz=>lin [_,_] [] [(1,.nt (.v 0) (.n 1)),(1,.nt (.v 1) (.v 0))] rfl qz h0))
theorem z810 {a b:Nat}(h0:b<100)(h1:a<b):a<2^60:=by lia
theorem z811 {a b c:Nat}(h0:b<c)(h1:a=c): -(a:Int)<=-1:=Int.not_lt.mp fun qz=>lin [_,_,_] [] [(1,.it (.g (.n 1)) (.g (.c (.v 0)))),(1,.nf (.v 0) (.v 1)),(1,.nt (.v 2) (.v 1))] rfl qz h1 h0
theorem z812 {a b c:Nat}(h0:b+a=c)(h1:b<c):a-1<a:=Nat.not_le.mp fun qz=>lin [_,_] [] [(1,.nl (.v 0) (.v 1)),(1,.ne (.a (.v 1) (.n 1)) (.v 0))] rfl qz (Nat.sub_add_cancel (Nat.not_lt.mp fun qz=>lin [_,_,_] [] [(1,.nt (.v 0) (.n 1)),(1,.nt (.v 1) (.v 2)),(1,.nf (.a (.v 1) (.v 0)) (.v 2))] rfl qz h1 h0))
theorem z813 {a b c:Nat}(h0:a+b=c)(h1:a<c):a+1+(b-1)=c:=Nat.le_antisymm (Nat.not_lt.mp fun qz=>lin [_,_,_,_] [] [(1,.nt (.v 0) (.a (.a (.v 1) (.n 1)) (.v 2))),(1,.ne (.a (.v 1) (.v 3)) (.v 0)),(1,.ne (.a (.v 2) (.n 1)) (.v 3))] rfl qz h0 (Nat.sub_add_cancel (Nat.not_lt.mp fun qz=>lin [_,_,_] [] [(1,.nt (.v 0) (.n 1)),(1,.nt (.v 1) (.v 2)),(1,.nf (.a (.v 1) (.v 0)) (.v 2))] rfl qz h1 h0))) (Nat.not_lt.mp fun qz=>lin [_,_,_,_] [] [(1,.nt (.a (.a (.v 0) (.n 1)) (.v 1)) (.v 2)),(1,.nf (.a (.v 0) (.v 3)) (.v 2)),(1,.nl (.v 3) (.a (.v 1) (.n 1)))] rfl qz h0 (Nat.sub_le_iff_le_add.mp (Nat.le_refl _)))
theorem z814 {a:Nat}(h0:a<=63):a<2^62:=by lia
theorem z815 {a:Int}(h0:0<=a): -2^63<=a:=by lia
theorem z816 {a:Int}(h0:a<2^60):a<2^63:=by lia
theorem z817 {a:Nat}{b:Int}(h0:0<=b): -(a:Int)<=b:=Int.not_lt.mp fun qz=>lin [_] [_] [(1,.it (.v 0) (.g (.c (.v 0)))),(1,.il (.n 0) (.v 0))] rfl qz h0
theorem z818 {a:Nat}{b:Int}(h0:¬(b<(a:Int))):a<=b.toNat:=by simp at*;lia
theorem z838 {a b c:Nat}(h0:b<c)(h1:b=a):a=b/\a<c:=⟨(h1).symm,Nat.lt_of_le_of_lt (Nat.le_of_eq h1.symm) h0⟩
theorem z839 {a b:Nat}(h0:b<=3)(h1:a<=b):(a:Int).natAbs<2^64:=by simp;lia
theorem z840 {a b:Nat}(h0:b<=3)(h1:a<=b):(a:Int)<=3:=Int.not_lt.mp fun qz=>lin [_,_] [] [(1,.it (.n 3) (.c (.v 0))),(1,.nl (.v 0) (.v 1)),(1,.nl (.v 1) (.n 3))] rfl qz h1 h0
theorem z849 {a b:Nat}(h0:a=b)(h1:b<=5):a<100:=Nat.lt_of_le_of_lt (Nat.le_trans (Nat.le_of_eq h0) h1) (by decide)
theorem z850 {a b:Int}(h0:¬(a>b)):a<=b:=Int.not_lt.mp h0
theorem z870 {a b c:Nat}(h0:a+c<990)(h1:b=1000):a<b:=Nat.not_le.mp fun qz=>lin [_,_,_] [] [(1,.nl (.v 0) (.v 1)),(1,.nf (.v 0) (.n 1000)),(1,.nt (.a (.v 1) (.v 2)) (.n 990))] rfl qz h1 h0
theorem z871 {a b c d:Nat}(h0:a+d<9800)(h1:c=9900)(h2:b<=90):a+1+b<c:=Nat.not_le.mp fun qz=>lin [_,_,_,_] [] [(1,.nl (.v 0) (.a (.a (.v 1) (.n 1)) (.v 2))),(1,.nl (.v 2) (.n 90)),(1,.nf (.v 0) (.n 9900)),(1,.nt (.a (.v 1) (.v 3)) (.n 9800))] rfl qz h2 h1 h0
theorem z872 {a b c d e f:Nat}(h0:a+e+f<d)(h1:b<=f):a+min b c<d:=by lia
theorem z873 {a b c d e:Nat}(h0:a+e<d)(h1:c<=e):a+min b c<d:=by lia
theorem z874 {a:Nat}(h0:a<=2^24):a<=16777216:=by omega
theorem z875 {a:Int}(h0: -2^63<=a)(h1:a<2^63): -9223372036854775808<=a/\a<9223372036854775808:=⟨h0,h1⟩
theorem z876 {a:Nat}(h0:a<=2^24):¬(a>(2^63-1)/8):=by lia
theorem z878 {a b c:Nat}(h0:b=c)(h1:a<=c):a<=b:=Nat.le_trans h1 (Nat.le_of_eq h0.symm)
theorem z879 {a b c:Nat}(h0:c<b):a<=a+b-1-c:=Nat.not_lt.mp fun qz=>lin [_,_,_,_,_] [] [(1,.nt (.v 0) (.v 1)),(1,.nt (.v 2) (.v 3)),(1,.nl (.v 4) (.a (.v 0) (.v 2))),(1,.nl (.a (.v 1) (.v 3)) (.a (.v 4) (.n 1)))] rfl qz h0 (Nat.sub_le_iff_le_add.mp (Nat.le_refl _)) (Nat.sub_le_iff_le_add.mp (Nat.le_refl _))
theorem z880 {a b c:Nat}(h0:c<b)(h1:a<=c):a+b-1-c<b:=Nat.not_le.mp fun qz=>lin [_,_,_,_,_] [] [(1,.nl (.v 0) (.v 1)),(1,.nl (.v 2) (.v 3)),(1,.ne (.a (.v 1) (.v 3)) (.v 4)),(1,.ne (.a (.v 4) (.n 1)) (.a (.v 2) (.v 0)))] rfl qz h1 (Nat.sub_add_cancel (Nat.not_lt.mp fun qz=>lin [_,_,_,_] [] [(1,.nt (.v 0) (.v 1)),(1,.nt (.v 1) (.v 2)),(1,.nl (.a (.v 3) (.v 2)) (.a (.v 0) (.n 1)))] rfl qz h0 (Nat.sub_le_iff_le_add.mp (Nat.le_refl _)))) (Nat.sub_add_cancel (Nat.not_lt.mp fun qz=>lin [_,_,_] [] [(1,.nt (.a (.v 0) (.v 1)) (.n 1)),(1,.nl (.v 0) (.v 2)),(1,.nt (.v 2) (.v 1))] rfl qz h1 h0))
theorem z881 {a b:Nat}(h0:a<=b)(h1:¬(a=b)):a<=b-1:=by lia
theorem z882 {a:Nat}(h0:1<=a):a-1<a:=Nat.sub_one_lt_of_lt h0
theorem z883 {a b c d:Nat}(h0:a<=b+d+c):a<=b+(c+d):=Nat.not_lt.mp fun qz=>lin [_,_,_,_] [] [(1,.nt (.a (.v 0) (.a (.v 1) (.v 2))) (.v 3)),(1,.nl (.v 3) (.a (.a (.v 0) (.v 2)) (.v 1)))] rfl qz h0
theorem z884 {a b c d:Nat}(h0:a=b+d+c):a=b+(c+d):=Nat.le_antisymm (Nat.not_lt.mp fun qz=>lin [_,_,_,_] [] [(1,.nt (.a (.v 0) (.a (.v 1) (.v 2))) (.v 3)),(1,.ne (.v 3) (.a (.a (.v 0) (.v 2)) (.v 1)))] rfl qz h0) (Nat.not_lt.mp fun qz=>lin [_,_,_,_] [] [(1,.nt (.v 0) (.a (.v 1) (.a (.v 2) (.v 3)))),(1,.nf (.v 0) (.a (.a (.v 1) (.v 3)) (.v 2)))] rfl qz h0)
theorem z885 {a b c d e:Nat}(h0:a+(c+b)<=e)(h1:d=e):a+b+c<=d:=Nat.not_lt.mp fun qz=>lin [_,_,_,_,_] [] [(1,.nt (.v 0) (.a (.a (.v 1) (.v 2)) (.v 3))),(1,.nf (.v 0) (.v 4)),(1,.nl (.a (.v 1) (.a (.v 3) (.v 2))) (.v 4))] rfl qz h1 h0
theorem z886 {a b:Nat}:0+a<=b+a:=by simp
theorem z887 {a b:Nat}(h0:b-(0+1)<=a)(h1:a<b):a=b-1:=Nat.le_antisymm (Nat.not_lt.mp fun qz=>lin [_,_,_] [] [(1,.nt (.v 0) (.v 1)),(1,.nt (.v 1) (.v 2)),(1,.nl (.v 2) (.a (.v 0) (.n 1)))] rfl qz h1 (Nat.sub_le_iff_le_add.mp (Nat.le_refl _))) (Nat.not_lt.mp fun qz=>lin [_,_,_,_] [] [(1,.nt (.v 0) (.v 1)),(1,.nl (.v 2) (.v 0)),(1,.nl (.v 3) (.a (.v 2) (.a (.n 0) (.n 1)))),(1,.ne (.a (.v 1) (.n 1)) (.v 3))] rfl qz h0 (Nat.sub_le_iff_le_add.mp (Nat.le_refl _)) (Nat.sub_add_cancel (Nat.not_lt.mp fun qz=>lin [_,_] [] [(1,.nt (.v 0) (.n 1)),(1,.nt (.v 1) (.v 0))] rfl qz h1)))
theorem z888 {a b c d:Nat}(h0:a+(c+b)<=d):a+b+c<=d:=Nat.not_lt.mp fun qz=>lin [_,_,_,_] [] [(1,.nt (.v 0) (.a (.a (.v 1) (.v 2)) (.v 3))),(1,.nl (.a (.v 1) (.a (.v 3) (.v 2))) (.v 0))] rfl qz h0
theorem z889 {a b:Nat}:a+b-b=a:=Eq.symm (Nat.eq_sub_of_add_eq rfl)
theorem z890 {a b c d:Nat}(h0:a+d-(b+d)<=c):a-b<=c:=by simp at*;lia
theorem z891 {a b c:Nat}(h0:a<=c)(h1:c<=b):a<=b:=Nat.le_trans h0 h1
theorem z892 {a b c:Nat}(h0:c<b)(h1:a<=c):0<=a/\a<b:=⟨Nat.not_lt.mp fun qz=>lin [_] [] [(1,.nt (.v 0) (.n 0))] rfl qz,Nat.lt_of_le_of_lt h1 h0⟩
theorem z893 {a b:Nat}(h0:a<b):0<=a/\a<b:=if_false_right.mp h0
theorem z894 {a b c:Nat}(h0:c<=b):a-b<=a-c:=Nat.sub_le_sub_left h0 a
theorem z895 {a b:Nat}(h0:1<=a):0+a-1-b<a:=Nat.not_le.mp fun qz=>lin [_,_,_] [] [(1,.nl (.v 0) (.v 1)),(1,.nl (.v 1) (.v 2)),(1,.ne (.a (.v 2) (.n 1)) (.a (.n 0) (.v 0)))] rfl qz (Nat.sub_le _ _) (Nat.sub_add_cancel (Nat.not_lt.mp fun qz=>lin [_] [] [(1,.nt (.a (.n 0) (.v 0)) (.n 1)),(1,.nl (.n 1) (.v 0))] rfl qz h0))
theorem z896 {a b c:Nat}(h0:c<=b)(h1:a<=c+(b-c)):a<=b:=Nat.not_lt.mp fun qz=>lin [_,_,_,_] [] [(1,.nt (.v 0) (.v 1)),(1,.nl (.v 1) (.a (.v 2) (.v 3))),(1,.ne (.a (.v 3) (.v 2)) (.v 0))] rfl qz h1 (Nat.sub_add_cancel (Nat.not_lt.mp fun qz=>lin [_,_] [] [(1,.nt (.v 0) (.v 1)),(1,.nl (.v 1) (.v 0))] rfl qz h0))
theorem z897 {a b c:Nat}(h0:a<=b)(h1:b<=c):a+(b-a)<=c:=Nat.not_lt.mp fun qz=>lin [_,_,_,_] [] [(1,.nt (.v 0) (.a (.v 1) (.v 2))),(1,.nl (.v 3) (.v 0)),(1,.ne (.a (.v 2) (.v 1)) (.v 3))] rfl qz h1 (Nat.sub_add_cancel (Nat.not_lt.mp fun qz=>lin [_,_] [] [(1,.nt (.v 0) (.v 1)),(1,.nl (.v 1) (.v 0))] rfl qz h0))
theorem z898 {a b c d e:Nat}(h0:b=c)(h1:d<=e)(h2:e<=c)(h3:a<=d+(e-d)):a<=b:=Nat.not_lt.mp fun qz=>lin [_,_,_,_,_,_] [] [(1,.nt (.v 0) (.v 1)),(1,.nl (.v 1) (.a (.v 2) (.v 3))),(1,.nl (.v 4) (.v 5)),(1,.nf (.v 0) (.v 5)),(1,.ne (.a (.v 3) (.v 2)) (.v 4))] rfl qz h3 h2 h0 (Nat.sub_add_cancel (Nat.not_lt.mp fun qz=>lin [_,_] [] [(1,.nt (.v 0) (.v 1)),(1,.nl (.v 1) (.v 0))] rfl qz h1))
theorem z899 {a b c:Nat}(h0:c+a<=b):a<=b:=Nat.le_of_add_left_le h0
theorem z900 {a b c d:Nat}(h0:c=d)(h1:b=c)(h2:a<=d):a<=b:=Nat.le_trans (Nat.le_trans h2 (Nat.le_of_eq h0.symm)) (Nat.le_of_eq h1.symm)
theorem z901 {a b:Nat}(h0:b<1)(h1:a<=b):a=b:=Nat.le_antisymm (Nat.not_lt.mp fun qz=>lin [_,_] [] [(1,.nt (.v 0) (.v 1)),(1,.nl (.v 1) (.v 0))] rfl qz h1) (Nat.not_lt.mp fun qz=>lin [_,_] [] [(1,.nt (.v 0) (.v 1)),(1,.nt (.v 1) (.n 1))] rfl qz h0)
theorem z902 {a b c:Nat}(h0:b<=c)(h1:¬(a=c)):¬(a=b+(c-b)):=by grind
theorem z903 {a b:Nat}(h0:a<b):a<=b-1:=Nat.le_sub_one_of_lt h0
theorem z904 {a b c:Int}(h0:b<=c)(h1:c<=a)(h2:a<=b):a=b:=Int.le_antisymm (Int.not_lt.mp fun qz=>lin [] [_,_] [(1,.it (.v 0) (.v 1)),(1,.il (.v 1) (.v 0))] rfl qz h2) (Int.not_lt.mp fun qz=>lin [] [_,_,_] [(1,.it (.v 0) (.v 1)),(1,.il (.v 2) (.v 0)),(1,.il (.v 1) (.v 2))] rfl qz h1 h0)
theorem z905 {a b:Nat}(h0:1<=b)(h1:a<=1+(b-1))(h2:¬(a=b)):a+1<=b:=by grind
theorem z906 {a b c d:Nat}(h0:c<=d)(h1:d<=b)(h2:a<=c+(d-c)):a<=b:=Nat.not_lt.mp fun qz=>lin [_,_,_,_,_] [] [(1,.nt (.v 0) (.v 1)),(1,.nl (.v 1) (.a (.v 2) (.v 3))),(1,.nl (.v 4) (.v 0)),(1,.ne (.a (.v 3) (.v 2)) (.v 4))] rfl qz h2 h1 (Nat.sub_add_cancel (Nat.not_lt.mp fun qz=>lin [_,_] [] [(1,.nt (.v 0) (.v 1)),(1,.nl (.v 1) (.v 0))] rfl qz h0))
theorem z907 {a b c:Nat}(h0:c<b)(h1:a<=c):a<b:=Nat.lt_of_le_of_lt h1 h0
theorem z908 {a b:Nat}(h0:a<=b)(h1:¬(a=b)):a<b:=Nat.lt_of_le_of_ne h0 h1
theorem z909 {a b:Nat}(h0:b<=a)(h1:¬(a>b)):a=b:=Nat.le_antisymm (Nat.not_lt.mp fun qz=>lin [_,_] [] [(1,.nt (.v 0) (.v 1)),(1,.nl (.v 1) (.v 0))] rfl qz (Nat.not_lt.mp h1)) (Nat.not_lt.mp fun qz=>lin [_,_] [] [(1,.nt (.v 0) (.v 1)),(1,.nl (.v 1) (.v 0))] rfl qz h0)
theorem z910 {a:Nat}(h0:1<=a)(h1:¬(1=a)):1+1<=a:=by lia
theorem z911 {a b:Nat}(h0:b<1+1)(h1:a<=b)(h2:¬(a=b)):a=0:=by lia
theorem z912 {a:Nat}(h0:a<1+1)(h1:¬(0=a)):a=1:=by lia
theorem z913 {a b:Nat}(h0:b-a<=0)(h1:a<=b):a=b:=Nat.le_antisymm (Nat.not_lt.mp fun qz=>lin [_,_] [] [(1,.nt (.v 0) (.v 1)),(1,.nl (.v 1) (.v 0))] rfl qz h1) (Nat.not_lt.mp fun qz=>lin [_,_,_] [] [(1,.nt (.v 0) (.v 1)),(1,.nl (.v 2) (.n 0)),(1,.nl (.v 1) (.a (.v 2) (.v 0)))] rfl qz h0 (Nat.sub_le_iff_le_add.mp (Nat.le_refl _)))
theorem z914 {a b:Nat}(h0:a<=b)(h1:a>=b):a=b:=Nat.le_antisymm h0 h1
theorem z915 {a b:Nat}(h0:a<=b):a<=(a+b)/2:=by lia
theorem z916 {a b c:Nat}(h0:a<=b)(h1:b<=c):(a+b)/2<=c:=by lia
theorem z917 {a b c:Nat}(h0:b-a<=c+1):(a+b)/2-a<=c:=by simp at*;lia
theorem z918 {a b:Nat}(h0:¬(a>=b)):(a+b)/2+1<=b:=by lia
theorem z919 {a b c d:Nat}(h0:a-b<=d+c):a-((b+a)/2+c)<=d:=by simp at*;lia
theorem z920 {a b c:Nat}(h0:b<=c)(h1:¬(a>=b)):(a+b)/2<c:=by lia
theorem z921 {a b:Nat}:a-b<=a:=Nat.sub_le a b
theorem z922 {a b c:Nat}(h0:a+(c+1)<=b):a<b:=Nat.lt_of_add_right_lt h0
theorem z923 {a b c:Nat}(h0:c=a)(h1:c<=b)(h2:¬(b=a)):a<=b-1:=by subst h0;lia
theorem z924 {a b c:Nat}(h0:a<b+1)(h1:c<=b)(h2:¬(a=c)):a-1<b:=by lia
theorem z930 {a b c:Nat}:a+(b+c)=a+c+b:=by lia
theorem z931 {a:Nat}(h0:2<=a):1<=a:=Nat.le_of_lt (Nat.lt_of_lt_of_le (by decide) h0)
theorem z932 {a b c:Nat}(h0:a<b)(h1:c=b):max a 1+(b-max a 1)<=c:=by subst h1;lia
theorem z933 {a b:Nat}(h0:b<=a):max a b=a:=Nat.max_eq_left h0
theorem z934 {a b:Nat}(h0:a<b):max a 1+(b-max a 1)=b:=by lia
theorem z935 {a b c:Nat}(h0:a<c)(h1:c<=b):a<b:=Nat.lt_of_lt_of_le h0 h1
theorem z936 {a b c:Int}(h0:a<c)(h1:c<b):a<b:=Int.lt_trans h0 h1
theorem z937 {a b:Int}(h0:¬(a<b))(h1:¬(b<a)):a=b:=Int.le_antisymm (Int.not_lt.mp fun qz=>lin [] [_,_] [(1,.it (.v 0) (.v 1)),(1,.il (.v 1) (.v 0))] rfl qz (Int.not_lt.mp h1)) (Int.not_lt.mp fun qz=>lin [] [_,_] [(1,.it (.v 0) (.v 1)),(1,.il (.v 1) (.v 0))] rfl qz (Int.not_lt.mp h0))
theorem z938 {a b c:Nat}(h0:a<c):a+b<c+b:=Nat.add_lt_add_right h0 b
theorem z940 {a b c:Int}(h0:c<b)(h1:a=c):a<b:=Int.lt_of_le_of_lt (Int.le_of_eq h1) h0
theorem z941 {a b c:Int}(h0:a=c)(h1:c=b):a=b:=by lia
theorem z942 {a b:Nat}(h0:a<=b):a<b+1:=Nat.lt_succ_of_le h0
theorem z943 {a b:Nat}(h0:a<b):(a:Int)<(b:Int):=Int.ofNat_lt.mpr h0
theorem z944 {a b:Nat}(h0:a<=b):(a:Int)<=(b:Int):=Int.ofNat_le.mpr h0
theorem z945 {a b:Nat}(h0:a+8<b):a+1+5<b:=Nat.not_le.mp fun qz=>lin [_,_] [] [(1,.nl (.v 0) (.a (.a (.v 1) (.n 1)) (.n 5))),(1,.nt (.a (.v 1) (.n 8)) (.v 0))] rfl qz h0
theorem z946 {a b c d:Nat}(h0:a+8<d)(h1:b<=2):a+min b c<d:=by lia
theorem z950 {a b:Nat}(h0:a+12<b):a+5<b:=Nat.not_le.mp fun qz=>lin [_,_] [] [(1,.nl (.v 0) (.a (.v 1) (.n 5))),(1,.nt (.a (.v 1) (.n 12)) (.v 0))] rfl qz h0
theorem z951 {a b:Nat}(h0:a+12<b):a+8<b:=Nat.not_le.mp fun qz=>lin [_,_] [] [(1,.nl (.v 0) (.a (.v 1) (.n 8))),(1,.nt (.a (.v 1) (.n 12)) (.v 0))] rfl qz h0
theorem z954 {a b c:Nat}(h0:b=c)(h1:a=c):a=b:=by lia
theorem z955 {a b:Nat}(h0:2<=b)(h1:a=b):0<a:=Nat.lt_of_lt_of_le (Nat.lt_of_lt_of_le (by decide) h0) (Nat.le_of_eq h1.symm)
theorem z956 {a:Nat}(h0:2<=a):0<a:=Nat.zero_lt_of_lt h0
theorem z957 {a b:Nat}(h0:b<64)(h1:a=b):a<=16777216:=Nat.le_of_lt (Nat.lt_trans (Nat.lt_of_le_of_lt (Nat.le_of_eq h1) h0) (by decide))
theorem z958 {a b c:Nat}(h0:b<64)(h1:a=min c b):a<=63:=by lia
theorem z959 {a:Nat}(h0:a<=63):a<=16777216:=Nat.le_of_lt (Nat.lt_of_le_of_lt h0 (by decide))
theorem z960 {a b:Nat}(h0:a<=63):a+b<=16777216+b:=Nat.not_lt.mp fun qz=>lin [_,_] [] [(1,.nt (.a (.n 16777216) (.v 0)) (.a (.v 1) (.v 0))),(1,.nl (.v 1) (.n 63))] rfl qz h0
theorem z961 {a b:Nat}(h0:a+20<b):a+1+1+12<b:=Nat.not_le.mp fun qz=>lin [_,_] [] [(1,.nl (.v 0) (.a (.a (.a (.v 1) (.n 1)) (.n 1)) (.n 12))),(1,.nt (.a (.v 1) (.n 20)) (.v 0))] rfl qz h0
theorem z962 {a b:Nat}(h0:a<64):a<=16777216+b:=Nat.not_lt.mp fun qz=>lin [_,_] [] [(1,.nt (.a (.n 16777216) (.v 0)) (.v 1)),(1,.nt (.v 1) (.n 64))] rfl qz h0
theorem z963 {a b c d:Nat}(h0:a+(b+d)<c):a+b<c:=Nat.not_le.mp fun qz=>lin [_,_,_,_] [] [(1,.nl (.v 0) (.a (.v 1) (.v 2))),(1,.nt (.a (.v 1) (.a (.v 2) (.v 3))) (.v 0))] rfl qz h0
theorem z964 {a b c d:Nat}(h0:a+10*(c+b)<d):a+b+b+10*c<d:=Nat.not_le.mp fun qz=>lin [_,_,_,_] [] [(1,.nl (.v 0) (.a (.a (.a (.v 1) (.v 2)) (.v 2)) (.m 10 (.v 3)))),(1,.nt (.a (.v 1) (.m 10 (.a (.v 3) (.v 2)))) (.v 0))] rfl qz h0
theorem z966 {a b c:Nat}(h0:a+c<9800)(h1:b=9900):a+20<b:=Nat.not_le.mp fun qz=>lin [_,_,_] [] [(1,.nl (.v 0) (.a (.v 1) (.n 20))),(1,.nf (.v 0) (.n 9900)),(1,.nt (.a (.v 1) (.v 2)) (.n 9800))] rfl qz h1 h0
theorem z967 {a:Nat}: -2^63<=(a:Int):=Int.neg_ofNat_le_natCast (2^63) a
theorem z968 {a:Nat}(h0:a<2^60):(a:Int)<2^63:=by lia
theorem z969 {a b:Nat}: -(a:Int)<=(b:Int):=by simp
theorem z970 {a:Nat}(h0:a<=600):1+300+a<990:=Nat.not_le.mp fun qz=>lin [_] [] [(1,.nl (.n 990) (.a (.a (.n 1) (.n 300)) (.v 0))),(1,.nl (.v 0) (.n 600))] rfl qz h0
theorem z971 {a:Nat}(h0:a<=600):4+10*a<9800:=Nat.not_le.mp fun qz=>lin [_] [] [(1,.nl (.n 9800) (.a (.n 4) (.m 10 (.v 0)))),(10,.nl (.v 0) (.n 600))] rfl qz h0
theorem z972 {a b c d e:Nat}(h0:d+(b+e)<c)(h1:a=d+e):a+b<c:=Nat.not_le.mp fun qz=>lin [_,_,_,_,_] [] [(1,.nl (.v 0) (.a (.v 1) (.v 2))),(1,.ne (.v 1) (.a (.v 3) (.v 4))),(1,.nt (.a (.v 3) (.a (.v 2) (.v 4))) (.v 0))] rfl qz h1 h0
theorem z973 {a b c d e:Nat}(h0:d+10*(b+e)<c)(h1:a=d+e):a+10*b<c:=Nat.not_le.mp fun qz=>lin [_,_,_,_,_] [] [(1,.nl (.v 0) (.a (.v 1) (.m 10 (.v 2)))),(1,.ne (.v 1) (.a (.v 3) (.v 4))),(1,.nt (.a (.v 3) (.m 10 (.a (.v 2) (.v 4)))) (.v 0))] rfl qz h1 h0
theorem z974 {a b:Nat}(h0:a<=100):a+b<=16777216+b:=Nat.not_lt.mp fun qz=>lin [_,_] [] [(1,.nt (.a (.n 16777216) (.v 0)) (.a (.v 1) (.v 0))),(1,.nl (.v 1) (.n 100))] rfl qz h0
theorem z979 {b:Nat}{a:Int}(h0:a=(b:Int)):0<=a:=Int.not_lt.mp fun qz=>lin [_] [_] [(1,.it (.v 0) (.n 0)),(1,.jf (.v 0) (.c (.v 0)))] rfl qz h0
theorem z989 {a:Nat}(h0:3<a)(h1:a=1):False:=lin [_] [] [(1,.ne (.v 0) (.n 1)),(1,.nt (.n 3) (.v 0))] rfl h1 h0
theorem z990 {a b c:Nat}(h0:a<b)(h1:c=b):a<min b c:=by lia
theorem z991 {a b c:Nat}(h0:a+c<9800)(h1:b=9900):a+1<b:=Nat.not_le.mp fun qz=>lin [_,_,_] [] [(1,.nl (.v 0) (.a (.v 1) (.n 1))),(1,.nf (.v 0) (.n 9900)),(1,.nt (.a (.v 1) (.v 2)) (.n 9800))] rfl qz h1 h0
theorem z993 {a b c:Nat}(h0:c=b)(h1:a<=c):a<=b:=Nat.le_trans h1 (Nat.le_of_eq h0)
theorem z994 {a b c d e:Nat}(h0:a=c)(h1:d=e)(h2:e=c)(h3:d<=b):a<=b:=Nat.le_trans (Nat.le_trans (Nat.le_trans (Nat.le_of_eq h0) (Nat.le_of_eq h2.symm)) (Nat.le_of_eq h1.symm)) h3
theorem z998 {a:Nat}(h0:a<1000):(a:Int)<2^63:=by lia
theorem z999 {a:Nat}(h0:a<1000):(0+1)*a<=2^24:=by lia
theorem z1002 {a b c:Nat}(h0:a=c)(h1:c=b):a=b:=by lia
theorem z1003 {a b:Nat}:a<=a+b:=Nat.le_add_right a b
theorem z1004 {a b c:Nat}(h0:b<=c):a+b<=a+c:=Nat.add_le_add_iff_left.mpr h0
theorem z1076 {a:Nat}(h0:¬(a=0)):0<a:=Nat.zero_lt_of_ne_zero h0
theorem z1203 {a b c d:Nat}(h0:a<=c)(h1:b<=d):a+b<=c+d:=Nat.add_le_add h0 h1
theorem z1211 {a:Nat}(h0:a<=6):a=0\/a=1\/a=2\/a=3\/a=4\/a=5\/a=6:=by lia
theorem z1212 {a b:Nat}(h0:3<=b)(h1:a<=6)(h2:b<=a):a=3\/a=4\/a=5\/a=6:=by lia
theorem z1213 {a b:Nat}(h0:b<=a)(h1:a<=b):a=b:=Nat.le_antisymm h1 h0
theorem z1214 {a:Nat}(h0:3<=a)(h1:a<=4):a=3\/a=4:=by lia
theorem z1215 {a:Nat}(h0:3<=a)(h1:a<=5):a=3\/a=4\/a=5:=by lia
theorem z1216 {a:Nat}(h0:3<=a)(h1:a<=6):a=3\/a=4\/a=5\/a=6:=by lia
theorem z1217 {a b c d e:Nat}(h0:a<=6)(h1:d<=6)(h2:c<=6)(h3:b<=6):3*(a+b+(c+d))<=65554+e:=Nat.not_lt.mp fun qz=>lin [_,_,_,_,_] [] [(1,.nt (.a (.n 65554) (.v 0)) (.m 3 (.a (.a (.v 1) (.v 2)) (.a (.v 3) (.v 4))))),(3,.nl (.v 2) (.n 6)),(3,.nl (.v 3) (.n 6)),(3,.nl (.v 4) (.n 6)),(3,.nl (.v 1) (.n 6))] rfl qz h3 h2 h1 h0
theorem z1218 {a:Int}(h0: -3<=a)(h1:a<=3):(((a+3).toNat:Nat):Int)=a+3/\(a+3).toNat<=6:=by lia
theorem z1219 {a:Int}(h0:0<=a):3<=(a+3).toNat:=by lia
theorem z1220 {a b c:Int}(h0:a<=c):(a+b).toNat<=(c+b).toNat:=Int.toNat_le_toNat (Int.add_le_add_right h0 _)
theorem z1221 {a:Int}(h0:a<=3):(a+3).toNat<=6:=by lia
theorem z1222 {a:Int}(h0:¬(0<=a)):0<=-1*a:=by lia
theorem z1225 {a b:Int}(h0:¬(b<=a)):a<=b:=Int.le_of_not_le h0
theorem z1226 {a b:Int}(h0:a≠b)(h1:a<=b)(h2:b<=a):False:=by lia
theorem z1227 {a b c:Int}(h0:(a=c\/a=b)\/a=b\/a=c)(h1:c=b):a=b:=by lia
theorem z1228 {a b c d e f g k:Nat}(h0:f+b<=c)(h1:g<=e)(h2:k<=d)(h3:a<=f+k+g):a+b<=c+d+e:=Nat.not_lt.mp fun qz=>lin [_,_,_,_,_,_,_,_] [] [(1,.nt (.a (.a (.v 0) (.v 1)) (.v 2)) (.a (.v 3) (.v 4))),(1,.nl (.v 3) (.a (.a (.v 5) (.v 6)) (.v 7))),(1,.nl (.v 6) (.v 1)),(1,.nl (.v 7) (.v 2)),(1,.nl (.a (.v 5) (.v 4)) (.v 0))] rfl qz h3 h2 h1 h0
theorem z1229 {a b c d e f g k:Nat}(h0:f+b<=d)(h1:g<=e)(h2:k<=c)(h3:a<=k+f+g):a+b<=c+d+e:=Nat.not_lt.mp fun qz=>lin [_,_,_,_,_,_,_,_] [] [(1,.nt (.a (.a (.v 0) (.v 1)) (.v 2)) (.a (.v 3) (.v 4))),(1,.nl (.v 3) (.a (.a (.v 5) (.v 6)) (.v 7))),(1,.nl (.v 5) (.v 0)),(1,.nl (.v 7) (.v 2)),(1,.nl (.a (.v 6) (.v 4)) (.v 1))] rfl qz h3 h2 h1 h0
theorem z1230 {a b c d e f g k:Nat}(h0:f+b<=e)(h1:g<=d)(h2:k<=c)(h3:a<=k+g+f):a+b<=c+d+e:=Nat.not_lt.mp fun qz=>lin [_,_,_,_,_,_,_,_] [] [(1,.nt (.a (.a (.v 0) (.v 1)) (.v 2)) (.a (.v 3) (.v 4))),(1,.nl (.v 3) (.a (.a (.v 5) (.v 6)) (.v 7))),(1,.nl (.v 5) (.v 0)),(1,.nl (.v 6) (.v 1)),(1,.nl (.a (.v 7) (.v 4)) (.v 2))] rfl qz h3 h2 h1 h0
theorem z1231 {a b c d:Nat}(h0:a<=2)(h1:b<=2)(h2:d<=5)(h3:c<=d):a+b+c<64:=Nat.not_le.mp fun qz=>lin [_,_,_,_] [] [(1,.nl (.n 64) (.a (.a (.v 0) (.v 1)) (.v 2))),(1,.nl (.v 2) (.v 3)),(1,.nl (.v 3) (.n 5)),(1,.nl (.v 1) (.n 2)),(1,.nl (.v 0) (.n 2))] rfl qz h3 h2 h1 h0
theorem z1232 {a:Nat}(h0:a=4\/a=5):0<a:=by lia
theorem z1233 {a:Nat}(h0:a=4\/a=5):a<6:=by lia
theorem z1234 {a b:Nat}(h0:a<b)(h1:b=4\/b=5):a<6:=by lia
theorem z1238 {a:Int}:(a%5).toNat<5:=by lia
theorem z1239:1<=1/\1<=3:=by simp
theorem z1240:1<=2/\2<=3:=by simp
theorem z1241:1<=3/\3<=3:=by simp
theorem z1242 {a:Int}:a%5=(((a%5).toNat:Nat):Int):=by lia
theorem z1243 {a:Int}:(a%5).toNat<2^60:=by lia
theorem z1244 {c:Nat}{a b d:Int}(h0:c=2/\a=d\/c=3/\a=b)(h1:c=3):a=b:=by lia
theorem z1245 {a b e:Nat}{c d f:Int}(h0:a=b/\c=d\/a=e/\c=f)(h1:¬(a=e)):a=b:=by lia
theorem z1246 {c d e:Nat}{a b f:Int}(h0:c=d/\a=b\/c=e/\a=f)(h1:¬(c=e)):a=b:=by lia
theorem z1249 {a:Int}(h0:a<=3*3):a<=9:=Int.le_def.mpr h0
theorem z1250 {c:Nat}{a b:Int}(h0:a<=b):a<=2+b+(c:Int):=Int.not_lt.mp fun qz=>lin [_] [_,_] [(1,.it (.a (.a (.n 2) (.v 0)) (.c (.v 0))) (.v 1)),(1,.il (.v 1) (.v 0))] rfl qz h0
theorem z1251 {b c:Nat}{a:Int}(h0:a<=9)(h1:b<c)(h2:c=2\/c=3):2+a+(b:Int)<2^60:=by lia
theorem z1252 {a:Int}(h0:3<=a):0<2*a+1:=Int.not_le.mp fun qz=>lin [] [_] [(1,.il (.a (.m 2 (.v 0)) (.n 1)) (.n 0)),(2,.il (.n 3) (.v 0))] rfl qz h0
theorem z1253 {a:Int}(h0:3<=a)(h1:a<=20):(2*a+1).natAbs<2^64:=by grind
theorem z1254 {a b:Nat}(h0:b=2)(h1:a=b):a<=2^24:=by lia
theorem z1255:(1:Int)<2^63:=by simp
theorem z1256 {a b:Int}(h0: -a<=b)(h1:b<=a): -a<=0-b/\0-b<=a:=by lia
theorem z1257 {a:Nat}(h0:a=2\/a=3):a<1000:=by lia
theorem z1258 {a b:Nat}(h0:2<(b:Int))(h1:a=b):2<a:=Nat.not_le.mp fun qz=>lin [_,_] [] [(1,.nl (.v 0) (.n 2)),(1,.nf (.v 0) (.v 1)),(1,.it (.n 2) (.c (.v 1)))] rfl qz h1 h0
theorem z1259:(2:Int)<2^63:=by simp
theorem z1260 {a:Int}(h0:3<=a): -a<=0/\0<=a:=⟨Int.not_lt.mp fun qz=>lin [] [_] [(1,.it (.n 0) (.g (.v 0))),(1,.il (.n 3) (.v 0))] rfl qz h0,Int.le_of_lt (Int.lt_of_lt_of_le (by decide) h0)⟩
theorem z1265 {a:Nat}:a%3<2^60:=by grind
theorem z1268 {a:Nat}(h0:a=3):a<=2^24:=by lia
theorem z1269 {a:Nat}(h0:a<100000):(a:Int).natAbs<2^64:=by omega
theorem z1270 {a:Nat}(h0:0<(a:Int)):0<a:=Int.natCast_pos.mp h0
theorem z1271 {a:Nat}(h0:¬(0<(a:Int))):a=0:=Nat.le_antisymm (Nat.not_lt.mp fun qz=>lin [_] [] [(1,.nt (.n 0) (.v 0)),(1,.il (.c (.v 0)) (.n 0))] rfl qz (Int.not_lt.mp h0)) (Nat.not_lt.mp fun qz=>lin [_] [] [(1,.nt (.v 0) (.n 0))] rfl qz)
theorem z1272 {a:Nat}:(max 0 (min 1 ((a:Int)+1))).toNat=1:=by rw [Int.min_eq_left (Int.le_add_of_nonneg_left (Int.natCast_nonneg a))];rfl
theorem z1273 {a:Nat}(h0:a<=3):a+1<=2^24:=by lia
theorem z1274 {a:Nat}(h0:a<=21*(20+1)):a<=2^24:=by lia
theorem z1275 {a:Int}(h0: -20<=a)(h1:a<=20):a.natAbs<=20:=by lia
theorem z1276 {b:Nat}{a:Int}(h0:a.natAbs=b)(h1:b<=20*20): -400<=a/\a<=400:=have h:a.natAbs<=400:=h0▸h1;⟨Int.neg_le_of_neg_le (Int.le_trans Int.le_natAbs (Int.natAbs_neg a▸Int.ofNat_le.mpr h)),Int.le_trans Int.le_natAbs (Int.ofNat_le.mpr h)⟩
theorem z1277 {a b:Int}(h0: -400<=a)(h1: -400<=b)(h2:a<=400)(h3:b<=400):(a-b).natAbs<100000:=by lia
theorem z1278 {a:Nat}(h0:a<=1):a+1<2^62:=by lia
theorem z1279 {a:Nat}(h0:¬(a=1)):¬((a:Int)+1=2):=by lia
theorem z1280 {a b c d e:Nat}(h0:b<d)(h1:e<=6)(h2:d<=6*(5+1))(h3:a<=e*36):a+min b c<=2^24:=by lia
theorem z1281 {a:Nat}(h0:a<=1):a+1<=2^24:=by lia
theorem z1282 {a:Nat}(h0:a<=6*36):a<=2^24:=by lia
theorem z1283 {a:Nat}(h0:a<3):a<2^60:=by lia
theorem z1284 {a b c d e:Nat}(h0:a<=e+c)(h1:e<=b+d):a<=b+(c+d):=Nat.not_lt.mp fun qz=>lin [_,_,_,_,_] [] [(1,.nt (.a (.v 0) (.a (.v 1) (.v 2))) (.v 3)),(1,.nl (.v 4) (.a (.v 0) (.v 2))),(1,.nl (.v 3) (.a (.v 4) (.v 1)))] rfl qz h1 h0
theorem z1285 {a:Nat}(h0:a<=1000):a<=2^24:=by lia
theorem z1286 {a:Nat}(h0:a<=1000):a<=16777216:=by lia
theorem z1287 {a b c:Nat}(h0:a<=0+min b c)(h1:c<=1000):a<=2^24:=by lia
theorem z1288 {a b:Int}(h0:a<=0)(h1:b<=0):a+b<=0:=Int.add_nonpos h0 h1
theorem z1289 {a b:Nat}(h0:a<b+1):(a:Int)<=(b:Int):=Int.not_lt.mp fun qz=>lin [_,_] [] [(1,.it (.c (.v 0)) (.c (.v 1))),(1,.nt (.v 1) (.a (.v 0) (.n 1)))] rfl qz h0
theorem z1290 {a b c:Int}(h0:c-a=0):a+0*b=c:=Int.le_antisymm (Int.not_lt.mp fun qz=>lin [] [_,_,_] [(1,.it (.v 0) (.a (.v 1) (.m 0 (.v 2)))),(1,.jf (.s (.v 0) (.v 1)) (.n 0))] rfl qz h0) (Int.not_lt.mp fun qz=>lin [] [_,_,_] [(1,.it (.a (.v 0) (.m 0 (.v 1))) (.v 2)),(1,.ie (.s (.v 2) (.v 0)) (.n 0))] rfl qz h0)
theorem z1291 {a b c:Int}(h0:a+0*b=c)(h1:¬(c-a=0)):False:=by lia
theorem z1292 {a b c d:Int}(h0:b+d=c-a)(h1:d=0):a+b=c:=Int.le_antisymm (Int.not_lt.mp fun qz=>lin [] [_,_,_,_] [(1,.it (.v 0) (.a (.v 1) (.v 2))),(1,.jf (.v 3) (.n 0)),(1,.ie (.a (.v 2) (.v 3)) (.s (.v 0) (.v 1)))] rfl qz h1 h0) (Int.not_lt.mp fun qz=>lin [] [_,_,_,_] [(1,.it (.a (.v 0) (.v 1)) (.v 2)),(1,.ie (.v 3) (.n 0)),(1,.jf (.a (.v 1) (.v 3)) (.s (.v 2) (.v 0)))] rfl qz h1 h0)
theorem z1293 {a b c:Int}(h0:b+c=a):a-b=c:=Int.sub_eq_iff_eq_add'.mpr (id (Eq.symm h0))
theorem z1294 {a:Nat}(h0:a<6):0<=(a:Int)/\(a:Int)<=5:=⟨Int.not_lt.mp fun qz=>lin [_] [] [(1,.it (.c (.v 0)) (.n 0))] rfl qz,Int.not_lt.mp fun qz=>lin [_] [] [(1,.it (.n 5) (.c (.v 0))),(1,.nt (.v 0) (.n 6))] rfl qz h0⟩
theorem z1295 {a b:Int}(h0:b<(6:Int))(h1:a<=b):a<=b/\b<=5:=⟨h1,Int.not_lt.mp fun qz=>lin [] [_] [(1,.it (.n 5) (.v 0)),(1,.it (.v 0) (.n 6))] rfl qz h0⟩
theorem z1296 {a b:Int}(h0:b<=(5:Int))(h1:a<=b):a<=b/\b<=5:=⟨h1,h0⟩
theorem z1297 {a b c d:Int}(h0:b+c=d-a):a+b+c=d:=by lia
theorem z1298 {a:Int}(h0:a<=5):a.toNat<6:=by lia
theorem z1299 {a:Int}(h0:a<=5):a<(6:Int):=Int.lt_of_le_sub_one h0
theorem z1300 {a:Int}(h0:a<=5):a<=(5:Int):=h0
theorem z1301 {a b c d:Int}(h0:d+a+b=c):a+b=c-d:=by lia
theorem z1302 {a:Int}(h0:a<=20):a<(21:Int):=Int.lt_of_le_sub_one h0
theorem z1303 {a b c d:Int}(h0:a+b+c=d):a+(b+c)=d:=by lia
theorem z1304 {a b c d:Int}(h0:a+(b+c)=d):a+b+c=d:=by lia
theorem z1305 {a b:Int}(h0:0<a+b)(h1:b=0)(h2:a=0):False:=lin [] [_,_] [(1,.ie (.v 0) (.n 0)),(1,.ie (.v 1) (.n 0)),(1,.it (.n 0) (.a (.v 0) (.v 1)))] rfl h2 h1 h0
theorem z1306 {a:Int}(h0:a<=(3:Int)):a<=5:=Int.le_of_lt (Int.lt_of_le_of_lt h0 (by decide))
theorem z1307 {a b:Int}(h0:0<=-b)(h1:0<=a)(h2:a=b):a=0:=Int.le_antisymm (Int.not_lt.mp fun qz=>lin [] [_,_] [(1,.it (.n 0) (.v 0)),(1,.ie (.v 0) (.v 1)),(1,.il (.n 0) (.g (.v 1)))] rfl qz h2 h0) (Int.not_lt.mp fun qz=>lin [] [_] [(1,.it (.v 0) (.n 0)),(1,.il (.n 0) (.v 0))] rfl qz h1)
theorem z1308 {a b:Int}(h0:0<=-a)(h1:0<=b)(h2:b=a):a=0:=Int.le_antisymm (Int.not_lt.mp fun qz=>lin [] [_] [(1,.it (.n 0) (.v 0)),(1,.il (.n 0) (.g (.v 0)))] rfl qz h0) (Int.not_lt.mp fun qz=>lin [] [_,_] [(1,.it (.v 0) (.n 0)),(1,.ie (.v 1) (.v 0)),(1,.il (.n 0) (.v 1))] rfl qz h2 h1)
theorem z1309 {a b:Int}(h0:a<b):a≠b:=Int.ne_of_lt h0
theorem z1310 {a b c:Int}(h0:0<a+(b+c))(h1:c=0)(h2:b=0)(h3:a=0):False:=lin [] [_,_,_] [(1,.ie (.v 0) (.n 0)),(1,.ie (.v 1) (.n 0)),(1,.ie (.v 2) (.n 0)),(1,.it (.n 0) (.a (.v 0) (.a (.v 1) (.v 2))))] rfl h3 h2 h1 h0
theorem z1311 {a b c d:Int}(h0:c<a)(h1:a<max (max c d) b)(h2:¬(a<d)):a<b:=Int.not_le.mp fun h=>Int.not_lt.mpr (Int.max_le.mpr ⟨Int.max_le.mpr ⟨Int.le_of_lt h0,Int.not_lt.mp h2⟩,h⟩) h1
theorem z1312 {a b c:Int}(h0:0<a+(b+c))(h1:b=0)(h2:c=0)(h3:a=0):False:=lin [] [_,_,_] [(1,.ie (.v 0) (.n 0)),(1,.ie (.v 1) (.n 0)),(1,.ie (.v 2) (.n 0)),(1,.it (.n 0) (.a (.v 0) (.a (.v 2) (.v 1))))] rfl h3 h2 h1 h0
theorem z1313 {a b c:Int}(h0:0<a+(b+c))(h1:c=0)(h2:a=0)(h3:b=0):False:=lin [] [_,_,_] [(1,.ie (.v 0) (.n 0)),(1,.ie (.v 1) (.n 0)),(1,.ie (.v 2) (.n 0)),(1,.it (.n 0) (.a (.v 1) (.a (.v 0) (.v 2))))] rfl h3 h2 h1 h0
theorem z1314 {a b c d:Int}(h0:c<a)(h1:a<max (max d c) b)(h2:¬(a<d)):a<b:=Int.not_le.mp fun h=>Int.not_lt.mpr (Int.max_le.mpr ⟨Int.max_le.mpr ⟨Int.not_lt.mp h2,Int.le_of_lt h0⟩,h⟩) h1
theorem z1315 {a b c:Int}(h0:0<a+(b+c))(h1:a=0)(h2:c=0)(h3:b=0):False:=lin [] [_,_,_] [(1,.ie (.v 0) (.n 0)),(1,.ie (.v 1) (.n 0)),(1,.ie (.v 2) (.n 0)),(1,.it (.n 0) (.a (.v 2) (.a (.v 0) (.v 1))))] rfl h3 h2 h1 h0
theorem z1316 {a b c d:Int}(h0:min (min c d) a<b)(h1:¬(d<b))(h2:¬(c<b)):a<b:=Int.not_le.mp fun h=>Int.not_lt.mpr (Int.le_min.mpr ⟨Int.le_min.mpr ⟨Int.not_lt.mp h2,Int.not_lt.mp h1⟩,h⟩) h0
theorem z1317 {a b c:Int}(h0:0<a+(b+c))(h1:b=0)(h2:a=0)(h3:c=0):False:=lin [] [_,_,_] [(1,.ie (.v 0) (.n 0)),(1,.ie (.v 1) (.n 0)),(1,.ie (.v 2) (.n 0)),(1,.it (.n 0) (.a (.v 1) (.a (.v 2) (.v 0))))] rfl h3 h2 h1 h0
theorem z1318 {a b c d:Int}(h0:c<a)(h1:a<max (max d b) c)(h2:¬(a<d)):a<b:=Int.not_le.mp fun h=>Int.not_lt.mpr (Int.max_le.mpr ⟨Int.max_le.mpr ⟨Int.not_lt.mp h2,h⟩,Int.le_of_lt h0⟩) h1
theorem z1319 {a b c:Int}(h0:0<a+(b+c))(h1:a=0)(h2:b=0)(h3:c=0):False:=lin [] [_,_,_] [(1,.ie (.v 0) (.n 0)),(1,.ie (.v 1) (.n 0)),(1,.ie (.v 2) (.n 0)),(1,.it (.n 0) (.a (.v 2) (.a (.v 1) (.v 0))))] rfl h3 h2 h1 h0
theorem z1320 {a b c d:Int}(h0:¬(min (min b c) d<a/\a<max (max b c) d)):a<=b/\a<=c/\a<=d\/b<=a/\c<=a/\d<=a:=(Classical.em (min (min b c) d<a)).elim (fun h=>.inr (have q:=Int.max_le.mp (Int.not_lt.mp fun w=>h0 ⟨h,w⟩);have r:=Int.max_le.mp q.1;⟨r.1,r.2,q.2⟩)) fun h=>.inl (have q:=Int.le_min.mp (Int.not_lt.mp h);have r:=Int.le_min.mp q.1;⟨r.1,r.2,q.2⟩)
theorem z1321 {b d f:Nat}{a c e:Int}(h0:a.natAbs=0*b)(h1:c.natAbs=0*d)(h2:e.natAbs=0*f)(h3:e≠0\/a≠0\/c≠0):False:=h3.elim (· (Int.natAbs_eq_zero.mp (h2.trans (Nat.zero_mul _)))) fun h=>h.elim (· (Int.natAbs_eq_zero.mp (h0.trans (Nat.zero_mul _)))) (· (Int.natAbs_eq_zero.mp (h1.trans (Nat.zero_mul _))))
theorem z1322 {a:Int}(h0:0<=a):a=((a.natAbs:Nat):Int):=Int.eq_natAbs_of_nonneg h0
theorem z1323 {a:Int}(h0:a<=0): -a=((a.natAbs:Nat):Int):=Eq.symm (Int.ofNat_natAbs_of_nonpos h0)
theorem z1324 {a b c d:Int}(h0:a<=c/\a<=b/\a<=d\/c<=a/\b<=a/\d<=a):a<=b/\a<=c\/b<=a/\c<=a:=h0.imp (fun h=>⟨h.2.1,h.1⟩) fun h=>⟨h.2.1,h.1⟩
theorem z1325 {a b c d:Int}(h0:a<=c/\a<=d/\a<=b\/c<=a/\d<=a/\b<=a):a<=b/\a<=c\/b<=a/\c<=a:=by lia
theorem z1326 {a b c d:Int}(h0:a<=d/\a<=c/\a<=b\/d<=a/\c<=a/\b<=a):a<=b/\a<=c\/b<=a/\c<=a:=h0.imp (fun h=>⟨h.2.2,h.2.1⟩) fun h=>⟨h.2.2,h.2.1⟩
theorem z1327 {a b c:Int}(h0:a≠0\/b≠0\/c≠0):0<a.natAbs\/0<b.natAbs\/0<c.natAbs:=h0.imp Int.natAbs_pos.mpr (Or.imp Int.natAbs_pos.mpr Int.natAbs_pos.mpr)
theorem z1328 {a b c:Nat}(h0:0<(a:Int)+((b:Int)+(c:Int)))(h1:c=0)(h2:b=0)(h3:a=0):False:=lin [_,_,_] [] [(1,.ne (.v 0) (.n 0)),(1,.ne (.v 1) (.n 0)),(1,.ne (.v 2) (.n 0)),(1,.it (.n 0) (.a (.c (.v 0)) (.a (.c (.v 1)) (.c (.v 2)))))] rfl h3 h2 h1 h0
theorem z1329 {a:Int}(h0:a.natAbs=0)(h1:a≠0):False:=by lia
theorem z1330 {a b c:Nat}(h0:a≠0\/b≠0\/c≠0):0<(a:Int)+((b:Int)+(c:Int)):=by lia
theorem z1331 {a:Int}:(4+a%2).toNat=4\/(4+a%2).toNat=5:=by lia
theorem z1332 {a:Int}:4+a%2=(((4+a%2).toNat:Nat):Int):=by grind
theorem z1333 {a:Nat}(h0:a=4\/a=5):0<(a:Int):=by lia
theorem z1334 {a:Nat}(h0:a=4\/a=5):(a:Int).natAbs<2^64:=by grind
theorem z1335 {a:Nat}(h0:a=4\/a=5):(a:Int)≠0:=by lia
theorem z1336 {a:Nat}:0<=2+2*(a:Int):=Int.zero_le_ofNat (2+2*a)
theorem z1337 {a:Nat}(h0:a<=2):2+2*(a:Int)<2^60:=by lia
theorem z1338 {a:Nat}:0<=3+2*(a:Int):=Int.zero_le_ofNat (3+2*a)
theorem z1339 {a:Nat}(h0:a<=2):3+2*(a:Int)<2^60:=by lia
theorem z1340 {a:Int}: -20<=a%41-20/\a%41-20<=20:=by lia
theorem z1341 {a:Nat}(h0:a=4\/a=5):a<1000:=by lia
theorem z1342 {a b:Nat}(h0:a<b)(h1:b=4\/b=5):(a:Int)<2^63:=by lia
theorem z1343 {a b:Nat}(h0:a=b)(h1:b<=2):a<=2^24:=by lia
theorem z1344 {a b:Int}(h0:b%41-20=a):a.natAbs<100:=by lia
theorem z1345 {a:Nat}(h0:a=4\/a=5):a<=2^24:=by lia
theorem z1346 {a b c d:Nat}(h0:d<=2)(h1:c<=2)(h2:a<=2*d):a+min b c<=2^24:=by lia
theorem z1347 {a:Nat}:((a:Int)+4)%5=(((a+4)%5:Nat):Int):=by simp
theorem z1349 {a b:Nat}(h0:b<=2)(h1:a<=2*b):a<=2^24:=by lia
theorem z1350 {a:Nat}(h0:¬(a=5)):(a:Int)≠5:=Nat.ToInt.of_diseq rfl rfl h0
theorem z1351 {a b c:Nat}(h0:b<=1)(h1:c<=2)(h2:a<=2*c):a+b<64:=Nat.not_le.mp fun qz=>lin [_,_,_] [] [(1,.nl (.n 64) (.a (.v 0) (.v 1))),(1,.nl (.v 0) (.m 2 (.v 2))),(2,.nl (.v 2) (.n 2)),(1,.nl (.v 1) (.n 1))] rfl qz h2 h1 h0
theorem z1353 {a b:Nat}(h0:a=b)(h1:b<=2):a<=3:=Nat.le_of_lt (Nat.lt_of_le_of_lt (Nat.le_trans (Nat.le_of_eq h0) h1) (by decide))
theorem z1354 {a:Nat}(h0:a=4\/a=5):1<=a:=by lia
theorem z1355 {a:Nat}(h0:a=4\/a=5):a<=5:=by lia
theorem z1356 {a b:Nat}(h0:a=b)(h1:b<=2):a<100:=Nat.lt_of_le_of_lt (Nat.le_trans (Nat.le_of_eq h0) h1) (by decide)
theorem z1357 {a:Nat}(h0:a=4\/a=5):a<100:=by lia
theorem z1358 {a:Nat}(h0:a<64):a<=16777216:=by lia
theorem z1359 {a b:Nat}(h0:(a:Int)=(b:Int))(h1:a<b):False:=lin [_,_] [] [(1,.nt (.v 0) (.v 1)),(1,.jf (.c (.v 0)) (.c (.v 1)))] rfl h1 h0
theorem z1360 {a b c d:Int}(h0:c+a=d)(h1:c+b=d):a=b:=Int.le_antisymm (Int.not_lt.mp fun qz=>lin [] [_,_,_,_] [(1,.it (.v 0) (.v 1)),(1,.jf (.a (.v 2) (.v 0)) (.v 3)),(1,.ie (.a (.v 2) (.v 1)) (.v 3))] rfl qz h1 h0) (Int.not_lt.mp fun qz=>lin [] [_,_,_,_] [(1,.it (.v 0) (.v 1)),(1,.ie (.a (.v 2) (.v 1)) (.v 3)),(1,.jf (.a (.v 2) (.v 0)) (.v 3))] rfl qz h1 h0)
theorem z1361 {a b:Int}(h0:a+0*b=0):0+a=0:=by lia
theorem z1362 {a b c d:Int}(h0:c+a+b=d):a+b+c=d:=by lia
theorem z1363 {a b c d:Int}(h0:a+c+b=d):a+b+c=d:=by lia
theorem z1364 {a b:Int}:0*a+0*b=0:=by simp
theorem z1365 {a:Int}(h0:a<(21:Int)):a<=20:=Int.le_iff_lt_add_one.mpr h0
theorem z1366 {a:Int}(h0:a<=(20:Int)):a<=20:=h0
theorem z1367 {a b c:Int}:a+(b+c)=a+b+c:=by lia
theorem z1368 {a b c:Int}:0*a+0*b+0*c=0:=by simp
theorem z1370 {a b c:Nat}(h0:b<=2)(h1:a<=2*c):a+b<=2*(c+1):=Nat.not_lt.mp fun qz=>lin [_,_,_] [] [(1,.nt (.m 2 (.a (.v 0) (.n 1))) (.a (.v 1) (.v 2))),(1,.nl (.v 1) (.m 2 (.v 0))),(1,.nl (.v 2) (.n 2))] rfl qz h1 h0
theorem z1371 {a:Int}(h0:¬(a%4=3)):(a%4).toNat<3:=by lia
theorem z1372 {a:Int}:a%4=(((a%4).toNat:Nat):Int):=by lia
theorem z1377 {a:Nat}(h0:a=2\/a=3):1<=a:=by lia
theorem z1378 {a:Nat}(h0:a=2\/a=3):a<=5:=by lia
theorem z1379 {a b:Nat}(h0:a=b)(h1:b<=3):a<100:=Nat.lt_of_le_of_lt (Nat.le_trans (Nat.le_of_eq h0) h1) (by decide)
theorem z1380 {a:Nat}(h0:a=2\/a=3):a<100:=by lia
theorem z1381 {a b c d:Nat}(h0:a+c=d)(h1:d<=b):a<=b:=Nat.not_lt.mp fun qz=>lin [_,_,_,_] [] [(1,.nt (.v 0) (.v 1)),(1,.nl (.v 2) (.v 0)),(1,.ne (.a (.v 1) (.v 3)) (.v 2))] rfl qz h1 h0
theorem z1385 {a:Nat}(h0:0=a)(h1:a=2\/a=3):False:=by lia
theorem z1388 {a b c:Nat}(h0:c<b)(h1:a<=c):a<=b-1:=Nat.not_lt.mp fun qz=>lin [_,_,_,_] [] [(1,.nt (.v 0) (.v 1)),(1,.nl (.v 1) (.v 2)),(1,.nt (.v 2) (.v 3)),(1,.nl (.v 3) (.a (.v 0) (.n 1)))] rfl qz h1 h0 (Nat.sub_le_iff_le_add.mp (Nat.le_refl _))
theorem z1389 {a b c:Nat}(h0:b<a):¬(a<b/\b<=c):=by lia
theorem z1390 {a b:Nat}(h0:¬(b<a))(h1:¬(b=a)):a<b:=by lia
theorem z1391 {a b c:Nat}(h0:a<=b)(h1:¬(a<c))(h2:¬(a=c)):a-1<b:=by lia
theorem z1392 {a b:Nat}(h0:¬(a<=b)):¬(a-1<b):=fun qz=>lin [_,_,_] [] [(1,.nt (.v 0) (.v 1)),(1,.nt (.v 1) (.v 2)),(1,.nl (.v 2) (.a (.v 0) (.n 1)))] rfl qz (Nat.not_le.mp h0) (Nat.sub_le_iff_le_add.mp (Nat.le_refl _))
theorem z1393 {a b:Nat}(h0:¬(a<b))(h1:¬(a=b)):1<=a:=by lia
theorem z1394 {a b c d e:Nat}(h0:a+b+(d+c)<=e):a+(b+c)+d<=e:=Nat.not_lt.mp fun qz=>lin [_,_,_,_,_] [] [(1,.nt (.v 0) (.a (.a (.v 1) (.a (.v 2) (.v 3))) (.v 4))),(1,.nl (.a (.a (.v 1) (.v 2)) (.a (.v 4) (.v 3))) (.v 0))] rfl qz h0
theorem z1395 {a b c:Nat}:a+b<a+(b+1)+c:=Nat.not_le.mp fun qz=>lin [_,_,_] [] [(1,.nl (.a (.a (.v 0) (.a (.v 1) (.n 1))) (.v 2)) (.a (.v 0) (.v 1)))] rfl qz
end Mine
namespace Mine
open PySem PySem.Calls PyProof.Rows
theorem len2 {α:Type}{l:List α}(h:l.length=2):∃a b,l=[a,b]:=by
 obtain ⟨a,t,rfl⟩:=List.exists_cons_of_length_eq_add_one h
 obtain ⟨b,rfl⟩:=List.length_eq_one_iff.mp (Nat.succ.inj h)
 exact ⟨a,b,rfl⟩
theorem len3 {α:Type}{l:List α}(h:l.length=3):∃a b c,l=[a,b,c]:=by
 obtain ⟨a,t,rfl⟩:=List.exists_cons_of_length_eq_add_one h
 obtain ⟨b,c,rfl⟩:=len2 (Nat.succ.inj h)
 exact ⟨a,b,c,rfl⟩
inductive D where
 | none
 | bool (b:Bool)
 | int (i:Int)
 | str (x:Str)
 | tup (ds:List D)
 | lst (ds:List D)
 | sys (C:Addr) (size rules:D)
 | own (C dx:Addr)
 | exc (C:Addr)
 | typ (T:String)
 | ref (a:Addr)
noncomputable abbrev tupObj (vs:List Value)(n:Nat):Obj:={cls:=.type "tuple",data:=.seq vs.toArray n}
noncomputable abbrev lstObj (vs:List Value)(n:Nat):Obj:={cls:=.type "list",data:=.seq vs.toArray n}
inductive SysAt (K:List Addr)(h:Heap)(C:Addr)(P1 P2:Value->Prop)(v:Value):Prop
 | mk (a dx:Addr) (v1 v2:Value) (mA:Str->Option Value) (e:v=.ref a) (na:a∉K) (nd:dx∉K) (g:h.get? a=some {cls:=.ref C,dict:=some dx,data:=.plain}) (ns:h.Ns dx mA) (f1:mA "size"=some v1) (f2:mA "rules"=some v2)
   (f3:∀x:Str,x≠"size"->x≠"rules"->mA x=none) (r1:P1 v1) (r2:P2 v2):SysAt K h C P1 P2 v
mutual
noncomputable def V (K:List Addr)(h:Heap):D->Value->Prop
 | .none,v=>v=.none
 | .bool b,v=>v=.bool b
 | .int i,v=>∃t,v=.int i t
 | .str x,v=>∃t,v=.str x t
 | .tup ds,v=>∃a vs n,v=.ref a/\a∉K/\h.get? a=some (tupObj vs n)/\Vs K h ds vs
 | .lst ds,v=>∃a vs n,v=.ref a/\a∉K/\h.get? a=some (lstObj vs n)/\Vs K h ds vs
 | .sys C sz ru,v=>SysAt K h C (fun x=>V K h sz x) (fun x=>V K h ru x) v
 | .own C dx,v=>∃a,v=.ref a/\a∉K/\h.get? a=some {cls:=.ref C,dict:=some dx,data:=.plain}
 | .exc C,v=>∃a o vs,v=.ref a/\a∉K/\h.get? a=some o/\o.cls=.ref C/\o.data=.fields vs/\o.dict=none
 | .typ T,v=>v=.type T
 | .ref a,v=>v=.ref a
noncomputable def Vs (K:List Addr)(h:Heap):List D->List Value->Prop
 | [],vs=>vs=[]
 | d::ds,vs=>∃v r,vs=v::r/\V K h d v/\Vs K h ds r
end
noncomputable def Stay (K:List Addr)(h h':Heap):Prop:=∀b o,b∉K->h.get? b=some o->h'.get? b=some o
noncomputable def Less (K K':List Addr)(h:Heap):Prop:=∀a,a∈K'->a∈K\/h.get? a=none
theorem Less.nin {K K':List Addr}{h:Heap}(l:Less K K' h){a:Addr}{o:Obj}(n:a∉K)(e:h.get? a=some o):a∉K':=fun m=>
 (l a m).elim n fun q=>by replace e:=(q ..).symm.trans e;contradiction
mutual
theorem V.move {K K':List Addr}{h h':Heap}(k:Stay K h h')(l:Less K K' h):∀(d:D) (v:Value),V K h d v->V K' h' d v
 | .none,v,x=>by unfold V at*;exact x
 | .bool b,v,x=>by unfold V at*;exact x
 | .int i,v,x=>by unfold V at*;exact x
 | .str y,v,x=>by unfold V at*;exact x
 | .tup ds,v,x=>by
  unfold V at*
  obtain ⟨a,vs,n,e,nk,g,r⟩:=x
  exact ⟨a,vs,n,e,l.nin nk g,k _ _ nk g,Vs.move k l ds vs r⟩
 | .lst ds,v,x=>by
  unfold V at*
  obtain ⟨a,vs,n,e,nk,g,r⟩:=x
  exact ⟨a,vs,n,e,l.nin nk g,k _ _ nk g,Vs.move k l ds vs r⟩
 | .sys C sz ru,v,x=>by
  unfold V at*
  obtain ⟨a,dx,v1,v2,mA,e,nk,nd,g,⟨od,es,ep,gd,hd⟩,f1,f2,f3,r1,r2⟩:=x
  exact ⟨a,dx,v1,v2,mA,e,l.nin nk g,l.nin nd gd,k _ _ nk g,⟨od,es,ep,k _ _ nd gd,hd⟩,f1,f2,f3,V.move k l sz v1 r1,V.move k l ru v2 r2⟩
 | .own C dx,v,x=>by
  unfold V at*
  obtain ⟨a,e,nk,g⟩:=x
  exact ⟨a,e,l.nin nk g,k _ _ nk g⟩
 | .exc C,v,x=>by
  unfold V at*
  obtain ⟨a,o,vs,e,nk,g,r⟩:=x
  exact ⟨a,o,vs,e,l.nin nk g,k _ _ nk g,r⟩
 | .typ T,v,x=>by unfold V at*;exact x
 | .ref a,v,x=>by unfold V at*;exact x
theorem Vs.move {K K':List Addr}{h h':Heap}(k:Stay K h h')(l:Less K K' h):∀(ds:List D) (vs:List Value),Vs K h ds vs->Vs K' h' ds vs
 | [],vs,x=>by unfold Vs at*;exact x
 | d::ds,vs,x=>by
  unfold Vs at*
  obtain ⟨v,r,e,p,q⟩:=x
  exact ⟨v,r,e,V.move k l d v p,Vs.move k l ds r q⟩
end
theorem Vs.length {K:List Addr}{h:Heap}:∀{ds:List D} {vs:List Value},Vs K h ds vs->vs.length=ds.length
 | [],_,x=>by subst x;rfl
 | _::_,_,x=>by obtain ⟨v,r,rfl,_,q⟩:=x;simp [q.length]
theorem Vs.get {K:List Addr}{h:Heap}:∀{ds:List D} {vs:List Value},Vs K h ds vs->∀{i:Nat} {v:Value},vs[i]? =some v->∃d,ds[i]? =some d/\V K h d v
 | [],_,x,i,v,e=>by subst x;contradiction
 | d::ds,_,x,i,v,e=>by
  obtain ⟨v',r,rfl,p,q⟩:=x
  cases i with
  | zero=>simp at e;subst e;exact ⟨d,rfl,p⟩
  | succ i=>simp at e;exact q.get e
theorem Vs.got {K:List Addr}{h:Heap}:∀{ds:List D} {vs:List Value},Vs K h ds vs->∀{i:Nat} {d:D},ds[i]? =some d->∃v,vs[i]? =some v/\V K h d v
 | [],_,x,i,v,e=>by contradiction
 | d::ds,_,x,i,d',e=>by
  obtain ⟨v',r,rfl,p,q⟩:=x
  cases i with
  | zero=>simp at e;subst e;exact ⟨v',rfl,p⟩
  | succ i=>simp at e;exact q.got e
theorem Vs.nil {K:List Addr}{h:Heap}:Vs K h [] []:=by unfold Vs;rfl
theorem Vs.cons {K:List Addr}{h:Heap}{d:D}{v:Value}{ds:List D}{vs:List Value}(a:V K h d v)(b:Vs K h ds vs):Vs K h (d::ds) (v::vs):=by exact ⟨v,vs,rfl,a,b⟩
theorem Vs.append {K:List Addr}{h:Heap}:∀{ds:List D} {vs:List Value} {es:List D} {us:List Value},Vs K h ds vs->Vs K h es us->Vs K h (ds++es) (vs++us)
 | [],_,_,_,x,y=>by subst x;exact y
 | d::ds,_,_,_,x,y=>by obtain ⟨v,r,rfl,p,q⟩:=x;exact .cons p (q.append y)
theorem Vs.snoc {K:List Addr}{h:Heap}{d:D}{v:Value}{ds:List D}{vs:List Value}(b:Vs K h ds vs)(a:V K h d v):Vs K h (ds++[d]) (vs++[v]):=b.append (.cons a .nil)
theorem Vs.take {K:List Addr}{h:Heap}:∀(n:Nat) {ds:List D} {vs:List Value},Vs K h ds vs->Vs K h (ds.take n) (vs.take n)
 | 0,_,_,_=>by exact Vs.nil
 | n+1,[],_,x=>by subst x;exact Vs.nil
 | n+1,d::ds,_,x=>by obtain ⟨v,r,rfl,p,q⟩:=x;exact .cons p (q.take n)
theorem Vs.drop {K:List Addr}{h:Heap}:∀(n:Nat) {ds:List D} {vs:List Value},Vs K h ds vs->Vs K h (ds.drop n) (vs.drop n)
 | 0,_,_,x=>x
 | n+1,[],_,x=>by subst x;exact Vs.nil
 | n+1,d::ds,_,x=>by obtain ⟨v,r,rfl,p,q⟩:=x;exact q.drop n
inductive O where
 | lst (ds:List D)
 | rows (rs:List (List Int))
 | flds (fs:List (Str × D))
noncomputable abbrev Sto:=List (Addr × O)
noncomputable abbrev keys (σ:Sto):List Addr:=σ.map (·.1)
noncomputable def rowItems (rs:List (List Int))(as:List Addr):List (List Int × Addr × Value):=(rs.zip as).map fun p=>(p.1,p.2,Value.bool true)
noncomputable def IsO (prog:Program)(w:World)(K:List Addr)(h:Heap)(a:Addr):O->Prop
 | .lst ds=>∃vs n,h.get? a=some (lstObj vs n)/\Vs K h ds vs
 | .rows rs=>∃as:List Addr,as.length=rs.length/\(Vs K h (rs.map fun r=>.tup (r.map .int)) (as.map .ref)/\(a==sysModules)=false)/\h.DictOfH (tupleKind (intKind prog w)) a (rowItems rs as)
 | .flds fs=>∃mA,h.Ns1 a mA/\(∀x d,fs.lookup x=some d->∃v,mA x=some v/\V K h d v)/\∀x,fs.lookup x=none->mA x=none
theorem IsTupleKey.stay {prog:Program}{w:World}{K:List Addr}{h h':Heap}{ks:List Int}{a:Addr}(x:IsTupleKey (intKind prog w) h ks a)(k:Stay K h h')(n:a∉K):IsTupleKey (intKind prog w) h' ks a:=by
 obtain ⟨o,items,n',ho,r⟩:=x
 exact ⟨o,items,n',k _ _ n ho,r⟩
theorem mem_rowItems {rs:List (List Int)}{as:List Addr}{x:List Int × Addr × Value}(h:x∈rowItems rs as):x.2.1∈as:=by
 obtain ⟨p,hp,rfl⟩:=List.mem_map.mp h
 exact (List.of_mem_zip hp).2
theorem Vs.refs {K:List Addr}{h:Heap}:∀{rs:List (List Int)} {as:List Addr},Vs K h (rs.map fun r=>.tup (r.map .int)) (as.map .ref)->∀x∈as,x∉K
 | [],[],_,x,hx=>by cases hx
 | [],_::_,v,x,hx=>by simp only [List.map_nil] at v;contradiction
 | _::_,[],v,x,hx=>by cases hx
 | r::rs,a::as,v,x,hx=>by
  obtain ⟨w,us,e,v1,v2⟩:=v
  cases e
  rcases List.mem_cons.mp hx with rfl| hx
  ·obtain ⟨b,vs,n,e,nk,_⟩:=v1
   injection e with e;subst e;exact nk
  ·exact Vs.refs v2 x hx
theorem IsO.move {prog:Program}{w:World}{K K':List Addr}{h h':Heap}{a:Addr}{o:O}(k:Stay K h h')(l:Less K K' h)(e:∀x,h.get? a=some x->h'.get? a=some x)(x:IsO prog w K h a o):IsO prog w K' h' a o:=by
 cases o with
 | lst ds=>
  obtain ⟨vs,n,g,r⟩:=x
  exact ⟨vs,n,e _ g,Vs.move k l ds vs r⟩
 | rows rs=>
  obtain ⟨as,hl,hn,o,es,ep,g,ex,hd,he,hk,nd⟩:=x
  refine ⟨as,hl,⟨Vs.move k l _ _ hn.1,hn.2⟩,o,es,ep,e _ g,ex,hd,he,fun y hy=> ?_,nd⟩
  exact IsTupleKey.stay (hk y hy) k (Vs.refs hn.1 _ (mem_rowItems hy))
 | flds fs=>
  obtain ⟨mA,⟨o,es,ep,g,hd⟩,h1,h2⟩:=x
  refine ⟨mA,⟨o,es,ep,e _ g,hd⟩,fun x d q=> ?_,h2⟩
  obtain ⟨v,a,b⟩:=h1 x d q
  exact ⟨v,a,V.move k l d v b⟩
structure Cx where
 prog:Program
 w:World
 h0:Heap
 mg:Str->Option Value
 mb:Str->Option Value
noncomputable abbrev Vars:=List (Str × D)
structure Fm (env:Env)(m:Vars)(fr K:List Addr)(h:Heap):Prop where
 kind:env.scope.kind=.function
 glob:env.globals=mainGlobals
 bui:env.builtins=builtinsNs
 ns:∃mv,h.Ns env.locals mv/\∀x d,m.lookup x=some d->env.kindOf x=some .local->∃v,mv x=some v/\V K h d v
 cell:∀x c,env.cells.lookup x=some c->∃ov,h.IsCell c ov/\∀d,m.lookup x=some d->(env.kindOf x=some .cell\/env.kindOf x=some .free)->∃v,ov=some v/\V K h d v
 has:∀x,(env.kindOf x=some .cell\/env.kindOf x=some .free)->∃c,env.cells.lookup x=some c
 inn:env.locals∈fr/\∀p∈env.cells,p.2∈fr
 apart:(env.cells.Pairwise fun x y=>x.2≠y.2)/\∀p∈env.cells,p.2≠env.locals
noncomputable def DictAt (h:Heap)(b:Addr):Prop:=∃o es n,h.get? b=some o/\o.data=.dict es n
structure Ok (c:Cx)(A:Around)(fr:List Addr)(σ:Sto)(h:Heap):Prop where
 base:c.h0.StaysIn h
 sto:∀p∈σ,IsO c.prog c.w (keys σ++fr) h p.1 p.2
 nd:(keys σ++fr).Nodup
 new:∀a∈keys σ++fr,c.h0.get? a=none
 live:∀a∈fr,∃o,h.get? a=some o
 stack:∃l,A.frames=some l/\h.FunFrames c.h0 l/\(∀b∈l.filterMap (·.frame),b∈fr)/\∀b∈l.filterMap (·.frame),DictAt h b
structure Post (F fr:List Addr)(σ:Sto)(s s':Shared)(σ':Sto):Prop where
 shape:∃h tk,s'={s with heap:=h,toks:=tk}
 kept:∀b o,b∉keys σ++fr->s.heap.get? b=some o->s'.heap.get? b=some o
 slots:∀b o,b∈fr->b∉F->s.heap.get? b=some o->∃sl,s'.heap.get? b=some {o with slots:=sl}/\((∀es n,o.data≠.dict es n)->sl=o.slots)
 alive:∀b o,s.heap.get? b=some o->∃o',s'.heap.get? b=some o'
 grow:∀a,a∈keys σ'->a∈keys σ\/s.heap.get? a=none
theorem Post.stay {F fr:List Addr}{σ σ':Sto}{s s':Shared}(p:Post F fr σ s s' σ'):Stay (keys σ++fr) s.heap s'.heap:=fun b o n e=>p.kept b o n e
theorem Post.less {F fr:List Addr}{σ σ':Sto}{s s':Shared}(p:Post F fr σ s s' σ'):Less (keys σ++fr) (keys σ'++fr) s.heap:=fun a m=>by
 rcases List.mem_append.mp m with q| q
 ·exact (p.grow a q).imp (List.mem_append_left _) id
 ·exact .inl (List.mem_append_right _ q)
theorem Post.v {F fr:List Addr}{σ σ':Sto}{s s':Shared}{d:D}{v:Value}(p:Post F fr σ s s' σ')(x:V (keys σ++fr) s.heap d v):V (keys σ'++fr) s'.heap d v:=V.move p.stay p.less d v x
theorem Post.vs {F fr:List Addr}{σ σ':Sto}{s s':Shared}{d:List D}{v:List Value}(p:Post F fr σ s s' σ')(x:Vs (keys σ++fr) s.heap d v):Vs (keys σ'++fr) s'.heap d v:=Vs.move p.stay p.less d v x
theorem Post.refl (F fr:List Addr)(σ:Sto)(s:Shared):Post F fr σ s s σ:=
 ⟨⟨s.heap,s.toks,rfl⟩,fun _ _ _ e=>e,fun _ o _ _ e=>⟨o.slots,e,fun _=>rfl⟩,fun _ o e=>⟨o,e⟩,fun _ m=>.inl m⟩
theorem Post.tok (F fr:List Addr)(σ:Sto)(s:Shared)(tk:Nat):Post F fr σ s {s with toks:=tk} σ:=
 ⟨⟨s.heap,tk,rfl⟩,fun _ _ _ e=>e,fun _ o _ _ e=>⟨o.slots,e,fun _=>rfl⟩,fun _ o e=>⟨o,e⟩,fun _ m=>.inl m⟩
theorem Post.trans {F fr:List Addr}{σ σ' σ'':Sto}{s s' s'':Shared}(p:Post F fr σ s s' σ')(q:Post F fr σ' s' s'' σ''):Post F fr σ s s'' σ'' where
 shape:=by obtain ⟨h,tk,rfl⟩:=p.shape;obtain ⟨h',tk',rfl⟩:=q.shape;exact ⟨h',tk',rfl⟩
 kept:=fun b o n e=>q.kept b o (p.less.nin n e) (p.kept b o n e)
 slots:=fun b o m n e=>by
  obtain ⟨sl,e1,r1⟩:=p.slots b o m n e
  obtain ⟨sl',e2,r2⟩:=q.slots b _ m n e1
  exact ⟨sl',e2,fun z=>(r2 z).trans (r1 z)⟩
 alive:=fun b o e=>by obtain ⟨o1,e1⟩:=p.alive b o e;exact q.alive b o1 e1
 grow:=fun a m=>by
  rcases q.grow a m with h| h
  ·exact p.grow a h
  ·refine .inr ?_
   cases e:s.heap.get? a with
   | none=>rfl
   | some o=>obtain ⟨o1,e1⟩:=p.alive a o e;replace h:=(e1 ..).symm.trans h;contradiction
theorem Post.wide {F F' fr:List Addr}{σ σ':Sto}{s s':Shared}(p:Post F fr σ s s' σ')(h:∀a∈F,a∈F'):Post F' fr σ s s' σ':=
 ⟨p.shape,p.kept,fun b o m n e=>p.slots b o m (fun q=>n (h b q)) e,p.alive,p.grow⟩
theorem Fm.move {env:Env}{m:Vars}{fr:List Addr}{σ σ':Sto}{s s':Shared}(f:Fm env m fr (keys σ++fr) s.heap)(p:Post [] fr σ s s' σ'):Fm env m fr (keys σ'++fr) s'.heap where
 kind:=f.kind
 glob:=f.glob
 bui:=f.bui
 ns:=by
  obtain ⟨mv,⟨o,es,ep,g,hd,hk,hf⟩,r⟩:=f.ns
  obtain ⟨sl,g',_⟩:=p.slots _ _ f.inn.1 (by simp) g
  exact ⟨mv,⟨_,es,ep,g',hd,hk,hf⟩,fun x d e k=>by obtain ⟨v,a,b⟩:=r x d e k;exact ⟨v,a,p.v b⟩⟩
 cell:=fun x c e=>by
  obtain ⟨ov,⟨o,g,hd⟩,r⟩:=f.cell x c e
  obtain ⟨sl,g',_⟩:=p.slots _ _ (f.inn.2 _ (mem_of_lookup e)) (by simp) g
  exact ⟨ov,⟨_,g',hd⟩,fun d e k=>by obtain ⟨v,a,b⟩:=r d e k;exact ⟨v,a,p.v b⟩⟩
 has:=f.has
 inn:=f.inn
 apart:=f.apart
noncomputable abbrev Fa (env:Env):List Addr:=env.locals::env.cells.map (·.2)
noncomputable abbrev Fo:Option Env->List Addr
 | none=>[]
 | some env=>Fa env
inductive Ex (c:Cx)(A:Around)(G:Option Env)(fr:List Addr)(σ:Sto)(s:Shared)(t:Bool)(X:Addr->Sto->Prop)(v:Value)(s':Shared):Prop
theorem none_back {F fr:List Addr}{σ σ':Sto}{s s':Shared}(p:Post F fr σ s s' σ'){a:Addr}(h:s'.heap.get? a=none):s.heap.get? a=none:=by
 cases e:s.heap.get? a with
 | none=>rfl
 | some o=>refine Exists.elim (p.alive a o e) fun o1 e1=> ?_;replace h:=(e1 ..).symm.trans h;contradiction
theorem Ex.back {c:Cx}{A:Around}{G:Option Env}{fr:List Addr}{σ σ':Sto}{s s' s'':Shared}{t:Bool}{X X':Addr->Sto->Prop}{v:Value}(p:Post (Fo G) fr σ s s' σ')(x:Ex c A G fr σ' s' t X v s'')(hX:∀C σ,X C σ->X' C σ):Ex c A G fr σ s t X' v s'':=nomatch x
inductive Po {α β:Type}(c:Cx)(A:Around)(G:Option Env)(fr:List Addr)(σ:Sto)(s:Shared)(R:List Addr->Heap->β->α->Prop)(Q:β->Sto->Prop)(a:α)(s':Shared):Prop
 | mk (b:β) (σ':Sto) (p:Post (Fo G) fr σ s s' σ') (ok:Ok c A fr σ' s'.heap) (r:R (keys σ'++fr) s'.heap b a) (q:Q b σ'):Po c A G fr σ s R Q a s'
theorem Po.back {α β:Type}{c:Cx}{A:Around}{G:Option Env}{fr:List Addr}{σ σ1:Sto}{s s1:Shared}{R:List Addr->Heap->β->α->Prop}{Q:β->Sto->Prop}{a:α}{s':Shared}(p:Post (Fo G) fr σ s s1 σ1)(x:Po c A G fr σ1 s1 R Q a s'):Po c A G fr σ s R Q a s':=by
 obtain ⟨b,σ2,p2,ok,r,q⟩:=x
 exact ⟨b,σ2,p.trans p2,ok,r,q⟩
noncomputable def W {α β:Type}(c:Cx)(A:Around)(G:Option Env)(fr:List Addr)(σ:Sto)(t:Sem α)(R:List Addr->Heap->β->α->Prop)(Q:β->Sto->Prop)(X:Addr->Sto->Prop)(s:Shared):Prop:=
 wpAny (model c.prog c.w) A t (Po c A G fr σ s R Q) (Ex c A G fr σ s false X) s
noncomputable def WE (c:Cx)(A:Around)(fr:List Addr)(env:Env)(m:Vars)(σ:Sto)(e:Expr)(Q:D->Sto->Prop)(X:Addr->Sto->Prop):Prop:=
 ∀s,Ok c A fr σ s.heap->Fm env m fr (keys σ++fr) s.heap->W c A none fr σ (eval e env) V Q X s
section
variable {c:Cx} {A:Around} {G:Option Env} {fr:List Addr} {σ:Sto} {X:Addr->Sto->Prop} {env:Env} {m:Vars}
theorem W.mono {α β:Type}{t:Sem α}{R:List Addr->Heap->β->α->Prop}{Q Q':β->Sto->Prop}{X':Addr->Sto->Prop}{s:Shared}(h:W c A G fr σ t R Q X s)(hQ:∀b σ,Q b σ->Q' b σ)(hX:∀C σ,X C σ->X' C σ):W c A G fr σ t R Q' X' s:=
 wpAny_mono h (fun _ _ z=>by cases z with| mk b σ' p ok r q=>exact ⟨b,σ',p,ok,r,hQ _ _ q⟩) fun _ _ x=>Ex.back (Post.refl ..) x hX
theorem W.bind {α β α' β':Type}{t:Sem α}{k:α->Sem α'}{R:List Addr->Heap->β->α->Prop}{R':List Addr->Heap->β'->α'->Prop}{Q:β'->Sto->Prop}{s:Shared}
  (h:W c A G fr σ t R (fun b σ'=>∀a s',Post (Fo G) fr σ s s' σ'->Ok c A fr σ' s'.heap->R (keys σ'++fr) s'.heap b a->W c A G fr σ' (k a) R' Q X s') X s):W c A G fr σ (t>>=k) R' Q X s:=by
 refine wpAny_bind (wpAny_mono h (fun a s' hz=> ?_) fun _ _ x=>x)
 obtain ⟨b,σ',p,ok,r,q⟩:=hz
 refine wpAny_mono (q a s' p ok r) (fun _ _ z=>z.back p) fun _ _ x=>Ex.back p x fun _ _ y=>y
theorem W.pure {α β:Type}{a:α}{b:β}{R:List Addr->Heap->β->α->Prop}{Q:β->Sto->Prop}{s:Shared}(ok:Ok c A fr σ s.heap)(r:R (keys σ++fr) s.heap b a)(q:Q b σ):W c A G fr σ (Pure.pure a) R Q X s:=
 wpAny_pure ⟨b,σ,Post.refl ..,ok,r,q⟩
theorem W.standAt {β:Type}{α:Type}{pos:Pos}{k:Sem α}{R:List Addr->Heap->β->α->Prop}{Q:β->Sto->Prop}{s:Shared}(h:W c A G fr σ k R Q X s):W c A G fr σ (PySem.standAt pos>>=fun _=>k) R Q X s:=
 wpAny_bind (wpAny_standAt h)
theorem W.holding {β:Type}{α:Type}{vs:List Value}{k:Sem α}{R:List Addr->Heap->β->α->Prop}{Q:β->Sto->Prop}{s:Shared}(h:W c A G fr σ k R Q X s):W c A G fr σ (PySem.holding vs k) R Q X s:=
 wpAny_holding h
end
theorem FunFrames.stays {c:Cx}{h h':Heap}{l:List Env}{fr:List Addr}(hk:∀b o,b∈fr->h.get? b=some o->∃sl,h'.get? b=some {o with slots:=sl})(hl:h.FunFrames c.h0 l)(hin:∀b∈l.filterMap (·.frame),b∈fr):h'.FunFrames c.h0 l:=by
 induction l with
 | nil=>trivial
 | cons env rest ih=>
  obtain ⟨hk1,⟨L,o,hf,hn,ho,hd⟩,hr⟩:=hl
  obtain ⟨sl,e⟩:=hk L o (hin L (by simp [hf])) ho
  exact ⟨hk1,⟨L,_,hf,hn,e,hd⟩,ih hr fun b hb=>hin b (by simp only [List.filterMap_cons,hf];exact List.mem_cons_of_mem _ hb)⟩
theorem Ok.keeps {c:Cx}{A:Around}{fr:List Addr}{σ:Sto}{h h':Heap}(ok:Ok c A fr σ h)(k:∀b o,h.get? b=some o->h'.get? b=some o):Ok c A fr σ h' where
 base:=fun b o e=>k b o (ok.base b o e)
 sto:=fun p hp=>IsO.move (fun b o _ e=>k b o e) (fun a m=>.inl m) (fun x e=>k _ x e) (ok.sto p hp)
 nd:=ok.nd
 new:=ok.new
 live:=fun a ha=>by obtain ⟨o,e⟩:=ok.live a ha;exact ⟨o,k _ _ e⟩
 stack:=by
  obtain ⟨l,a,b,d,f⟩:=ok.stack
  exact ⟨l,a,FunFrames.stays (fun b o _ e=>⟨o.slots,k b o e⟩) b d,d,fun x hx=>by obtain ⟨o,es,n,g,r⟩:=f x hx;exact ⟨o,es,n,k _ _ g,r⟩⟩
theorem Post.keeps {F fr:List Addr}{σ:Sto}{s:Shared}{h:Heap}{tk:Nat}(k:∀b o,s.heap.get? b=some o->h.get? b=some o):Post F fr σ s {s with heap:=h,toks:=tk} σ:=
 ⟨⟨h,tk,rfl⟩,fun b o _ e=>k b o e,fun b o _ _ e=>⟨o.slots,k b o e,fun _=>rfl⟩,fun b o e=>⟨o,k b o e⟩,fun _ m=>.inl m⟩
section
variable {c:Cx} {A:Around} {G:Option Env} {fr:List Addr} {σ:Sto} {X:Addr->Sto->Prop} {env:Env} {m:Vars} {Q:D->Sto->Prop}
theorem wpAny_release {M:Model}{A:Around}{E:Value->Shared->Prop}{s:Shared}{vs keep:List Value}{Q:Unit->Shared->Prop}(h:Q () s):wpAny M A (release vs keep) Q E s:=fun Γ p hΓ=>by
 unfold release
 rw [Sem.wp_release_go];exact h
theorem W.operate {β:Type}{vs:List Value}{t:Sem Value}{R:List Addr->Heap->β->Value->Prop}{Q:β->Sto->Prop}{s:Shared}(h:W c A G fr σ t R Q X s):W c A G fr σ (PySem.operate vs t) R Q X s:=by
 exact wpAny_bind (wpAny_holding (wpAny_mono h (fun a s' q=>wpAny_bind (wpAny_release (wpAny_pure q))) fun _ _ x=>x))
theorem WE.kInt {i:Int}{k:Nat}{pos:Pos}(h:Q (.int i) σ):WE c A fr env m σ (.Constant (.int i) k pos) Q X:=fun s ok fm=>
 wpAny_Constant_int ⟨.int i,σ,Post.tok ..,ok,by exact ⟨_,rfl⟩,h⟩
theorem WE.kStr {x:Str}{k:Nat}{pos:Pos}(h:Q (.str x) σ):WE c A fr env m σ (.Constant (.str x) k pos) Q X:=fun s ok fm=>
 Constant_str ⟨.str x,σ,Post.tok ..,ok,by exact ⟨_,rfl⟩,h⟩
theorem WE.kBool {b:Bool}{k:Nat}{pos:Pos}(h:Q (.bool b) σ):WE c A fr env m σ (.Constant (.bool b) k pos) Q X:=fun s ok fm=>
 wpAny_pure ⟨.bool b,σ,Post.refl ..,ok,by rfl,h⟩
theorem WE.kNone {k:Nat}{pos:Pos}(h:Q .none σ):WE c A fr env m σ (.Constant .none k pos) Q X:=fun s ok fm=>
 wpAny_pure ⟨.none,σ,Post.refl ..,ok,by rfl,h⟩
theorem WE.mono {e:Expr}{Q':D->Sto->Prop}{X':Addr->Sto->Prop}(h:WE c A fr env m σ e Q X)(hQ:∀d σ,Q d σ->Q' d σ)(hX:∀C σ,X C σ->X' C σ):WE c A fr env m σ e Q' X':=
 fun s ok fm=>(h s ok fm).mono hQ hX
theorem WE.nLocal {x:Str}{pos:Pos}{d:D}(hv:m.lookup x=some d)(hk:env.kindOf x=some .local)(h:Q d σ)(hd:(x==("__debug__":Str))=false:=by decide):WE c A fr env m σ (.Name x pos) Q X:=fun s ok fm=>by
 obtain ⟨mv,hn,r⟩:=fm.ns
 obtain ⟨v,e,hV⟩:=r x d hv hk
 exact wpAny_Name (wpAny_loadName_local fm.kind hk hn e ⟨d,σ,Post.refl ..,ok,hV,h⟩) hd
theorem WE.nCell {x:Str}{pos:Pos}{d:D}(hv:m.lookup x=some d)(hk:env.kindOf x=some .cell)(h:Q d σ)(hd:(x==("__debug__":Str))=false:=by decide):WE c A fr env m σ (.Name x pos) Q X:=fun s ok fm=>by
 obtain ⟨cc,hc⟩:=fm.has x (.inl hk)
 obtain ⟨ov,hcell,r⟩:=fm.cell x cc hc
 obtain ⟨v,rfl,hV⟩:=r d hv (.inl hk)
 exact wpAny_Name (wpAny_loadName_cell fm.kind hk hc hcell ⟨d,σ,Post.refl ..,ok,hV,h⟩) hd
theorem WE.nFree {x:Str}{pos:Pos}{d:D}(hv:m.lookup x=some d)(hk:env.kindOf x=some .free)(h:Q d σ)(hd:(x==("__debug__":Str))=false:=by decide)(hn:(x==("__classdict__":Str))=false:=by decide):WE c A fr env m σ (.Name x pos) Q X:=fun s ok fm=>by
 obtain ⟨cc,hc⟩:=fm.has x (.inr hk)
 obtain ⟨ov,hcell,r⟩:=fm.cell x cc hc
 obtain ⟨v,rfl,hV⟩:=r d hv (.inr hk)
 exact wpAny_Name (wpAny_loadName_free fm.kind hk hc hcell ⟨d,σ,Post.refl ..,ok,hV,h⟩ hn) hd
noncomputable def WB (c:Cx)(A:Around)(fr:List Addr)(σ:Sto)(t:Value->Value->Sem Value)(d1 d2:D)(Q:D->Sto->Prop)(X:Addr->Sto->Prop):Prop:=
 ∀v1 v2 s,Ok c A fr σ s.heap->V (keys σ++fr) s.heap d1 v1->V (keys σ++fr) s.heap d2 v2->W c A none fr σ (t v1 v2) V Q X s
noncomputable def WU (c:Cx)(A:Around)(fr:List Addr)(σ:Sto)(t:Value->Sem Value)(d1:D)(Q:D->Sto->Prop)(X:Addr->Sto->Prop):Prop:=
 ∀v1 s,Ok c A fr σ s.heap->V (keys σ++fr) s.heap d1 v1->W c A none fr σ (t v1) V Q X s
theorem WE.binop {l r:Expr}{op:Operator}{pos:Pos}(h:WE c A fr env m σ l (fun d1 σ1=>WE c A fr env m σ1 r (fun d2 σ2=>WB c A fr σ2 (binaryOp op) d1 d2 Q X) X) X):WE c A fr env m σ (.BinOp l op r pos) Q X:=fun s ok fm=>by
 refine W.bind (W.mono (h s ok fm) (fun d1 σ1 q1 a s1 p1 ok1 x1=> ?_) fun _ _ y=>y)
 refine W.bind (W.holding (W.mono (q1 s1 ok1 (fm.move p1)) (fun d2 σ2 q2 b s2 p2 ok2 x2=> ?_) fun _ _ y=>y))
 exact W.standAt (W.operate (q2 a b s2 ok2 (p2.v x1) x2))
theorem WE.compare {l r:Expr}{op:CmpOp}{pos:Pos}(h:WE c A fr env m σ l (fun d1 σ1=>WE c A fr env m σ1 r (fun d2 σ2=>WB c A fr σ2 (compareOp op) d1 d2 Q X) X) X)(hb:behindInMarks op r=false:=by rfl):
  WE c A fr env m σ (.Compare l [op] [r] pos) Q X:=fun s ok fm=>by
 rw [eval_Compare1,markedBehindIn_of_false hb]
 refine W.bind (W.mono (h s ok fm) (fun d1 σ1 q1 a s1 p1 ok1 x1=> ?_) fun _ _ y=>y)
 refine W.bind (W.holding (W.mono (q1 s1 ok1 (fm.move p1)) (fun d2 σ2 q2 b s2 p2 ok2 x2=> ?_) fun _ _ y=>y))
 exact W.standAt (W.operate (q2 a b s2 ok2 (p2.v x1) x2))
theorem WE.unary {x:Expr}{op:UnaryOp}{pos:Pos}(h:WE c A fr env m σ x (fun d1 σ1=>WU c A fr σ1 (unaryOp op) d1 Q X) X):WE c A fr env m σ (.UnaryOp op x pos) Q X:=fun s ok fm=>by
 refine W.bind (W.mono (h s ok fm) (fun d1 σ1 q1 a s1 p1 ok1 x1=> ?_) fun _ _ y=>y)
 exact W.standAt (W.holding (q1 a s1 ok1 x1))
end
theorem FunFrames.turn {c:Cx}{h h':Heap}{l:List Env}{fr:List Addr}(hk:∀b o,b∈fr->h.get? b=some o->(∀vs,o.data≠.fields vs)->∃o',h'.get? b=some o'/\∀vs,o'.data≠.fields vs)(hl:h.FunFrames c.h0 l)(hin:∀b∈l.filterMap (·.frame),b∈fr):h'.FunFrames c.h0 l:=by
 induction l with
 | nil=>trivial
 | cons env rest ih=>
  obtain ⟨hk1,⟨L,o,hf,hn,ho,hd⟩,hr⟩:=hl
  obtain ⟨o',e,hd'⟩:=hk L o (hin L (by simp [hf])) ho hd
  exact ⟨hk1,⟨L,_,hf,hn,e,hd'⟩,ih hr fun b hb=>hin b (by simp only [List.filterMap_cons,hf];exact List.mem_cons_of_mem _ hb)⟩
theorem Ok.turn {c:Cx}{A:Around}{fr:List Addr}{σ:Sto}{h h':Heap}{a:Addr}{oa:Obj}(ok:Ok c A fr σ h)(ha:a∈fr)(sb:Heap.SameBut a h h')(e:h'.get? a=some oa)(hd:∀vs,oa.data≠.fields vs)(hdd:DictAt h a->DictAt h' a):Ok c A fr σ h' where
 base:=fun b o e=>(sb.2 b fun q=>by simp only [q,ok.new a (List.mem_append_right _ ha)] at e;contradiction).trans (ok.base b o e)
 sto:=fun p hp=>IsO.move (fun b o n e=>(sb.2 b fun q=>n (q▸List.mem_append_right _ ha)).trans e) (fun a m=>.inl m) (fun x e=>(sb.2 _ fun q=>by
  have:=ok.nd
  rw [List.nodup_append] at this
  exact this.2.2 _ (List.mem_map_of_mem hp) _ ha q).trans e) (ok.sto p hp)
 nd:=ok.nd
 new:=ok.new
 live:=fun b hb=>by
  by_cases q:b=a
  ·subst q;exact ⟨_,e⟩
  ·obtain ⟨o,x⟩:=ok.live b hb;exact ⟨o,(sb.2 b q).trans x⟩
 stack:=by
  obtain ⟨l,x,y,z,zd⟩:=ok.stack
  refine ⟨l,x,FunFrames.turn (fun b o _ g k=> ?_) y z,z,fun b hb=> ?_⟩
  ·by_cases q:b=a
   ·subst q;exact ⟨_,e,hd⟩
   ·exact ⟨o,(sb.2 b q).trans g,k⟩
  ·by_cases q:b=a
   ·subst q;exact hdd (zd _ hb)
   ·obtain ⟨o,es,n,g,r⟩:=zd b hb;exact ⟨o,es,n,(sb.2 b q).trans g,r⟩
theorem Post.turn {env:Env}{fr:List Addr}{σ:Sto}{s:Shared}{h':Heap}{tk:Nat}{a:Addr}{oa:Obj}(ha:a∈Fa env)(hi:∀b∈Fa env,b∈fr)(sb:Heap.SameBut a s.heap h')(e:h'.get? a=some oa):Post (Fa env) fr σ s {s with heap:=h',toks:=tk} σ:=
 ⟨⟨h',tk,rfl⟩,fun b o n g=>(sb.2 b fun q=>n (q▸List.mem_append_right _ (hi _ ha))).trans g,fun b o _ n g=>⟨o.slots,(sb.2 b fun q=>n (q▸ha)).trans g,fun _=>rfl⟩,
  fun b o g=>by
   by_cases q:b=a
   ·subst q;exact ⟨_,e⟩
   ·exact ⟨o,(sb.2 b q).trans g⟩,fun _ m=>.inl m⟩
theorem Fm.fa {env:Env}{m:Vars}{fr K:List Addr}{h:Heap}(f:Fm env m fr K h):∀b∈Fa env,b∈fr:=fun b hb=>by
 rcases List.mem_cons.mp hb with rfl| hb
 ·exact f.inn.1
 ·obtain ⟨p,hp,rfl⟩:=List.mem_map.mp hb;exact f.inn.2 p hp
theorem lookup_cons_eq {x y:Str}{d:D}{m:Vars}:List.lookup y ((x,d)::m)=if y=x then some d else m.lookup y:=by
 dsimp only [List.lookup_cons]
 by_cases h:y=x
 ·subst h;simp
 ·have:(y==x)=false:=by simpa using h
  simp only [this,if_neg h]
theorem Fm.storeL {env:Env}{m:Vars}{fr K:List Addr}{h h':Heap}{x:Str}{d:D}{v:Value}{mv:Str->Option Value}(f:Fm env m fr K h)(hK:∀b∈fr,b∈K)(hmv:∀x d,m.lookup x=some d->env.kindOf x=some .local->∃v,mv x=some v/\V K h d v)
  (hn:h'.Ns env.locals (fun y=>if y=x then some v else mv y)) (sb:Heap.SameBut env.locals h h') (hV:V K h d v) (hk:env.kindOf x=some .local):Fm env ((x,d)::m) fr K h':=by
 have st:Stay K h h':=fun b o n e=>(sb.2 b fun q=>n (q▸hK _ f.inn.1)).trans e
 have ls:Less K K h:=fun a m=>.inl m
 exact {
  kind:=f.kind
  glob:=f.glob
  bui:=f.bui
  ns:=⟨_,hn,fun y d' e k=>by
   replace e:=(lookup_cons_eq ..).symm.trans e
   by_cases q:y=x
   ·replace e:=(if_pos q ..).symm.trans e;obtain rfl:=Option.some.inj e;exact ⟨v,by simp [q],V.move st ls _ _ hV⟩
   ·rw [if_neg q] at e
    obtain ⟨u,a,b⟩:=hmv y d' e k
    exact ⟨u,by simp [q,a],V.move st ls _ _ b⟩⟩
  cell:=fun y cc e=>by
   obtain ⟨ov,hc,r⟩:=f.cell y cc e
   refine ⟨ov,hc.sameBut sb (f.apart.2 _ (mem_of_lookup e)),fun d' e' k=> ?_⟩
   rw [lookup_cons_eq] at e'
   by_cases q:y=x
   ·subst q;rw [hk] at k;rcases k with k| k<;>contradiction
   ·rw [if_neg q] at e'
    obtain ⟨u,a,b⟩:=r d' e' k
    exact ⟨u,a,V.move st ls _ _ b⟩
  has:=f.has
  inn:=f.inn
  apart:=f.apart}
theorem Fm.storeC {env:Env}{m:Vars}{fr K:List Addr}{h h':Heap}{x:Str}{d:D}{v:Value}{cc:Addr}(f:Fm env m fr K h)(hK:∀b∈fr,b∈K)(hcc:env.cells.lookup x=some cc)
  (hn:h'.IsCell cc (some v)) (sb:Heap.SameBut cc h h') (hV:V K h d v) (hk:env.kindOf x=some .cell):Fm env ((x,d)::m) fr K h':=by
 have hin:=mem_of_lookup hcc
 have st:Stay K h h':=fun b o n e=>(sb.2 b fun q=>n (q▸hK _ (f.inn.2 _ hin))).trans e
 have ls:Less K K h:=fun a m=>.inl m
 exact {
  kind:=f.kind
  glob:=f.glob
  bui:=f.bui
  ns:=by
   obtain ⟨mv,hns,r⟩:=f.ns
   refine ⟨mv,hns.sameBut sb (Ne.symm (f.apart.2 _ hin)),fun y d' e k=> ?_⟩
   rw [lookup_cons_eq] at e
   by_cases q:y=x
   ·subst q;replace k:=(hk ..).symm.trans k;contradiction
   ·rw [if_neg q] at e
    obtain ⟨u,a,b⟩:=r y d' e k
    exact ⟨u,a,V.move st ls _ _ b⟩
  cell:=fun y c' e=>by
   by_cases q:y=x
   ·subst q
    replace e:=(hcc ..).symm.trans e;obtain rfl:=Option.some.inj e
    refine ⟨some v,hn,fun d' e' k=> ?_⟩
    rw [lookup_cons_eq,if_pos rfl] at e'
    obtain rfl:=Option.some.inj e'
    exact ⟨v,rfl,V.move st ls _ _ hV⟩
   ·obtain ⟨ov,hc,r⟩:=f.cell y c' e
    refine ⟨ov,hc.sameBut sb fun z=>q (name_of_addr f.apart.1 (mem_of_lookup e) (z▸hin)),fun d' e' k=> ?_⟩
    rw [lookup_cons_eq,if_neg q] at e'
    obtain ⟨u,a,b⟩:=r d' e' k
    exact ⟨u,a,V.move st ls _ _ b⟩
  has:=f.has
  inn:=f.inn
  apart:=f.apart}
section
variable {c:Cx} {A:Around} {fr:List Addr} {σ:Sto} {X:Addr->Sto->Prop} {env:Env} {m:Vars}
theorem W.store {x:Str}{d:D}{v:Value}{s:Shared}(ok:Ok c A fr σ s.heap)(f:Fm env m fr (keys σ++fr) s.heap)(hV:V (keys σ++fr) s.heap d v)(hk:env.kindOf x=some .local\/env.kindOf x=some .cell):
  W c A (some env) fr σ (storeName env x v) (fun K h (_:Unit) _=>Fm env ((x,d)::m) fr K h) (fun _ σ'=>σ'=σ) X s:=by
 have hK:∀b∈fr,b∈keys σ++fr:=fun b hb=>List.mem_append_right _ hb
 rcases hk with hk| hk
 ·obtain ⟨mv,hn,r⟩:=f.ns
  refine wpAny_storeName_local hk hn (fun h' hn' sb=> ?_) (by rw [f.kind];rfl)
  obtain ⟨o,es,ep,e,hd,_⟩:=id hn'
  refine ⟨(),σ,Post.turn (List.mem_cons_self) f.fa sb e,ok.turn f.inn.1 sb e (fun vs=>by rw [hd];intro q;contradiction) (fun _=>⟨o,es,ep,e,hd⟩),?_,rfl⟩
  exact f.storeL hK r hn' sb hV hk
 ·obtain ⟨cc,hcc⟩:=f.has x (.inl hk)
  obtain ⟨ov,hc,_⟩:=f.cell x cc hcc
  refine wpAny_storeName_cell f.kind hk hcc hc fun h' hc' sb=> ?_
  obtain ⟨o,e,hd⟩:=id hc'
  have hin:=mem_of_lookup hcc
  refine ⟨(),σ,Post.turn (tk:=s.toks) (List.mem_cons_of_mem _ (List.mem_map_of_mem (f:=(·.2)) hin)) f.fa sb e,ok.turn (f.inn.2 _ hin) sb e (fun vs=>by rw [hd];intro q;contradiction) (fun z=>by
   obtain ⟨o1,es,n,g1,d1⟩:=z
   obtain ⟨o2,g2,d2⟩:=hc
   replace g2:=(g1 ..).symm.trans g2;obtain rfl:=Option.some.inj g2;replace d2:=(d1 ..).symm.trans d2;contradiction),?_,rfl⟩
  exact f.storeC hK hcc hc' sb hV hk
inductive Out where
 | next (m:Vars)
 | ret (d:D)
noncomputable def RO (env:Env)(fr:List Addr)(K:List Addr)(h:Heap):Out->Flow->Prop
 | .next m',fl=>fl=.next/\Fm env m' fr K h
 | .ret d,fl=>∃v,fl=.ret v/\V K h d v/\Fm env [] fr K h
noncomputable def QO (N:Vars->Sto->Prop)(R:D->Sto->Prop):Out->Sto->Prop
 | .next m',σ=>N m' σ
 | .ret d,σ=>R d σ
noncomputable def W1 (c:Cx)(A:Around)(fr:List Addr)(env:Env)(m:Vars)(σ:Sto)(st:Stmt)(N:Vars->Sto->Prop)(R:D->Sto->Prop)(X:Addr->Sto->Prop):Prop:=
 ∀s,Ok c A fr σ s.heap->Fm env m fr (keys σ++fr) s.heap->W c A (some env) fr σ (exec st env) (RO env fr) (QO N R) X s
noncomputable def WS (c:Cx)(A:Around)(fr:List Addr)(env:Env)(m:Vars)(σ:Sto)(ss:List Stmt)(N:Vars->Sto->Prop)(R:D->Sto->Prop)(X:Addr->Sto->Prop):Prop:=
 ∀s,Ok c A fr σ s.heap->Fm env m fr (keys σ++fr) s.heap->W c A (some env) fr σ (execs ss env) (RO env fr) (QO N R) X s
variable {N:Vars->Sto->Prop} {R:D->Sto->Prop}
theorem WS.nil (h:N m σ):WS c A fr env m σ [] N R X:=fun s ok fm=>wpAny_execs_nil ⟨.next m,σ,Post.refl ..,ok,⟨rfl,fm⟩,h⟩
theorem WS.cons {st:Stmt}{rest:List Stmt}(h:W1 c A fr env m σ st (fun m' σ'=>WS c A fr env m' σ' rest N R X) R X):WS c A fr env m σ (st::rest) N R X:=fun s ok fm=>by
 refine W.bind (W.mono (h s ok fm) (fun o σ1 q1 a s1 p1 ok1 x1=> ?_) fun _ _ y=>y)
 cases o with
 | next m1=>obtain ⟨rfl,fm1⟩:=x1;exact q1 s1 ok1 fm1
 | ret d=>obtain ⟨v,rfl,hv⟩:=x1;exact W.pure (b:=Out.ret d) ok1 ⟨v,rfl,hv⟩ q1
theorem Fm.forget {env:Env}{m:Vars}{fr K:List Addr}{h:Heap}(f:Fm env m fr K h):Fm env [] fr K h where
 kind:=f.kind
 glob:=f.glob
 bui:=f.bui
 ns:=by obtain ⟨mv,hn,_⟩:=f.ns;exact ⟨mv,hn,fun x d e=>by contradiction⟩
 cell:=fun x cc e=>by obtain ⟨ov,h,_⟩:=f.cell x cc e;exact ⟨ov,h,fun d e=>by contradiction⟩
 has:=f.has
 inn:=f.inn
 apart:=f.apart
theorem Ex.wide {v:Value}{s s':Shared}{t:Bool}(fm:Fm env m fr (keys σ++fr) s.heap)(x:Ex c A none fr σ s t X v s'):Ex c A (some env) fr σ s t X v s':=nomatch x
theorem W.bindE {α β α' β':Type}{t:Sem α}{k:α->Sem α'}{R:List Addr->Heap->β->α->Prop}{R':List Addr->Heap->β'->α'->Prop}{Q:β'->Sto->Prop}{s:Shared}(fm:Fm env m fr (keys σ++fr) s.heap)
  (h:W c A none fr σ t R (fun b σ'=>∀a s',Fm env m fr (keys σ'++fr) s'.heap->Post [] fr σ s s' σ'->Ok c A fr σ' s'.heap->R (keys σ'++fr) s'.heap b a->W c A (some env) fr σ' (k a) R' Q X s') X s):W c A (some env) fr σ (t>>=k) R' Q X s:=by
 refine wpAny_bind (wpAny_mono h (fun a s' hz=> ?_) fun _ _ x=>x.wide fm)
 obtain ⟨b,σ',p,ok,r,q⟩:=hz
 refine wpAny_mono (q a s' (fm.move p) p ok r) (fun _ _ z=>z.back (p.wide (by simp))) fun _ _ x=>Ex.back (p.wide (by simp)) x fun _ _ y=>y
theorem W1.ret {e:Expr}{pos:Pos}(h:WE c A fr env m σ e R X):W1 c A fr env m σ (.Return (some e) pos) N R X:=fun s ok fm=>by
 refine W.standAt (W.bindE fm (W.mono (h s ok fm) (fun d σ1 q1 a s1 fm1 p1 ok1 x1=> ?_) fun _ _ y=>y))
 exact W.pure (b:=Out.ret d) ok1 ⟨a,rfl,x1,fm1.forget⟩ q1
theorem W1.assign {x:Str}{pos' pos:Pos}{value:Expr}(h:WE c A fr env m σ value (fun d σ'=>N ((x,d)::m) σ') X)(hk:env.kindOf x=some .local\/env.kindOf x=some .cell)
  (hs:swapsWith value (some (.Name x pos')) pos.line env=pure false):W1 c A fr env m σ (.Assign [.Name x pos'] value pos) N R X:=fun s ok fm=>by
 rw [exec_Assign_Name (hs:=hs)]
 refine W.standAt (W.bindE fm (W.mono (h s ok fm) (fun d σ1 q1 a s1 fm1 p1 ok1 x1=> ?_) fun _ _ y=>y))
 refine W.standAt (W.bind (R:=fun K h (_:Unit) _=>Fm env ((x,d)::m) fr K h) (wpAny_bindName (W.mono (W.store ok1 fm1 x1 hk) (fun _ σ2 q2 _ s2 p2 ok2 x2=> ?_) fun _ _ y=>y)))
 subst q2;exact W.pure (b:=Out.next _) ok2 ⟨rfl,x2⟩ q1
end
noncomputable def Room' (n:Nat)(A:Around):Prop:=A.depth+n<990/\A.units+10*n<9800
noncomputable def Room (n:Nat)(A:Around):Prop:=Room' n A/\A.handled=none
theorem Room'.deeper {n:Nat}{A:Around}{env:Env}(r:Room' (n+1) A):Room' n (A.deeper env):=by
 exact z616 r.1 r.2
theorem Room.deeper {n:Nat}{A:Around}{env:Env}(r:Room (n+1) A):Room n (A.deeper env):=⟨r.1.deeper,r.2⟩
theorem Room.less {n k:Nat}{A:Around}(r:Room (n+k) A):Room n A:=⟨by have:=r.1;exact z617 this.1 this.2,r.2⟩
structure Fn (c:Cx)(f:Addr)(ps:List Str)(body:List Stmt)(scope:Scope):Prop where
 at_:∃o fd,c.h0.get? f=some o/\o.data=.func fd/\fd.body=.stmts body/\fd.scope=scope/\fd.closure=[]/\fd.globals=mainGlobals/\fd.builtins=builtinsNs/\c.h0.CodeRec fd.code fd.qualname/\
  ∀vals:List Value,vals.length=ps.length->bindArgs fd ⟨vals,[]⟩=pure (ps.zip vals)
 nolimit:c.h0.NoLimit
 nd:ps.Nodup
 kinds:∀x∈ps,scope.names.lookup x=some .local\/scope.names.lookup x=some .cell
 cells:((cellsFrom 0 scope.names []).map (·.1)).Nodup
 nofree:∀x,scope.names.lookup x≠some .free
 kind:scope.kind=.function
 co:scope.isCoroutine=false
 gen:scope.isGenerator=false
noncomputable def WC (c:Cx)(P:Around->Prop)(f:Value)(ds:List D)(σ:Sto)(Q:D->Sto->Prop)(X:Addr->Sto->Prop):Prop:=
 ∀A fr s vals,P A->Ok c A fr σ s.heap->Vs (keys σ++fr) s.heap ds vals->W c A none fr σ (call f vals) V Q X s
theorem bindL_nin {k:Str->Option NameKind}{x:Str}:∀{b:List (Str × Value)} {m:Str->Option Value},x∉b.map (·.1)->bindL k b m x=m x
 | [],m,_=>rfl
 | (n,v)::r,m,h=>by
  rw [List.map_cons,List.mem_cons,not_or] at h
  unfold bindL
  rw [bindL_nin h.2]
  split
  ·exact if_neg h.1
  ·rfl
theorem bindC_nin {k:Str->Option NameKind}{x:Str}:∀{b:List (Str × Value)} {m:Str->Option Value},x∉b.map (·.1)->bindC k b m x=m x
 | [],m,_=>rfl
 | (n,v)::r,m,h=>by
  rw [List.map_cons,List.mem_cons,not_or] at h
  unfold bindC
  rw [bindC_nin h.2]
  split
  ·rfl
  ·exact if_neg h.1
theorem zip_fst {ps:List Str}{vs:List Value}(h:vs.length=ps.length):(ps.zip vs).map (·.1)=ps:=by
 exact (List.map_fst_zip (z29 h) ..)
theorem bound {K:List Addr}{h:Heap}{k:Str->Option NameKind}{x:Str}{d:D}:∀{ps:List Str} {ds:List D} {vs:List Value} {m cm:Str->Option Value},ps.Nodup->ds.length=ps.length->Vs K h ds vs->(ps.zip ds).lookup x=some d->
  (k x=some .local->∃v,bindL k (ps.zip vs) m x=some v/\V K h d v)/\(k x≠some .local->∃v,bindC k (ps.zip vs) cm x=some v/\V K h d v)
 | [],_,_,_,_,_,_,_,e=>by contradiction
 | p::ps,[],_,_,_,_,e,_,_=>by contradiction
 | p::ps,d'::ds,vs,m,cm,nd,hl,hv,e=>by
  obtain ⟨v,r,rfl,p1,p2⟩:=hv
  simp only [List.zip_cons_cons] at e⊢
  replace e:=(lookup_cons_eq ..).symm.trans e
  unfold bindL bindC
  by_cases q:x=p
  ·replace e:=(if_pos q ..).symm.trans e;obtain rfl:=Option.some.inj e
   subst q
   have hn:x∉(ps.zip r).map (·.1):=by rw [zip_fst (by rw [p2.length];simpa using hl)];exact (List.nodup_cons.mp nd).1
   rw [bindL_nin hn,bindC_nin hn]
   exact ⟨fun z=>⟨v,by rw [if_pos z];simp,p1⟩,fun z=>⟨v,by rw [if_neg z];simp,p1⟩⟩
  ·rw [if_neg q] at e
   exact bound (List.nodup_cons.mp nd).2 (by simpa using hl) p2 e
theorem cellsFrom_names:∀(names:List (Str × NameKind)) (n n':Nat) (acc acc':List (Str × Addr)),acc.map (·.1)=acc'.map (·.1)->(cellsFrom n names acc).map (·.1)=(cellsFrom n' names acc').map (·.1)
 | [],_,_,_,_,h=>h
 | (x,k)::r,n,n',acc,acc',h=>by
  unfold cellsFrom
  split
  ·exact cellsFrom_names r _ _ _ _ (by simp [h])
  ·exact cellsFrom_names r _ _ _ _ h
theorem lookup_isSome_of_cell {x:Str}:∀(names:List (Str × NameKind)) (n:Nat) (acc:List (Str × Addr)),names.lookup x=some .cell\/(acc.lookup x).isSome=true->((cellsFrom n names acc).lookup x).isSome=true
 | [],_,_,h=>h.elim (fun e=>by contradiction) id
 | (y,k)::r,n,acc,h=>by
  unfold cellsFrom
  by_cases hk:(k==.cell)=true
  ·rw [if_pos hk]
   refine lookup_isSome_of_cell r (n+1) ((y,n)::acc) ?_
   by_cases hy:(x==y)=true
   ·exact .inr (by simp only [List.lookup_cons,hy];rfl)
   ·refine h.imp (fun e=> ?_) fun e=> ?_
    ·rw [List.lookup_cons] at e;simpa only [hy] using e
    ·dsimp only [List.lookup_cons];simpa only [hy] using e
  ·rw [if_neg hk]
   refine lookup_isSome_of_cell r n acc ?_
   by_cases hy:(x==y)=true
   ·refine .inr (h.elim (fun e=> ?_) id)
    rw [List.lookup_cons,hy] at e
    exact absurd (by rw [Option.some.inj e];rfl) hk
   ·refine h.imp (fun e=> ?_) id
    rw [List.lookup_cons] at e;simpa only [hy] using e
theorem lookup_of_mem_nodup {x:Str}{a:Addr}:∀{l:List (Str × Addr)},(l.map (·.1)).Nodup->(x,a)∈l->l.lookup x=some a
 | [],_,h=>nomatch h
 | (y,b)::r,nd,h=>by
  simp only [List.map_cons,List.nodup_cons] at nd
  dsimp only [List.lookup_cons]
  rcases List.mem_cons.mp h with e| hm
  ·cases e;simp
  ·have:(x==y)=false:=by
    rw [beq_eq_false_iff_ne]
    rintro rfl
    exact nd.1 (List.mem_map.mpr ⟨(x,a),hm,rfl⟩)
   exact this▸lookup_of_mem_nodup nd.2 hm
theorem IsO.there {prog:Program}{w:World}{K:List Addr}{h:Heap}{a:Addr}{o:O}(x:IsO prog w K h a o):∃ob,h.get? a=some ob:=by
 cases o with
 | lst ds=>obtain ⟨vs,n,g,_⟩:=x;exact ⟨_,g⟩
 | rows rs=>obtain ⟨as,_,_,o,es,ep,g,_⟩:=x;exact ⟨_,g⟩
 | flds fs=>obtain ⟨mA,⟨o,es,ep,g,_⟩,_⟩:=x;exact ⟨_,g⟩
theorem Ok.there {c:Cx}{A:Around}{fr:List Addr}{σ:Sto}{h:Heap}(ok:Ok c A fr σ h){a:Addr}(m:a∈keys σ++fr):∃o,h.get? a=some o:=by
 rcases List.mem_append.mp m with z| z
 ·obtain ⟨p,hp,rfl⟩:=List.mem_map.mp z;exact (ok.sto p hp).there
 ·exact ok.live _ z
theorem Ok.lt {c:Cx}{A:Around}{fr:List Addr}{σ:Sto}{h:Heap}(ok:Ok c A fr σ h){a:Addr}(m:a∈keys σ++fr):a<h.objs.size:=by
 refine Exists.elim (ok.there m) fun o e=> ?_;exact Heap.lt_size e
theorem none_of_ge {h:Heap}{a:Addr}(x:h.objs.size<=a):h.get? a=none:=by
 cases e:h.get? a with
 | none=>rfl
 | some o=>exact absurd (Heap.lt_size e) (Nat.not_lt.mpr x)
theorem Ok.pop {c:Cx}{A:Around}{env:Env}{fr ex:List Addr}{σ:Sto}{h:Heap}{l:List Env}(hA:A.frames=some l)(hf:env.frame=some env.locals)(hin:∀b∈l.filterMap (·.frame),b∈fr)(ok:Ok c (A.deeper env) (ex++(Fa env++fr)) σ h):Ok c A (ex++fr) σ h where
 base:=ok.base
 sto:=fun p hp=>IsO.move (K:=keys σ++(ex++(Fa env++fr))) (fun b o _ e=>e) (fun a m=>.inl (by
  rcases List.mem_append.mp m with z| z
  ·exact List.mem_append_left _ z
  ·rcases List.mem_append.mp z with z| z
   ·exact List.mem_append_right _ (List.mem_append_left _ z)
   ·exact List.mem_append_right _ (List.mem_append_right _ (List.mem_append_right _ z)))) (fun x e=>e) (ok.sto p hp)
 nd:=by
  refine List.Sublist.nodup ?_ ok.nd
  refine List.Sublist.append (List.Sublist.refl _) (List.Sublist.append (List.Sublist.refl _) (List.sublist_append_right _ _))
 new:=fun a m=>ok.new a (by
  rcases List.mem_append.mp m with z| z
  ·exact List.mem_append_left _ z
  ·rcases List.mem_append.mp z with z| z
   ·exact List.mem_append_right _ (List.mem_append_left _ z)
   ·exact List.mem_append_right _ (List.mem_append_right _ (List.mem_append_right _ z)))
 live:=fun a m=>ok.live a (by
  rcases List.mem_append.mp m with z| z
  ·exact List.mem_append_left _ z
  ·exact List.mem_append_right _ (List.mem_append_right _ z))
 stack:=by
  obtain ⟨l',h1,h2,h3,h4⟩:=ok.stack
  have:A.frames.map (env::·)=some l':=h1
  rw [hA] at this
  obtain rfl:env::l=l':=Option.some.inj this
  exact ⟨l,hA,h2.2.2,fun b hb=>List.mem_append_right _ (hin b hb),fun b hb=>h4 b (by simp only [List.filterMap_cons,hf];exact List.mem_cons_of_mem _ hb)⟩
structure Fe (A:Around)(env:Env)(scope:Scope):Prop where
 scope:env.scope=scope
 frame:env.frame=some env.locals
 stack:∃l,A.frames=some (env::l)
noncomputable def WD (c:Cx)(P:Around->Prop)(f:Value)(ds:List D)(σ:Sto)(Q:D->Sto->Prop)(X:Addr->Sto->Prop):Prop:=
 ∀A fr s vals,P A->Ok c A fr σ s.heap->Vs (keys σ++fr) s.heap ds vals->codeAny (model c.prog c.w) A (.call f ⟨vals,[]⟩) (fun r s'=>match r with
  | .ok (.ret a)=>Po c A none fr σ s V Q a s'
  | .ok _=>False
  | .error e=>Ex c A none fr σ s false X e s') s
theorem WD.wc {c:Cx}{P:Around->Prop}{f:Value}{ds:List D}{σ:Sto}{Q:D->Sto->Prop}{X:Addr->Sto->Prop}(h:WD c P f ds σ Q X):WC c P f ds σ Q X:=fun A fr s vals hA ok hv=>wpAny_call (h A fr s vals hA ok hv)
theorem WD.of {c:Cx}{P P':Around->Prop}{f:Addr}{ps:List Str}{body:List Stmt}{scope:Scope}{ds:List D}{σ:Sto}{Q:D->Sto->Prop}{X:Addr->Sto->Prop}(fn:Fn c f ps body scope)(hP:∀A env,P A->A.depth<recursionLimit/\P' (A.deeper env))(hl:ds.length=ps.length)
  (h:∀A fr env,P' A->Fe A env scope->WS c A (Fa env++fr) env (ps.zip ds) σ body (fun _ σ'=>Q .none σ') Q X):WD c P (.ref f) ds σ Q X:=by
 intro A fr s vals hA ok hV
 obtain ⟨o,fd,ho,hdata,hbody,hsc,hclo,hglob,hbui,hcd,hbind⟩:=fn.at_
 have hlen:=hV.length.trans hl
 obtain ⟨l,hAl,hff,hin,hdict⟩:=ok.stack
 refine codeAny_call_cells (hP A (callEnvC fd s.heap.objs.size f) hA).1 (ok.base _ _ ho) hdata (fn.nolimit.keeps ok.base) (hcd.keeps ok.base) hbody (hbind vals hlen) hclo (fun x hx=> ?_) (fun s₁ ic=> ?_) (hsc▸fn.co) (hsc▸fn.gen) (hsc▸fn.kind)
 ·exact hsc▸(fn.kinds x.1 ((zip_fst hlen)▸List.mem_map_of_mem hx)).imp id fun z=>⟨z,lookup_isSome_of_cell _ _ _ (.inl z)⟩
 generalize hE:callEnvC fd s.heap.objs.size f=env at ic⊢
 have e1:env.scope=scope:=by exact hE▸hsc
 have e2:env.frame=some env.locals:=by rw [<-hE];rfl
 have e3:env.locals=s.heap.objs.size:=by rw [<-hE];rfl
 have e4:env.cells=cellsFrom (s.heap.objs.size+1) scope.names []:=by rw [<-hE,<-hsc];rfl
 obtain ⟨⟨hsame,hns,hkeep,hfresh⟩,hcell,hap,habove⟩:=ic
 have hge:∀a∈Fa env,s.heap.objs.size<=a:=fun a ha=>by
  rcases List.mem_cons.mp ha with rfl| ha
  ·exact Nat.le_of_eq e3.symm
  ·obtain ⟨p,hp,rfl⟩:=List.mem_map.mp ha
   exact Nat.le_of_lt (e3▸habove p.1 p.2 hp)
 have hlive:∀a∈Fa env,∃o,s₁.heap.get? a=some o/\∀vs,o.data≠.fields vs:=fun a ha=>by
  rcases List.mem_cons.mp ha with rfl| ha
  ·obtain ⟨o,es,ep,g,hd,_⟩:=hns;exact ⟨o,g,fun vs q=>by replace q:=(hd ..).symm.trans q;contradiction⟩
  ·obtain ⟨p,hp,rfl⟩:=List.mem_map.mp ha
   obtain ⟨o,g,hd⟩:=hcell p.1 p.2 ((fun p hp=>lookup_of_mem_nodup (by rw [e4,cellsFrom_names _ _ 0 _ [] rfl];exact fn.cells) hp) p hp);exact ⟨o,g,fun vs q=>by replace q:=(hd ..).symm.trans q;contradiction⟩
 have hnew:=fun a ha=>none_of_ge (hge a ha)
 have less1:Less (keys σ++fr) (keys σ++(Fa env++fr)) s.heap:=fun a m=>by
  rcases List.mem_append.mp m with z| z
  ·exact .inl (List.mem_append_left _ z)
  ·rcases List.mem_append.mp z with z| z
   ·exact .inr (hnew a z)
   ·exact .inl (List.mem_append_right _ z)
 have stay1:Stay (keys σ++fr) s.heap s₁.heap:=fun b o _ e=>hkeep b o e
 have p01:∀{σ'} {s':Shared},Post (Fa env) (Fa env++fr) σ s₁ s' σ'->Post [] fr σ s s' σ':=fun p=>{
  shape:=by obtain ⟨h,tk,rfl⟩:=hsame;obtain ⟨h',tk',rfl⟩:=p.shape;exact ⟨h',tk',rfl⟩
  kept:=fun b o nb e=>p.kept b o (less1.nin nb e) (hkeep b o e)
  slots:=fun b o m _ e=>p.slots b o (List.mem_append_right _ m) (fun z=>by replace e:=(hnew b z ..).symm.trans e;contradiction) (hkeep b o e)
  alive:=fun b o e=>p.alive b o (hkeep b o e)
  grow:=fun a m=>(p.grow a m).imp id fun z=>by
   cases hg:s.heap.get? a with
   | none=>rfl
   | some o=>have:=hkeep a o hg;rw [z] at this;contradiction}
 have less2:∀σ' (h:Heap),Less (keys σ'++(Fa env++fr)) (keys σ'++fr) h:=fun σ' h a m=>by
  rcases List.mem_append.mp m with z| z
  ·exact .inl (List.mem_append_left _ z)
  ·exact .inl (List.mem_append_right _ (List.mem_append_right _ z))
 have fe:Fe (A.deeper env) env scope:=⟨e1,e2,l,by show A.frames.map (env::·)=_;rw [hAl];rfl⟩
 refine wpAny_mono (h (A.deeper env) fr env (hP A env hA).2 fe s₁ ({
  base:=fun b o e=>hkeep b o (ok.base b o e)
  sto:=fun p hp=>IsO.move stay1 less1 (fun x e=>hkeep _ x e) (ok.sto p hp)
  nd:=by
   have h0:=ok.nd
   rw [List.nodup_append] at h0
   rw [List.nodup_append,List.nodup_append]
   refine ⟨h0.1,⟨?_,h0.2.1,fun a ha b hb=>fun z=> ?_⟩,fun a ha b hb=> ?_⟩
   ·simp only [List.nodup_cons]
    refine ⟨fun z=> ?_,?_⟩
    ·obtain ⟨p,hp,e⟩:=List.mem_map.mp z
     exact Nat.ne_of_gt (habove p.1 p.2 hp) e
    ·exact List.pairwise_map.mpr hap
   ·exact Nat.lt_irrefl _ (Nat.lt_of_lt_of_le (ok.lt (List.mem_append_right _ hb)) (z▸hge a ha))
   ·rcases List.mem_append.mp hb with hb| hb
    ·exact fun z=>Nat.lt_irrefl _ (Nat.lt_of_lt_of_le (ok.lt (List.mem_append_left _ ha)) (z▸hge b hb))
    ·exact h0.2.2 a ha b hb
  new:=fun a m=>by
   rcases List.mem_append.mp m with z| z
   ·exact ok.new a (List.mem_append_left _ z)
   ·rcases List.mem_append.mp z with z| z
    ·cases hg:c.h0.get? a with
     | none=>rfl
     | some o=>have:=ok.base _ o hg;rw [hnew a z] at this;contradiction
    ·exact ok.new a (List.mem_append_right _ z)
  live:=fun a m=>by
   rcases List.mem_append.mp m with z| z
   ·obtain ⟨o,g,_⟩:=hlive a z;exact ⟨o,g⟩
   ·obtain ⟨o,g⟩:=ok.live a z;exact ⟨o,hkeep _ _ g⟩
  stack:=by
   refine ⟨env::l,by show A.frames.map (env::·)=_;rw [hAl];rfl,⟨?_,⟨env.locals,?_⟩,?_⟩,fun b hb=> ?_,fun b hb=> ?_⟩
   ·rw [e1,fn.kind];decide
   ·obtain ⟨o,g,hd⟩:=hlive env.locals List.mem_cons_self
    refine ⟨o,e2,?_,g,hd⟩
    cases hg:c.h0.get? env.locals with
    | none=>rfl
    | some o=>have:=ok.base _ o hg;replace this:=(hnew _ List.mem_cons_self ..).symm.trans this;contradiction
   ·exact FunFrames.stays (fun b o _ e=>⟨o.slots,hkeep b o e⟩) hff hin
   ·simp only [List.filterMap_cons,e2] at hb
    rcases List.mem_cons.mp hb with rfl| hb
    ·exact List.mem_append_left _ List.mem_cons_self
    ·exact List.mem_append_right _ (hin b hb)
   ·simp only [List.filterMap_cons,e2] at hb
    rcases List.mem_cons.mp hb with rfl| hb
    ·obtain ⟨o,es,ep,g,hd,_⟩:=hns;exact ⟨o,es,ep,g,hd⟩
    ·obtain ⟨o,es,n,g,r⟩:=hdict b hb;exact ⟨o,es,n,hkeep _ _ g,r⟩}) ({
  kind:=by exact e1▸fn.kind
  glob:=(by exact hE▸hglob)
  bui:=(by exact hE▸hbui)
  ns:=⟨_,hns,fun x d e k=>by
   obtain ⟨v,z,zz⟩:=(bound (k:=env.kindOf) (m:=fun _=>none) (cm:=fun _=>none) fn.nd hl hV e).1 k
   exact ⟨v,z,V.move stay1 less1 _ _ zz⟩⟩
  cell:=fun x cc e=>by
   refine ⟨_,hcell x cc e,fun d e' k=> ?_⟩
   obtain ⟨v,z,zz⟩:=(bound (k:=env.kindOf) (m:=fun _=>none) (cm:=fun _=>none) fn.nd hl hV e').2 (by rcases k with k| k<;>rw [k]<;>decide)
   exact ⟨v,z,V.move stay1 less1 _ _ zz⟩
  has:=fun x k=>by
   rcases k with k| k
   ·have:((cellsFrom (s.heap.objs.size+1) scope.names []).lookup x).isSome=true:=lookup_isSome_of_cell _ _ _ (.inl (by rw [<-e1];exact k))
    rw [<-e4] at this
    exact Option.isSome_iff_exists.mp this
   ·exact absurd k (by
     intro k
     exact fn.nofree x (by rw [<-e1];exact k))
  inn:=⟨List.mem_append_left _ List.mem_cons_self,fun p hp=>List.mem_append_left _ (List.mem_cons_of_mem _ (List.mem_map_of_mem (f:=(·.2)) hp))⟩
  apart:=⟨hap,fun p hp=>Nat.ne_of_gt (habove p.1 p.2 hp)⟩})) (fun fl s' hx=> ?_) fun v s' hx=> ?_
 ·obtain ⟨out,σ',p,ok2,r,q⟩:=hx
  have ok3:Ok c A fr σ' s'.heap:=Ok.pop (ex:=[]) hAl e2 hin ok2
  cases out with
  | next m'=>obtain ⟨rfl,_⟩:=r;exact ⟨.none,σ',p01 p,ok3,by unfold V;rfl,q⟩
  | ret d=>obtain ⟨v,rfl,hv,_⟩:=r;exact ⟨d,σ',p01 p,ok3,V.move (fun b o _ e=>e) (less2 σ' _) _ _ hv,q⟩
 ·exact nomatch hx
theorem WC.of {c:Cx}{P P':Around->Prop}{f:Addr}{ps:List Str}{body:List Stmt}{scope:Scope}{ds:List D}{σ:Sto}{Q:D->Sto->Prop}{X:Addr->Sto->Prop}(fn:Fn c f ps body scope)(hP:∀A env,P A->A.depth<recursionLimit/\P' (A.deeper env))(hl:ds.length=ps.length)
  (h:∀A fr env,P' A->Fe A env scope->WS c A (Fa env++fr) env (ps.zip ds) σ body (fun _ σ'=>Q .none σ') Q X):WC c P (.ref f) ds σ Q X:=(WD.of fn hP hl h).wc
structure Cx.Good (c:Cx):Prop where
 g:c.h0.Ns mainGlobals c.mg
 b:c.h0.Ns builtinsNs c.mb
noncomputable def plainArgs:List Expr->Bool
 | []=>true
 | .Starred _ _::_=>false
 | _::r=>plainArgs r
theorem starEach_cons {env:Env}{e:Expr}{r:List Expr}(h:plainArgs (e::r)=true):starEach (e::r) env=(false,eval e env)::starEach r env/\plainArgs r=true:=by
 cases e<;>first| exact ⟨rfl,h⟩| exact absurd (show false=true from h) (by decide)
theorem plainArgs_starEach {env:Env}{pos:Pos}:∀{es:List Expr},plainArgs es=true->∀x∈backTo pos (starEach es env),x.1=false
 | [],_,x,hx=>(List.not_mem_nil (show x∈[] from hx)).elim
 | e::r,h,x,hx=>by
  have step:=starEach_cons (env:=env) h
  rw [step.1] at hx
  rcases List.mem_cons.mp hx with rfl| hx
  ·rfl
  ·exact plainArgs_starEach step.2 x hx
theorem wpAny_evalArgs {M:Model}{A:Around}{E:Value->Shared->Prop}{s:Shared}{f:Value}{args:List (Bool × Sem Value)}{Q:Args->Shared->Prop}(hns:∀x∈args,x.1=false)
  (h:wpAny M A (spliced args) (fun vs s'=>Q ⟨vs,[]⟩ s') E s):wpAny M A (evalArgs f true args []) Q E s:=by
 cases args with
 | nil=>
  refine wpAny_bind (wpAny_mono h (fun vs s' h'=> ?_) fun _ _ x=>x)
  refine wpAny_holding ?_
  exact wpAny_bind (wpAny_pure (wpAny_bind (wpAny_pure (wpAny_pure h'))))
 | cons x r=>
  obtain ⟨b,t⟩:=x
  obtain rfl:b=false:=hns _ List.mem_cons_self
  exact evalArgs_plain h
section
variable {c:Cx} {A:Around} {G:Option Env} {fr:List Addr} {σ:Sto} {X:Addr->Sto->Prop} {env:Env} {m:Vars}
noncomputable def WA (c:Cx)(A:Around)(fr:List Addr)(env:Env)(m:Vars)(σ:Sto)(es:List Expr)(Q:List D->Sto->Prop)(X:Addr->Sto->Prop):Prop:=
 ∀pos s,Ok c A fr σ s.heap->Fm env m fr (keys σ++fr) s.heap->W c A none fr σ (spliced (backTo pos (starEach es env))) Vs Q X s
theorem WA.nil {Q:List D->Sto->Prop}(h:Q [] σ):WA c A fr env m σ [] Q X:=fun pos s ok fm=>spliced_nil ⟨[],σ,Post.refl ..,ok,Vs.nil,h⟩
theorem WA.cons {e:Expr}{r:List Expr}{Q:List D->Sto->Prop}(h:WE c A fr env m σ e (fun d σ1=>WA c A fr env m σ1 r (fun ds σ2=>Q (d::ds) σ2) X) X)(hp:plainArgs (e::r)=true:=by rfl):WA c A fr env m σ (e::r) Q X:=fun pos s ok fm=>by
 rw [(starEach_cons hp).1]
 show wpAny _ _ (spliced ((false,eval e env)::backTo pos (starEach r env))) _ _ _
 refine spliced_cons (wpAny_mono (h s ok fm) (fun v s1 hz=> ?_) fun _ _ x=>x)
 obtain ⟨d,σ1,p1,ok1,x1,q1⟩:=hz
 refine wpAny_mono (q1 pos s1 ok1 (fm.move p1)) (fun vs s2 ⟨ds,σ2,p2,ok2,x2,q2⟩=>⟨d::ds,σ2,p1.trans p2,ok2,Vs.cons (p2.v x1) x2,q2⟩) fun _ _ x=>Ex.back p1 x fun _ _ y=>y
variable {Q:D->Sto->Prop}
theorem WE.callF (g:c.Good){f:Str}{fp pos:Pos}{args:List Expr}{a:Addr}{o:Obj}{fd:FuncData}{P:Around->Prop}(hP:P A)(hk:env.kindOf f=some .globalImplicit)(hg:c.mg f=some (.ref a))(ho:c.h0.get? a=some o)(hd:o.data=.func fd)
  (h:WA c A fr env m σ args (fun ds σ1=>WC c P (.ref a) ds σ1 Q X) X) (hp:plainArgs args=true:=by rfl) (hdb:(f==("__debug__":Str))=false:=by decide):WE c A fr env m σ (.Call (.Name f fp) args [] pos) Q X:=fun s ok fm=>by
 refine wpAny_bind (Name_function_global fm.kind hk (loadGlobal_global (by exact fm.glob▸g.g.keeps ok.base) hg ?_) hdb)
 refine callWith_function (o:=o) (fd:=fd) (wpAny_evalArgs (plainArgs_starEach hp) (wpAny_mono (h pos s ok fm) (fun vs s1 ⟨ds,σ1,p1,ok1,x1,q1⟩=>⟨⟨ok1.base _ _ ho,hd⟩,?_⟩) fun _ _ x=>x))
 refine wpAny_mono (q1 A fr s1 vs hP ok1 x1) (fun _ _ z=>z.back p1) fun _ _ x=>Ex.back p1 x fun _ _ y=>y
theorem WE.callB (g:c.Good){f:Str}{fp pos:Pos}{args:List Expr}{id:String}(hk:env.kindOf f=some .globalImplicit)(hg:c.mg f=none)(hb:c.mb f=some (.builtin id))
  (h:WA c A fr env m σ args (fun ds σ1=>∀s vals,Ok c A fr σ1 s.heap->Vs (keys σ1++fr) s.heap ds vals->W c A none fr σ1 (call (.builtin id) vals) V Q X s) X) (hp:plainArgs args=true:=by rfl) (hdb:(f==("__debug__":Str))=false:=by decide):WE c A fr env m σ (.Call (.Name f fp) args [] pos) Q X:=fun s ok fm=>by
 refine wpAny_bind (Name_function_global fm.kind hk (loadGlobal_builtin (by rw [fm.glob];exact g.g.keeps ok.base) hg (by rw [fm.bui];exact g.b.keeps ok.base) hb ?_) hdb)
 refine callWith_builtin (by
  rw [List.any_eq_false];intro x hx;simp [(plainArgs_starEach (env:=env) (pos:=pos) hp) x hx]) (wpAny_evalArgs (plainArgs_starEach hp) (wpAny_mono (h pos s ok fm) (fun vs s1 ⟨ds,σ1,p1,ok1,x1,q1⟩=> ?_) fun _ _ x=>x))
 refine wpAny_mono (q1 s1 vs ok1 x1) (fun _ _ z=>z.back p1) fun _ _ x=>Ex.back p1 x fun _ _ y=>y
end
section
variable {c:Cx} {A:Around} {G:Option Env} {fr:List Addr} {σ:Sto} {X:Addr->Sto->Prop} {env:Env} {m:Vars}
noncomputable abbrev RB (_:List Addr)(_:Heap)(b a:Bool):Prop:=a=b
noncomputable def WTr (c:Cx)(A:Around)(fr:List Addr)(σ:Sto)(d:D)(Q:Bool->Sto->Prop)(X:Addr->Sto->Prop):Prop:=
 ∀v s,Ok c A fr σ s.heap->V (keys σ++fr) s.heap d v->W c A none fr σ (truthy v) RB Q X s
noncomputable def WT (c:Cx)(A:Around)(fr:List Addr)(env:Env)(m:Vars)(σ:Sto)(e:Expr)(Q:Bool->Sto->Prop)(X:Addr->Sto->Prop):Prop:=
 ∀s,Ok c A fr σ s.heap->Fm env m fr (keys σ++fr) s.heap->W c A none fr σ (isTrue e env (eval e env)) RB Q X s
theorem WTr.bool {b:Bool}{Q:Bool->Sto->Prop}(h:Q b σ):WTr c A fr σ (.bool b) Q X:=fun v s ok x=>by
 subst x
 exact wpAny_truthy_bool ⟨b,σ,Post.refl ..,ok,rfl,h⟩
theorem WT.plain {e:Expr}{Q:Bool->Sto->Prop}(h:WE c A fr env m σ e (fun d σ1=>WTr c A fr σ1 d Q X) X)(he:∀whole,isTrue e env whole=(do let v<-whole;standAt e.pos;holding [v] (truthy v)):=by intro _;rfl):WT c A fr env m σ e Q X:=fun s ok fm=>by
 rw [he]
 refine W.bind (W.mono (h s ok fm) (fun d1 σ1 q1 a s1 p1 ok1 x1=> ?_) fun _ _ y=>y)
 exact W.standAt (W.holding (q1 a s1 ok1 x1))
theorem WT.not {e:Expr}{pos:Pos}{Q:Bool->Sto->Prop}(h:WT c A fr env m σ e (fun b σ1=>Q (!b) σ1) X):WT c A fr env m σ (.UnaryOp .Not e pos) Q X:=fun s ok fm=>by
 refine W.bind (W.mono (h s ok fm) (fun d1 σ1 q1 a s1 p1 ok1 x1=> ?_) fun _ _ y=>y)
 obtain rfl:a=d1:=x1
 exact W.pure ok1 rfl q1
noncomputable def WTs (c:Cx)(A:Around)(fr:List Addr)(env:Env)(m:Vars)(σ:Sto)(op:BoolOp)(es:List Expr)(Q:Bool->Sto->Prop)(X:Addr->Sto->Prop):Prop:=
 ∀s,Ok c A fr σ s.heap->Fm env m fr (keys σ++fr) s.heap->W c A none fr σ (allTrue op es env) RB Q X s
theorem WTs.nilAnd {Q:Bool->Sto->Prop}(h:Q true σ):WTs c A fr env m σ .And [] Q X:=fun s ok fm=>by
 exact wpAny_pure ⟨true,σ,Post.refl ..,ok,rfl,h⟩
theorem WTs.nilOr {Q:Bool->Sto->Prop}(h:Q false σ):WTs c A fr env m σ .Or [] Q X:=fun s ok fm=>by
 exact wpAny_pure ⟨false,σ,Post.refl ..,ok,rfl,h⟩
theorem WTs.and {e:Expr}{es:List Expr}{Q:Bool->Sto->Prop}(h:WT c A fr env m σ e (fun b σ1=>if b=true then WTs c A fr env m σ1 .And es Q X else Q false σ1) X):WTs c A fr env m σ .And (e::es) Q X:=fun s ok fm=>by
 refine W.bind (W.mono (h s ok fm) (fun d1 σ1 q1 a s1 p1 ok1 x1=> ?_) fun _ _ y=>y)
 obtain rfl:a=d1:=x1
 cases a with
 | true=>exact q1 s1 ok1 (fm.move p1)
 | false=>exact W.pure ok1 rfl q1
theorem WTs.or {e:Expr}{es:List Expr}{Q:Bool->Sto->Prop}(h:WT c A fr env m σ e (fun b σ1=>if b=true then Q true σ1 else WTs c A fr env m σ1 .Or es Q X) X):WTs c A fr env m σ .Or (e::es) Q X:=fun s ok fm=>by
 refine W.bind (W.mono (h s ok fm) (fun d1 σ1 q1 a s1 p1 ok1 x1=> ?_) fun _ _ y=>y)
 obtain rfl:a=d1:=x1
 cases a with
 | false=>exact q1 s1 ok1 (fm.move p1)
 | true=>exact W.pure ok1 rfl q1
theorem WT.boolop {op:BoolOp}{es:List Expr}{pos:Pos}{Q:Bool->Sto->Prop}(h:WTs c A fr env m σ op es Q X):WT c A fr env m σ (.BoolOp op es pos) Q X:=fun s ok fm=>by
 exact h s ok fm
theorem WT.compare {l r:Expr}{op:CmpOp}{pos:Pos}{Q:Bool->Sto->Prop}(h:WE c A fr env m σ l (fun d1 σ1=>WE c A fr env m σ1 r (fun d2 σ2=>WB c A fr σ2 (compareOp op) d1 d2 (fun d3 σ3=>WTr c A fr σ3 d3 Q X) X) X) X)(hb:behindInMarks op r=false:=by rfl):
  WT c A fr env m σ (.Compare l [op] [r] pos) Q X:=fun s ok fm=>by
 refine W.bind (W.mono (h s ok fm) (fun d1 σ1 q1 a s1 p1 ok1 x1=> ?_) fun _ _ y=>y)
 show W c A none fr σ1 (testChain pos a [op] [markedBehindIn op r (eval r env)]) RB Q X s1
 rw [markedBehindIn_of_false hb]
 refine W.bind (W.holding (W.mono (q1 s1 ok1 (fm.move p1)) (fun d2 σ2 q2 b s2 p2 ok2 x2=> ?_) fun _ _ y=>y))
 refine W.standAt (W.bind (W.operate (W.mono (q2 a b s2 ok2 (p2.v x1) x2) (fun d3 σ3 q3 e s3 p3 ok3 x3=> ?_) fun _ _ y=>y)))
 exact W.holding (q3 e s3 ok3 x3)
theorem WT.compare2 {l r r2:Expr}{op op2:CmpOp}{pos:Pos}{Q:Bool->Sto->Prop}(h:WE c A fr env m σ l (fun d1 σ1=>WE c A fr env m σ1 r (fun d2 σ2=>WB c A fr σ2 (compareOp op) d1 d2 (fun d3 σ3=>WTr c A fr σ3 d3 (fun b σ4=>if b=true then WE c A fr env m σ4 r2 (fun d4 σ5=>WB c A fr σ5 (compareOp op2) d2 d4 (fun d5 σ6=>WTr c A fr σ6 d5 Q X) X) X else Q false σ4) X) X) X) X)(hb2:behindInMarks op2 r2=false:=by rfl):
  WT c A fr env m σ (.Compare l [op,op2] [r,r2] pos) Q X:=fun s ok fm=>by
 refine W.bind (W.mono (h s ok fm) (fun d1 σ1 q1 a s1 p1 ok1 x1=> ?_) fun _ _ y=>y)
 show W c A none fr σ1 (testChain pos a [op,op2] [eval r env,markedBehindIn op2 r2 (eval r2 env)]) RB Q X s1
 rw [markedBehindIn_of_false hb2]
 have fm1:=fm.move p1
 refine W.bind (W.holding (W.mono (q1 s1 ok1 fm1) (fun d2 σ2 q2 b s2 p2 ok2 x2=> ?_) fun _ _ y=>y))
 refine W.standAt (W.bind (W.holding (W.mono (q2 a b s2 ok2 (p2.v x1) x2) (fun d3 σ3 q3 e s3 p3 ok3 x3=> ?_) fun _ _ y=>y)))
 refine wpAny_bind (wpAny_release ?_)
 refine W.bind (W.holding (W.mono (q3 e s3 ok3 x3) (fun b1 σ4 q4 t s4 p4 ok4 x4=> ?_) fun _ _ y=>y))
 obtain rfl:t=b1:=x4
 cases t with
 | false=>exact W.pure ok4 rfl q4
 | true=>
  refine W.bind (W.holding (W.mono (q4 s4 ok4 (((fm1.move p2).move p3).move p4)) (fun d4 σ5 q5 f s5 p5 ok5 x5=> ?_) fun _ _ y=>y))
  refine W.standAt (W.bind (W.operate (W.mono (q5 b f s5 ok5 (p5.v (p4.v (p3.v x2))) x5) (fun d5 σ6 q6 g s6 p6 ok6 x6=> ?_) fun _ _ y=>y)))
  exact W.holding (q6 g s6 ok6 x6)
noncomputable def WBs (c:Cx)(A:Around)(fr:List Addr)(env:Env)(m:Vars)(σ:Sto)(op:BoolOp)(es:List Expr)(Q:D->Sto->Prop)(X:Addr->Sto->Prop):Prop:=
 ∀pos s,Ok c A fr σ s.heap->Fm env m fr (keys σ++fr) s.heap->W c A none fr σ (boolOp pos op (evalEach es env)) V Q X s
theorem WBs.one {op:BoolOp}{e:Expr}{Q:D->Sto->Prop}(h:WE c A fr env m σ e Q X):WBs c A fr env m σ op [e] Q X:=fun pos s ok fm=>h s ok fm
theorem WBs.and {e e2:Expr}{es:List Expr}{Q:D->Sto->Prop}(h:WE c A fr env m σ e (fun d σ1=>WTr c A fr σ1 d (fun b σ2=>if b=true then WBs c A fr env m σ2 .And (e2::es) Q X else Q d σ2) X) X):WBs c A fr env m σ .And (e::e2::es) Q X:=fun pos s ok fm=>by
 refine W.bind (W.mono (h s ok fm) (fun d1 σ1 q1 a s1 p1 ok1 x1=> ?_) fun _ _ y=>y)
 refine W.standAt (W.bind (W.holding (W.mono (q1 a s1 ok1 x1) (fun b σ2 q2 t s2 p2 ok2 x2=> ?_) fun _ _ y=>y)))
 obtain rfl:t=b:=x2
 cases t with
 | true=>exact q2 pos s2 ok2 ((fm.move p1).move p2)
 | false=>exact W.pure ok2 (p2.v x1) q2
theorem WBs.or {e e2:Expr}{es:List Expr}{Q:D->Sto->Prop}(h:WE c A fr env m σ e (fun d σ1=>WTr c A fr σ1 d (fun b σ2=>if b=true then Q d σ2 else WBs c A fr env m σ2 .Or (e2::es) Q X) X) X):WBs c A fr env m σ .Or (e::e2::es) Q X:=fun pos s ok fm=>by
 refine W.bind (W.mono (h s ok fm) (fun d1 σ1 q1 a s1 p1 ok1 x1=> ?_) fun _ _ y=>y)
 refine W.standAt (W.bind (W.holding (W.mono (q1 a s1 ok1 x1) (fun b σ2 q2 t s2 p2 ok2 x2=> ?_) fun _ _ y=>y)))
 obtain rfl:t=b:=x2
 cases t with
 | false=>exact q2 pos s2 ok2 ((fm.move p1).move p2)
 | true=>exact W.pure ok2 (p2.v x1) q2
theorem WE.boolop {op:BoolOp}{es:List Expr}{pos:Pos}{Q:D->Sto->Prop}(h:WBs c A fr env m σ op es Q X):WE c A fr env m σ (.BoolOp op es pos) Q X:=fun s ok fm=>h pos s ok fm
theorem WE.compare2 {l r r2:Expr}{op op2:CmpOp}{pos:Pos}{Q:D->Sto->Prop}(h:WE c A fr env m σ l (fun d1 σ1=>WE c A fr env m σ1 r (fun d2 σ2=>WB c A fr σ2 (compareOp op) d1 d2 (fun d3 σ3=>WTr c A fr σ3 d3 (fun b σ4=>if b=true then WE c A fr env m σ4 r2 (fun d4 σ5=>WB c A fr σ5 (compareOp op2) d2 d4 Q X) X else Q d3 σ4) X) X) X) X)(hb2:behindInMarks op2 r2=false:=by rfl):
  WE c A fr env m σ (.Compare l [op,op2] [r,r2] pos) Q X:=fun s ok fm=>by
 refine W.bind (W.mono (h s ok fm) (fun d1 σ1 q1 a s1 p1 ok1 x1=> ?_) fun _ _ y=>y)
 show W c A none fr σ1 (compareChain pos a [op,op2] [eval r env,markedBehindIn op2 r2 (eval r2 env)]) V Q X s1
 rw [markedBehindIn_of_false hb2]
 have fm1:=fm.move p1
 refine W.bind (W.holding (W.mono (q1 s1 ok1 fm1) (fun d2 σ2 q2 b s2 p2 ok2 x2=> ?_) fun _ _ y=>y))
 refine W.standAt (W.bind (W.holding (W.mono (q2 a b s2 ok2 (p2.v x1) x2) (fun d3 σ3 q3 e s3 p3 ok3 x3=> ?_) fun _ _ y=>y)))
 refine wpAny_bind (wpAny_release ?_)
 refine W.bind (W.holding (W.mono (q3 e s3 ok3 x3) (fun b1 σ4 q4 t s4 p4 ok4 x4=> ?_) fun _ _ y=>y))
 obtain rfl:t=b1:=x4
 cases t with
 | false=>exact W.pure ok4 (p4.v x3) q4
 | true=>
  refine W.bind (W.holding (W.mono (q4 s4 ok4 (((fm1.move p2).move p3).move p4)) (fun d4 σ5 q5 f s5 p5 ok5 x5=> ?_) fun _ _ y=>y))
  exact W.standAt (W.operate (q5 b f s5 ok5 (p5.v (p4.v (p3.v x2))) x5))
variable {N:Vars->Sto->Prop} {R:D->Sto->Prop}
theorem W1.ite {test:Expr}{body orelse:List Stmt}{pos:Pos}(h:WT c A fr env m σ test (fun b σ1=>if b=true then WS c A fr env m σ1 body N R X else WS c A fr env m σ1 orelse N R X) X):W1 c A fr env m σ (.If test body orelse pos) N R X:=fun s ok fm=>by
 refine W.standAt (W.bindE fm (W.mono (h s ok fm) (fun d σ1 q1 a s1 fm1 p1 ok1 x1=> ?_) fun _ _ y=>y))
 obtain rfl:a=d:=x1
 cases a with
 | true=>exact q1 s1 ok1 fm1
 | false=>exact q1 s1 ok1 fm1
end
theorem codeAny_forLoopT {prog:Program}{w:World}{A:Around}{s:Shared}{R:Result->Shared->Prop}{target it body orelse env}(I:Nat->Shared->Prop)
  (turn:∀n s,I n s->wpAny (model prog w) A (pyNext it) (fun r s₁=>match r with
   | none=>wpAny (model prog w) A (execs orelse env) (fun f s₃=>R (.ok f) s₃) (notedBy (model prog w) A env fun e s'=>R (.error e) s') s₁
   | some v=>wpAny (model prog w) A (letOwnedTupleGo target it v) (fun _ s₁'=>wpAny (model prog w) A (assign target env v) (fun _ s₂=>wpAny (model prog w) A (execs body env) (fun f s₃=>match f with
     | .next| .cont=>∃m,m<n/\I m s₃
     | .brk=>R (.ok .next) s₃
     | .ret v=>R (.ok (.ret v)) s₃) (notedBy (model prog w) A env fun e s'=>R (.error e) s') s₂) (notedBy (model prog w) A env fun e s'=>R (.error e) s') s₁') (notedBy (model prog w) A env fun e s'=>R (.error e) s') s₁) (notedBy (model prog w) A env fun e s'=>R (.error e) s') s)
  (n:Nat) (h:I n s):codeAny (model prog w) A (.forLoop target it body orelse env) R s:=by
 refine codeAny_loop' rfl I (fun n s hI=> ?_) n h
 refine wpAny_noted ?_
 refine wpAny_bind (wpAny_standAt (wpAny_bind (wpAny_onRaise (wpAny_mono (turn n s hI) (fun r s₁ h₁=> ?_) fun _ _ h'=>wpAny_standAt h'))))
 cases r with
 | none=>exact wpAny_pure (.inr ⟨rfl,codeAny_block h₁⟩)
 | some v=>
  refine wpAny_bind (wpAny_mono h₁ (fun _ s₁' h₁'=> ?_) fun _ _ h'=>h')
  refine wpAny_bind (wpAny_mono h₁' (fun _ s₂ h₂=>wpAny_bind (wpAny_mono h₂ (fun f s₃ h₃=> ?_) fun _ _ h'=>h')) fun _ _ h'=>h')
  cases f with
  | next=>exact wpAny_pure (.inl ⟨rfl,h₃⟩)
  | cont=>exact wpAny_pure (.inl ⟨rfl,h₃⟩)
  | brk=>exact wpAny_pure h₃
  | ret v=>exact wpAny_pure h₃
theorem codeAny_compLoopT {prog:Program}{w:World}{A:Around}{s:Shared}{R:Result->Shared->Prop}{elt target iter:Expr}{ifs:List Expr}{scope:Scope}{pos:Pos}{it acc:Value}{env:Env}(I:Nat->Shared->Prop)
  (turn:∀n s,I n s->wpAny (model prog w) A (pyNext it) (fun r s₁=>match r with
   | none=>R (.ok .next) s₁
   | some v=>wpAny (model prog w) A (letOwnedTupleGo target it v) (fun _ s₁'=>wpAny (model prog w) A (assign target env v) (fun _ s₂=>
     wpAny (model prog w) A (forIn ifs true fun c r=>if r=true then do let ok<-isTrue c env (eval c env);pure (ForInStep.yield ok) else pure (ForInStep.yield r)) (fun ok s₃=>
      if ok=true then wpAny (model prog w) A (eval elt env) (fun x s₄=>
       wpAny (model prog w) A (call (.builtin "list.append") [acc,x]) (fun _ s₅=>∃m,m<n/\I m s₅) (fun _ _=>False) s₄) (fun _ _=>False) s₃
      else ∃m,m<n/\I m s₃) (fun _ _=>False) s₂) (fun _ _=>False) s₁') (fun _ _=>False) s₁) (fun _ _=>False) s)
  (n:Nat) (h:I n s):codeAny (model prog w) A (.compLoop (.ListComp elt [⟨target,iter,ifs,0⟩] scope pos) 0 it acc env) R s:=by
 refine codeAny_loop rfl I (fun n s hI=> ?_) n h
 show wpAny _ A ((compTurn (.ListComp elt [⟨target,iter,ifs,0⟩] scope pos) 0 it acc env).onRaise (fun x=>do noteFrame x env;theTreesLotGoes x)) _ _ s
 refine wpAny_noted ?_
 rw [compTurn_list]
 refine wpAny_bind (wpAny_standAt (wpAny_bind (wpAny_mono (turn n s hI) (fun r s₁ h₁=> ?_) fun _ _ h'=>h'.elim)))
 cases r with
 | none=>exact wpAny_pure h₁
 | some v=>
  refine wpAny_bind (wpAny_mono h₁ (fun _ s₁' h₁'=> ?_) fun _ _ h'=>h'.elim)
  refine wpAny_bind (wpAny_mono h₁' (fun _ s₂ h₂=>wpAny_bind (wpAny_mono h₂ (fun ok s₃ h₃=> ?_) fun _ _ h'=>h'.elim)) fun _ _ h'=>h'.elim)
  cases ok with
  | false=>exact wpAny_pure ⟨rfl,h₃⟩
  | true=>
   exact wpAny_bind (wpAny_bind (wpAny_mono h₃ (fun x s₄ h₄=>wpAny_bind (wpAny_mono h₄ (fun _ s₅ h₅=>wpAny_pure (wpAny_pure ⟨rfl,h₅⟩)) fun _ _ h'=>h'.elim)) fun _ _ h'=>h'.elim))
theorem Ok.more {c:Cx}{A:Around}{fr wr:List Addr}{σ:Sto}{h h':Heap}(ok:Ok c A fr σ h)(k:∀b o,h.get? b=some o->h'.get? b=some o)(hn:∀a∈wr,h.get? a=none)(hl:∀a∈wr,∃o,h'.get? a=some o)(nd:wr.Nodup):Ok c A (wr++fr) σ h' where
 base:=fun b o e=>k b o (ok.base b o e)
 sto:=fun p hp=>IsO.move (K:=keys σ++fr) (fun b o _ e=>k b o e) (fun a m=>by
  rcases List.mem_append.mp m with z| z
  ·exact .inl (List.mem_append_left _ z)
  ·rcases List.mem_append.mp z with z| z
   ·exact .inr (hn a z)
   ·exact .inl (List.mem_append_right _ z)) (fun x e=>k _ x e) (ok.sto p hp)
 nd:=by
  have h0:=ok.nd
  have ap:∀a∈wr,a∉keys σ++fr:=fun a ha m=>by obtain ⟨o,e⟩:=ok.there m;replace e:=(hn a ha ..).symm.trans e;contradiction
  rw [List.nodup_append] at h0
  rw [List.nodup_append,List.nodup_append]
  refine ⟨h0.1,⟨nd,h0.2.1,fun a ha b hb z=>ap a ha (z▸List.mem_append_right _ hb)⟩,fun a ha b hb=> ?_⟩
  rcases List.mem_append.mp hb with hb| hb
  ·exact fun z=>ap b hb (z▸List.mem_append_left _ ha)
  ·exact h0.2.2 a ha b hb
 new:=fun a m=>by
  rcases List.mem_append.mp m with z| z
  ·exact ok.new a (List.mem_append_left _ z)
  ·rcases List.mem_append.mp z with z| z
   ·cases hg:c.h0.get? a with
    | none=>rfl
    | some o=>have:=ok.base _ o hg;replace this:=(hn a z ..).symm.trans this;contradiction
   ·exact ok.new a (List.mem_append_right _ z)
 live:=fun a m=>by
  rcases List.mem_append.mp m with z| z
  ·exact hl a z
  ·obtain ⟨o,g⟩:=ok.live a z;exact ⟨o,k _ _ g⟩
 stack:=by
  obtain ⟨l,a,b,d,f⟩:=(ok.keeps k).stack
  exact ⟨l,a,b,fun x hx=>List.mem_append_right _ (d x hx),f⟩
theorem Ok.less {c:Cx}{A:Around}{fr wr ex:List Addr}{σ:Sto}{h:Heap}(ok:Ok c A (ex++(wr++fr)) σ h)(hin:∀l,A.frames=some l->∀b∈l.filterMap (·.frame),b∈fr):Ok c A (ex++fr) σ h where
 base:=ok.base
 sto:=fun p hp=>IsO.move (K:=keys σ++(ex++(wr++fr))) (fun b o _ e=>e) (fun a m=>.inl (by
  rcases List.mem_append.mp m with z| z
  ·exact List.mem_append_left _ z
  ·rcases List.mem_append.mp z with z| z
   ·exact List.mem_append_right _ (List.mem_append_left _ z)
   ·exact List.mem_append_right _ (List.mem_append_right _ (List.mem_append_right _ z)))) (fun x e=>e) (ok.sto p hp)
 nd:=by
  refine List.Sublist.nodup ?_ ok.nd
  exact List.Sublist.append (List.Sublist.refl _) (List.Sublist.append (List.Sublist.refl _) (List.sublist_append_right _ _))
 new:=fun a m=>ok.new a (by
  rcases List.mem_append.mp m with z| z
  ·exact List.mem_append_left _ z
  ·rcases List.mem_append.mp z with z| z
   ·exact List.mem_append_right _ (List.mem_append_left _ z)
   ·exact List.mem_append_right _ (List.mem_append_right _ (List.mem_append_right _ z)))
 live:=fun a m=>ok.live a (by
  rcases List.mem_append.mp m with z| z
  ·exact List.mem_append_left _ z
  ·exact List.mem_append_right _ (List.mem_append_right _ z))
 stack:=by
  obtain ⟨l,h1,h2,h3,h4⟩:=ok.stack
  exact ⟨l,h1,h2,fun b hb=>List.mem_append_right _ (hin l h1 b hb),h4⟩
theorem less_drop {fr wr:List Addr}(σ:Sto)(h:Heap):Less (keys σ++(wr++fr)) (keys σ++fr) h:=fun a m=>by
 rcases List.mem_append.mp m with z| z
 ·exact .inl (List.mem_append_left _ z)
 ·exact .inl (List.mem_append_right _ (List.mem_append_right _ z))
theorem less_add {fr wr:List Addr}{σ:Sto}{h:Heap}(hn:∀a∈wr,h.get? a=none):Less (keys σ++fr) (keys σ++(wr++fr)) h:=fun a m=>by
 rcases List.mem_append.mp m with z| z
 ·exact .inl (List.mem_append_left _ z)
 ·rcases List.mem_append.mp z with z| z
  ·exact .inr (hn a z)
  ·exact .inl (List.mem_append_right _ z)
theorem Fm.shift {env:Env}{m:Vars}{fr fr' K K':List Addr}{h:Heap}(f:Fm env m fr K h)(hi:env.locals∈fr'/\∀p∈env.cells,p.2∈fr')(hl:Less K K' h):Fm env m fr' K' h where
 kind:=f.kind
 glob:=f.glob
 bui:=f.bui
 ns:=by obtain ⟨mv,hn,r⟩:=f.ns;exact ⟨mv,hn,fun x d e k=>by obtain ⟨v,a,b⟩:=r x d e k;exact ⟨v,a,V.move (fun _ _ _ e=>e) hl _ _ b⟩⟩
 cell:=fun x cc e=>by obtain ⟨ov,hc,r⟩:=f.cell x cc e;exact ⟨ov,hc,fun d e k=>by obtain ⟨v,a,b⟩:=r d e k;exact ⟨v,a,V.move (fun _ _ _ e=>e) hl _ _ b⟩⟩
 has:=f.has
 inn:=hi
 apart:=f.apart
theorem Post.drop {F fr wr:List Addr}{σ σ1 σ2:Sto}{s s1 s2:Shared}(p:Post [] fr σ s s1 σ1)(hn:∀a∈wr,s.heap.get? a=none)(q:Post (wr++F) (wr++fr) σ1 s1 s2 σ2):Post F fr σ s s2 σ2 where
 shape:=by obtain ⟨h,tk,rfl⟩:=p.shape;obtain ⟨h',tk',rfl⟩:=q.shape;exact ⟨h',tk',rfl⟩
 kept:=fun b o nb e=>q.kept b o (fun m=>by
  rcases List.mem_append.mp m with z| z
  ·exact p.less.nin nb e (List.mem_append_left _ z)
  ·rcases List.mem_append.mp z with z| z
   ·replace e:=(hn b z ..).symm.trans e;contradiction
   ·exact nb (List.mem_append_right _ z)) (p.kept b o nb e)
 slots:=fun b o m nf e=>by
  obtain ⟨sl,e1,r1⟩:=p.slots b o m (by simp) e
  obtain ⟨sl',e2,r2⟩:=q.slots b _ (List.mem_append_right _ m) (fun z=>by
   rcases List.mem_append.mp z with z| z
   ·replace e:=(hn b z ..).symm.trans e;contradiction
   ·exact nf z) e1
  exact ⟨sl',e2,fun z=>(r2 z).trans (r1 z)⟩
 alive:=fun b o e=>by obtain ⟨o1,e1⟩:=p.alive b o e;exact q.alive b o1 e1
 grow:=fun a m=>by
  rcases q.grow a m with z| z
  ·exact p.grow a z
  ·exact .inr (none_back p z)
structure Ow (wr:List Addr)(h h':Heap):Prop where
 kept:∀b o,b∉wr->h.get? b=some o->h'.get? b=some o
 live:∀b∈wr,∃o,h'.get? b=some o
theorem Ok.ow {c:Cx}{A:Around}{fr wr:List Addr}{σ:Sto}{h h':Heap}(ok:Ok c A (wr++fr) σ h)(hnd:∀b∈wr,∀o,h.get? b=some o->∀es n,o.data≠.dict es n)(y:Ow wr h h'):Ok c A (wr++fr) σ h' where
 base:=fun b o e=>y.kept b o (fun m=>by replace e:=(ok.new b (List.mem_append_right _ (List.mem_append_left _ m)) ..).symm.trans e;contradiction) (ok.base b o e)
 sto:=fun p hp=>IsO.move (fun b o n e=>y.kept b o (fun m=>n (List.mem_append_right _ (List.mem_append_left _ m))) e) (fun a m=>.inl m) (fun x e=>y.kept _ _ (fun m=>by
  have:=ok.nd
  rw [List.nodup_append] at this
  exact this.2.2 _ (List.mem_map_of_mem hp) _ (List.mem_append_left _ m) rfl) e) (ok.sto p hp)
 nd:=ok.nd
 new:=ok.new
 live:=fun a m=>by
  by_cases z:a∈wr
  ·exact y.live a z
  ·obtain ⟨o,e⟩:=ok.live a m;exact ⟨o,y.kept _ _ z e⟩
 stack:=by
  obtain ⟨l,a,b,d,f⟩:=ok.stack
  have nw:∀x∈l.filterMap (·.frame),x∉wr:=fun x hx hw=>by
   obtain ⟨o,es,n,g,r⟩:=f x hx
   exact hnd x hw o g es n r
  refine ⟨l,a,?_,d,fun x hx=> ?_⟩
  ·have:∀x∈l.filterMap (·.frame),x∈l.filterMap (·.frame):=fun x hx=>hx
   refine FunFrames.turn (fr:=l.filterMap (·.frame)) (fun x o hx g k=>⟨o,y.kept _ _ (nw x hx) g,k⟩) b this
  ·obtain ⟨o,es,n,g,r⟩:=f x hx;exact ⟨o,es,n,y.kept _ _ (nw x hx) g,r⟩
theorem Post.ow {F fr wr:List Addr}{σ:Sto}{s:Shared}{h':Heap}{tk:Nat}(y:Ow wr s.heap h'):Post (wr++F) (wr++fr) σ s {s with heap:=h',toks:=tk} σ where
 shape:=⟨h',tk,rfl⟩
 kept:=fun b o n e=>y.kept b o (fun m=>n (List.mem_append_right _ (List.mem_append_left _ m))) e
 slots:=fun b o m n e=>⟨o.slots,y.kept b o (fun z=>n (List.mem_append_left _ z)) e,fun _=>rfl⟩
 alive:=fun b o e=>by
  by_cases z:b∈wr
  ·exact y.live b z
  ·exact ⟨o,y.kept _ _ z e⟩
 grow:=fun _ m=>.inl m
theorem Fm.ow {env:Env}{m:Vars}{fr wr K:List Addr}{h h':Heap}(f:Fm env m (wr++fr) K h)(hK:∀b∈wr,b∈K)(hn:env.locals∉wr/\∀p∈env.cells,p.2∉wr)(y:Ow wr h h'):Fm env m (wr++fr) K h':=by
 have st:Stay K h h':=fun b o n e=>y.kept b o (fun m=>n (hK _ m)) e
 have ls:Less K K h:=fun a m=>.inl m
 exact {
  kind:=f.kind
  glob:=f.glob
  bui:=f.bui
  ns:=by
   obtain ⟨mv,⟨o,es,ep,g,r⟩,q⟩:=f.ns
   exact ⟨mv,⟨o,es,ep,y.kept _ _ hn.1 g,r⟩,fun x d e k=>by obtain ⟨v,a,b⟩:=q x d e k;exact ⟨v,a,V.move st ls _ _ b⟩⟩
  cell:=fun x cc e=>by
   obtain ⟨ov,⟨o,g,r⟩,q⟩:=f.cell x cc e
   exact ⟨ov,⟨o,y.kept _ _ (hn.2 _ (mem_of_lookup e)) g,r⟩,fun d e k=>by obtain ⟨v,a,b⟩:=q d e k;exact ⟨v,a,V.move st ls _ _ b⟩⟩
  has:=f.has
  inn:=f.inn
  apart:=f.apart}
structure Src (c:Cx)(A:Around)(tg:Expr)(I:Addr)(wr:List Addr)(vals:List Vars)(Inv:Sto->Prop)(St:Nat->List Addr->Heap->Prop)(Mid:Nat->List Addr->Heap->Value->Prop):Prop where
 nodict:∀i K h,St i K h->∀b∈wr,∀o,h.get? b=some o->∀es n,o.data≠.dict es n
 move:∀i K K' h h',St i K h->Stay K h h'->(∀b∈wr,∀o,h.get? b=some o->h'.get? b=some o)->Less K K' h->St i K' h'
 next:∀i σ fr (s:Shared) (Q:Option Value->Shared->Prop) (E:Value->Shared->Prop),i<vals.length->Ok c A (wr++fr) σ s.heap->St i (keys σ++(wr++fr)) s.heap->Inv σ->
  (∀v h' tk,Mid i (keys σ++(wr++fr)) h' v->Ow wr s.heap h'->Q (some v) {s with heap:=h',toks:=tk})->wpAny (model c.prog c.w) A (pyNext (.ref I)) Q E s
 put:∀i σ fr (F:List Addr) (env:Env) (m:Vars) v (s:Shared) (Q:Unit->Shared->Prop) (E:Value->Shared->Prop) x,vals[i]? =some x->Mid i (keys σ++(wr++fr)) s.heap v->Ok c A (wr++fr) σ s.heap->Fm env m (wr++fr) (keys σ++(wr++fr)) s.heap->(env.locals∈fr/\∀p∈env.cells,p.2∈fr)->
  (∀y∈x,env.kindOf y.1=some .local\/env.kindOf y.1=some .cell)->(env.locals∈F/\∀y∈x,env.kindOf y.1=some .cell->∀cc,env.cells.lookup y.1=some cc->cc∈F)->(∀b∈wr,∀o,s.heap.get? b=some o->∀es n,o.data≠.dict es n)->
  (∀h' tk,St (i+1) (keys σ++(wr++fr)) h'->Fm env (x++m) (wr++fr) (keys σ++(wr++fr)) h'->Ok c A (wr++fr) σ h'->Post (wr++F) (wr++fr) σ s {s with heap:=h',toks:=tk} σ->Q () {s with heap:=h',toks:=tk})->
  wpAny (model c.prog c.w) A (letOwnedTupleGo tg (.ref I) v) (fun _ s'=>wpAny (model c.prog c.w) A (assign tg env v) Q E s') E s
 midnd:∀i K h v,Mid i K h v->∀b∈wr,∀o,h.get? b=some o->∀es n,o.data≠.dict es n
 done:∀σ fr (s:Shared) (Q:Option Value->Shared->Prop) (E:Value->Shared->Prop),Ok c A (wr++fr) σ s.heap->St vals.length (keys σ++(wr++fr)) s.heap->Inv σ->
  (∀h' tk,(∀b o,b∉wr->s.heap.get? b=some o->h'.get? b=some o)->Q none {s with heap:=h',toks:=tk})->wpAny (model c.prog c.w) A (pyNext (.ref I)) Q E s
 self:∀i K (s:Shared) (Q:Value->Shared->Prop) (E:Value->Shared->Prop),St i K s.heap->Q (.ref I) s->wpAny (model c.prog c.w) A (pyIter (.ref I)) Q E s
inductive ItP (c:Cx)(A:Around)(fr:List Addr)(env:Env)(m:Vars)(σ:Sto)(tg:Expr)(Q:List Vars->(Sto->Prop)->Sto->Prop)(s:Shared)(it:Value)(s2:Shared):Prop
 | mk (I:Addr) (wr:List Addr) (vals:List Vars) (Inv:Sto->Prop) (St:Nat->List Addr->Heap->Prop) (Mid:Nat->List Addr->Heap->Value->Prop) (σ':Sto) (e:it=.ref I) (p:Post [] fr σ s s2 σ') (ok:Ok c A fr σ' s2.heap) (okw:Ok c A (wr++fr) σ' s2.heap) (hn:∀a∈wr,s.heap.get? a=none)
   (fmw:Fm env m (wr++fr) (keys σ'++(wr++fr)) s2.heap) (src:Src c A tg I wr vals Inv St Mid) (st:St 0 (keys σ'++(wr++fr)) s2.heap) (inv:Inv σ') (q:Q vals Inv σ'):ItP c A fr env m σ tg Q s it s2
noncomputable def WIt (c:Cx)(A:Around)(fr:List Addr)(env:Env)(m:Vars)(σ:Sto)(iter tg:Expr)(Q:List Vars->(Sto->Prop)->Sto->Prop)(X:Addr->Sto->Prop):Prop:=
 ∀s,Ok c A fr σ s.heap->Fm env m fr (keys σ++fr) s.heap->
  wpAny (model c.prog c.w) A (eval iter env) (fun x s1=>wpAny (model c.prog c.w) A (pyIter x) (ItP c A fr env m σ tg Q s) (Ex c A none fr σ s false X) s1) (Ex c A none fr σ s false X) s
theorem Post.fin {F fr wr:List Addr}{σ σ':Sto}{s s':Shared}{h':Heap}{tk:Nat}(p:Post F fr σ s s' σ')(hn:∀a∈wr,s.heap.get? a=none)(hw:∀a∈fr,a∉wr)(k:∀b o,b∉wr->s'.heap.get? b=some o->h'.get? b=some o):Post F fr σ s {s' with heap:=h',toks:=tk} σ' where
 shape:=by obtain ⟨h,t,rfl⟩:=p.shape;exact ⟨h',tk,rfl⟩
 kept:=fun b o n e=>k b o (fun z=>by replace e:=(hn b z ..).symm.trans e;contradiction) (p.kept b o n e)
 slots:=fun b o m n e=>by obtain ⟨sl,e1,r⟩:=p.slots b o m n e;exact ⟨sl,k _ _ (hw b m) e1,r⟩
 alive:=fun b o e=>by obtain ⟨o1,e1⟩:=p.alive b o e;exact ⟨o1,k _ _ (fun z=>by replace e:=(hn b z ..).symm.trans e;contradiction) e1⟩
 grow:=p.grow
theorem Ok.fin {c:Cx}{A:Around}{fr wr:List Addr}{σ:Sto}{h h':Heap}(ok:Ok c A (wr++fr) σ h)(hin:∀l,A.frames=some l->∀b∈l.filterMap (·.frame),b∈fr)(k:∀b o,b∉wr->h.get? b=some o->h'.get? b=some o):Ok c A fr σ h':=by
 have ok1:Ok c A fr σ h:=Ok.less (ex:=[]) ok hin
 have nd:=ok.nd
 rw [List.nodup_append,List.nodup_append] at nd
 have nf:=fun a ha hw=>nd.2.1.2.2 a hw a ha rfl
 have nk:=fun a ha hw=>nd.2.2 a ha a (List.mem_append_left _ hw) rfl
 exact {
  base:=fun b o e=>k b o (fun m=>by replace e:=(ok.new b (List.mem_append_right _ (List.mem_append_left _ m)) ..).symm.trans e;contradiction) (ok.base b o e)
  sto:=fun p hp=>IsO.move (K:=keys σ++(wr++fr)) (fun b o n e=>k b o (fun m=>n (List.mem_append_right _ (List.mem_append_left _ m))) e) (less_drop _ _) (fun x e=>k _ _ (nk _ (List.mem_map_of_mem hp)) e) (ok.sto p hp)
  nd:=ok1.nd
  new:=ok1.new
  live:=fun a m=>by obtain ⟨o,e⟩:=ok1.live a m;exact ⟨o,k _ _ (nf a m) e⟩
  stack:=by
   obtain ⟨l,a,b,d,f⟩:=ok1.stack
   refine ⟨l,a,FunFrames.turn (fr:=fr) (fun x o hx g q=>⟨o,k _ _ (nf x hx) g,q⟩) b d,d,fun x hx=> ?_⟩
   obtain ⟨o,es,n,g,r⟩:=f x hx;exact ⟨o,es,n,k _ _ (nf x (d x hx)) g,r⟩}
theorem Ok.frames_in {c:Cx}{A:Around}{fr:List Addr}{σ:Sto}{h:Heap}(ok:Ok c A fr σ h):∀l,A.frames=some l->∀b∈l.filterMap (·.frame),b∈fr:=fun l hl b hb=>by
 obtain ⟨l',h1,_,h3,_⟩:=ok.stack
 replace h1:=(hl ..).symm.trans h1;obtain rfl:=Option.some.inj h1;exact h3 b hb
section
variable {c:Cx} {A:Around} {fr:List Addr} {σ:Sto} {X:Addr->Sto->Prop} {env:Env} {m:Vars} {N:Vars->Sto->Prop} {R:D->Sto->Prop}
theorem Ex.loop {wr:List Addr}{σ1 σ2:Sto}{s s1 s2 s3:Shared}{v:Value}(hst:∃l,A.frames=some (env::l))(hf:env.frame=some env.locals)(hin:∀l,A.frames=some l->∀b∈l.filterMap (·.frame),b∈fr)(hi:env.locals∈fr/\∀p∈env.cells,p.2∈fr)
  (p:Post [] fr σ s s1 σ1) (hn:∀a∈wr,s.heap.get? a=none) (q:Post (wr++Fa env) (wr++fr) σ1 s1 s2 σ2) (x:Ex c A (some env) (wr++fr) σ2 s2 false X v s3):
  notedBy (model c.prog c.w) A env (fun e s'=>cameBackBy (model c.prog c.w) A env (Ex c A (some env) fr σ s false X) e s') v s3:=nomatch x
inductive Loop (c:Cx)(A:Around)(env:Env)(m:Vars)(body:List Stmt)(N:Vars->Sto->Prop)(R:D->Sto->Prop)(X:Addr->Sto->Prop)(vals:List Vars)(Inv:Sto->Prop)(σ1:Sto):Prop
 | mk (hk:∀x∈vals,∀y∈x,env.kindOf y.1=some .local\/env.kindOf y.1=some .cell) (L:Nat->Vars->Sto->Prop) (h0:L 0 m σ1) (hinv:∀k m' σ',L k m' σ'->Inv σ')
   (step:∀k x m' σ',vals[k]? =some x->L k m' σ'->∀fr',WS c A fr' env (x++m') σ' body (fun m'' σ''=>L (k+1) m'' σ'') R X) (fin:∀m' σ',L vals.length m' σ'->N m' σ'):Loop c A env m body N R X vals Inv σ1
inductive ForI (c:Cx)(A:Around)(env:Env)(frw F:List Addr)(σ1:Sto)(s2:Shared)(n:Nat)(L:Nat->Vars->Sto->Prop)(St:Nat->List Addr->Heap->Prop)(k:Nat)(s':Shared):Prop
 | mk (i:Nat) (m':Vars) (σ':Sto) (e:k=n+1-i) (hi:i<=n) (hL:L i m' σ') (pp:Post F frw σ1 s2 s' σ') (ok:Ok c A frw σ' s'.heap) (fm:Fm env m' frw (keys σ'++frw) s'.heap) (st:St i (keys σ'++frw) s'.heap):ForI c A env frw F σ1 s2 n L St k s'
theorem W1.for_ {tg iter:Expr}{body:List Stmt}{pos:Pos}(hst:∃l,A.frames=some (env::l))(hf:env.frame=some env.locals)
  (h:WIt c A fr env m σ iter tg (Loop c A env m body N R X) X) (hs:∀x,foldedSetIterable iter env x=pure x:=by intro _;rfl):W1 c A fr env m σ (.For tg iter body [] pos) N R X:=fun s ok fm=>by
 have hin:=ok.frames_in
 refine wpAny_For (wpAny_mono (h s ok fm) (fun x s1 h1=>wpAny_mono h1 (fun it s2 h2=> ?_) fun _ _ x=>x.wide fm) fun _ _ x=>x.wide fm) hs
 obtain ⟨I,wr,vals,Inv,St,Mid,σ1,rfl,p,ok1,okw,hn,fmw,src,st0,inv0,hkinds,L,L0,LI,Lturn,Lend⟩:=h2
 have ndw:=okw.nd
 rw [List.nodup_append,List.nodup_append] at ndw
 have nf:=fun a ha hw=>ndw.2.1.2.2 a hw a ha rfl
 have hloc:env.locals∉wr/\∀q∈env.cells,q.2∉wr:=⟨nf _ fm.inn.1,fun q hq=>nf _ (fm.inn.2 q hq)⟩
 refine codeAny_forLoopT (ForI c A env (wr++fr) (wr++Fa env) σ1 s2 vals.length L St)
  ?_ (vals.length+1) ⟨0,m,σ1,rfl,Nat.zero_le _,L0,Post.refl ..,okw,fmw,st0⟩
 rintro k s' ⟨i,m',σ',rfl,hi,hL,pp,okk,fmk,stk⟩
 by_cases hlt:i<vals.length
 ·obtain ⟨x,hx⟩:∃x,vals[i]? =some x:=⟨vals[i],by simp⟩
  refine src.next i σ' fr s' _ _ hlt okk stk (LI _ _ _ hL) fun v h' tk hmid how=> ?_
  have fm':=fmk.ow (fun b hb=>List.mem_append_right _ (List.mem_append_left _ hb)) hloc how
  refine src.put i σ' fr (Fa env) env m' v _ _ _ x hx hmid (okk.ow (src.nodict _ _ _ stk) how) fm' fm.inn (hkinds x (List.mem_of_getElem? hx)) ⟨List.mem_cons_self,fun y _ _ cc hcc=>List.mem_cons_of_mem _ (List.mem_map_of_mem (f:=(·.2)) (mem_of_lookup hcc))⟩ (src.midnd _ _ _ _ hmid) fun h2 tk2 st2 fm2 ok2 p2=> ?_
  have pp2:=(pp.trans (Post.ow (F:=Fa env) (fr:=fr) (σ:=σ') (tk:=tk) how)).trans p2
  refine wpAny_mono (Lturn i x m' σ' hx hL (wr++fr) _ ok2 fm2) (fun fl s3 hx3=> ?_) fun v s3 hx3=> ?_
  ·obtain ⟨out,σ3,p3,ok3,r3,q3⟩:=hx3
   have pp3:=pp2.trans (p3.wide (F':=wr++Fa env) fun a ha=>List.mem_append_right _ ha)
   cases out with
   | next m3=>
    obtain ⟨rfl,fm3⟩:=r3
    refine ⟨vals.length+1-(i+1),z598 hi,i+1,m3,σ3,rfl,hlt,q3,pp3,ok3,fm3,?_⟩
    refine src.move _ _ _ _ _ st2 p3.stay (fun b hb o e=> ?_) p3.less
    obtain ⟨sl,e1,r1⟩:=p3.slots b o (List.mem_append_left _ hb) (fun z=>by
     rcases List.mem_cons.mp z with rfl| z
     ·exact hloc.1 hb
     ·obtain ⟨q,hq,rfl⟩:=List.mem_map.mp z;exact hloc.2 q hq hb) e
    have:=r1 (src.nodict _ _ _ st2 b hb o e)
    subst this;exact e1
   | ret d=>
    obtain ⟨v,rfl,hv,fv⟩:=r3
    exact ⟨.ret d,σ3,Post.drop p hn pp3,Ok.less (ex:=[]) ok3 hin,⟨v,rfl,V.move (fun _ _ _ e=>e) (less_drop _ _) _ _ hv,fv.shift fm.inn (less_drop _ _)⟩,q3⟩
  ·exact Ex.loop hst hf hin fm.inn p hn pp2 hx3
 ·obtain rfl:i=vals.length:=z599 hi hlt
  refine src.done σ' fr s' _ _ okk stk (LI _ _ _ hL) fun h' tk hk=> ?_
  refine wpAny_execs_nil ?_
  refine ⟨.next m',σ',Post.fin (Post.drop p hn pp) hn nf hk,(okk.fin hin hk),⟨rfl,?_⟩,Lend _ _ hL⟩
  have f1:=fmk.shift (fr':=fr) (K':=keys σ'++fr) fm.inn (less_drop _ _)
  have st:Stay (keys σ'++(wr++fr)) s'.heap h':=fun b o n e=>hk b o (fun z=>n (List.mem_append_right _ (List.mem_append_left _ z))) e
  exact {
   kind:=f1.kind
   glob:=f1.glob
   bui:=f1.bui
   ns:=by
    obtain ⟨mv,⟨o,es,ep,g,r⟩,q⟩:=fmk.ns
    exact ⟨mv,⟨o,es,ep,hk _ _ hloc.1 g,r⟩,fun x d e k=>by obtain ⟨v,a,b⟩:=q x d e k;exact ⟨v,a,V.move st (less_drop _ _) _ _ b⟩⟩
   cell:=fun x cc e=>by
    obtain ⟨ov,⟨o,g,r⟩,q⟩:=fmk.cell x cc e
    exact ⟨ov,⟨o,hk _ _ (hloc.2 _ (mem_of_lookup e)) g,r⟩,fun d e k=>by obtain ⟨v,a,b⟩:=q d e k;exact ⟨v,a,V.move st (less_drop _ _) _ _ b⟩⟩
   has:=f1.has
   inn:=f1.inn
   apart:=f1.apart}
end
noncomputable def relab (scope sc:Scope):Scope:=
 {scope with names:=scope.names.map fun (n,k)=>if (k==.free&&sc.kind==.function&&sc.names.lookup n==some .cell) then (n,.cell) else (n,k)}
noncomputable def capt (scope:Scope)(m:Vars):Vars:=m.filter fun p=>scope.names.lookup p.1==some .free
noncomputable def closOf (env:Env):List (Str × NameKind)->List (Str × Addr)->List (Str × Addr)
 | [],acc=>acc
 | (n,k)::r,acc=>closOf env r (if k==.free then (match env.cells.lookup n with| some a=>(n,a)::acc| none=>acc) else acc)
theorem closureFor_eq {scope:Scope}{env:Env}(h:∀x∈scope.names,x.2=.free->∃a,env.cells.lookup x.1=some a):closureFor scope env=pure (closOf env scope.names []):=by
 have:∀(names:List (Str × NameKind)) (acc:List (Str × Addr)),(∀x∈names,x.2=.free->∃a,env.cells.lookup x.1=some a)->
   (forIn names acc fun x (r:List (Str × Addr))=>(if (x.2==NameKind.free)=true then do let a<-cellOf env x.1;pure (ForInStep.yield ((x.1,a)::r)) else pure (ForInStep.yield r):Sem (ForInStep (List (Str × Addr)))))=pure (closOf env names acc):=by
  intro names
  induction names with
  | nil=>intro acc _;rfl
  | cons x r ih=>
   intro acc hx
   rw [List.forIn_cons]
   obtain ⟨n,k⟩:=x
   unfold closOf
   by_cases hk:(k==NameKind.free)=true
   ·refine Exists.elim (hx (n,k) List.mem_cons_self (by simpa using hk)) fun a ha=> ?_
    have hc:cellOf env n=pure a:=by unfold cellOf;rw [ha]
    simp only [hk,hc,ha]
    exact ih _ fun y hy=>hx y (List.mem_cons_of_mem _ hy)
   ·simp only [hk,if_false]
    exact ih _ fun y hy=>hx y (List.mem_cons_of_mem _ hy)
 exact congrArg (fun t=>t>>=fun cs=>pure cs) (this scope.names [] h)
theorem closOf_lookup {env:Env}{x:Str}:∀(names:List (Str × NameKind)) (acc:List (Str × Addr)) {a:Addr},(closOf env names acc).lookup x=some a->acc.lookup x=some a\/env.cells.lookup x=some a
 | [],acc,a,h=>.inl h
 | (n,k)::r,acc,a,h=>by
  rcases closOf_lookup r _ h with h| h
  ·split at h
   ·split at h
    ·rename_i b hb
     dsimp only [List.lookup_cons] at h
     by_cases q:(x==n)=true
     ·simp only [q] at h;obtain rfl:=Option.some.inj h;exact (beq_iff_eq.mp q)▸.inr hb
     ·simp only [q] at h;exact .inl h
    ·exact .inl h
   ·exact .inl h
  ·exact .inr h
theorem closOf_has {env:Env}{x:Str}(hx:∃a,env.cells.lookup x=some a):∀(names:List (Str × NameKind)) (acc:List (Str × Addr)),((x,NameKind.free)∈names\/∃a,acc.lookup x=some a)->∃a,(closOf env names acc).lookup x=some a
 | [],acc,h=>h.elim (fun h=>nomatch h) id
 | (n,k)::r,acc,h=>by
  refine closOf_has hx r _ ?_
  rcases h with h| ⟨a,h⟩
  ·rcases List.mem_cons.mp h with e| h
   ·cases e
    obtain ⟨a,ha⟩:=hx
    refine .inr ⟨a,?_⟩
    simp [ha]
   ·exact .inl h
  ·refine .inr ?_
   split
   ·split
    ·dsimp only [List.lookup_cons]
     by_cases q:(x==n)=true
     ·exact ⟨_,by rw [q]⟩
     ·exact ⟨a,by simp only [q];exact h⟩
    ·exact ⟨a,h⟩
   ·exact ⟨a,h⟩
theorem closOf_mem {env:Env}:∀(names:List (Str × NameKind)) (acc:List (Str × Addr)) {p:Str × Addr},p∈closOf env names acc->p∈acc\/env.cells.lookup p.1=some p.2
 | [],acc,p,h=>.inl h
 | (n,k)::r,acc,p,h=>by
  rcases closOf_mem r _ h with h| h
  ·split at h
   ·split at h
    ·rename_i b hb
     rcases List.mem_cons.mp h with rfl| h
     ·exact .inr hb
     ·exact .inl h
    ·exact .inl h
   ·exact .inl h
  ·exact .inr h
theorem closOf_pair {env:Env}(hap:env.cells.Pairwise fun x y=>x.2≠y.2):∀(names:List (Str × NameKind)) (acc:List (Str × Addr)),(names.map (·.1)).Nodup->(∀p∈acc,p.1∉names.map (·.1))->(∀p∈acc,env.cells.lookup p.1=some p.2)->
  (acc.Pairwise fun x y=>x.2≠y.2)->(closOf env names acc).Pairwise fun x y=>x.2≠y.2
 | [],acc,_,_,_,h=>h
 | (n,k)::r,acc,nd,hd,hl,h=>by
  rw [List.map_cons,List.nodup_cons] at nd
  unfold closOf
  have hd':=fun p hp z=>hd p hp (List.mem_cons_of_mem _ z)
  split
  ·split
   ·rename_i b hb
    refine closOf_pair hap r _ nd.2 (fun p hp=> ?_) (fun p hp=> ?_) (List.pairwise_cons.mpr ⟨fun y hy z=> ?_,h⟩)
    ·rcases List.mem_cons.mp hp with rfl| hp
     ·exact nd.1
     ·exact hd' p hp
    ·rcases List.mem_cons.mp hp with rfl| hp
     ·exact hb
     ·exact hl p hp
    ·exact hd y hy (by exact (name_of_addr hap (mem_of_lookup hb) (z▸mem_of_lookup (hl y hy)))▸List.mem_cons_self)
   ·exact closOf_pair hap r _ nd.2 hd' hl h
  ·exact closOf_pair hap r _ nd.2 hd' hl h
noncomputable def newCells (n:Nat):List (Str × NameKind)->List Addr
 | []=>[]
 | (_,k)::r=>if k==.cell then n::newCells (n+1) r else newCells n r
theorem newCells_ge {a:Addr}:∀{names:List (Str × NameKind)} {n:Nat},a∈newCells n names->n<=a
 | (_,k)::r,n,h=>by
  unfold newCells at h
  split at h
  ·rcases List.mem_cons.mp h with rfl| h
   ·exact Nat.le_refl _
   ·exact Nat.le_of_succ_le (newCells_ge h)
  ·exact newCells_ge h
theorem newCells_nodup:∀(names:List (Str × NameKind)) (n:Nat),(newCells n names).Nodup
 | [],n=>List.nodup_nil
 | (_,k)::r,n=>by
  unfold newCells
  split
  ·exact List.nodup_cons.mpr ⟨fun z=>Nat.lt_irrefl _ (newCells_ge z),newCells_nodup r _⟩
  ·exact newCells_nodup r _
theorem newCells_cell {a:Addr}{names:List (Str × NameKind)}:∀{h:Heap},a∈newCells h.objs.size names->(pushCells h names).IsCell a none:=by
 induction names with
 | nil=>intro h e;contradiction
 | cons x r ih=>
  intro h e
  obtain ⟨n,k⟩:=x
  unfold newCells at e
  unfold pushCells
  by_cases hk:(k==NameKind.cell)=true
  ·rw [if_pos hk] at e⊢
   rcases List.mem_cons.mp e with rfl| e
   ·exact ⟨{cls:=.type "cell",data:=.cell none},pushCells_keeps _ _ _ _ (Heap.get?_push_size _ rfl),rfl⟩
   ·exact ih (by rw [Heap.size_push];exact e)
  ·rw [if_neg hk] at e⊢
   exact ih e
theorem cellsFrom_mem {p:Str × Addr}:∀{names:List (Str × NameKind)} {n:Nat} {acc:List (Str × Addr)},p∈cellsFrom n names acc->(p.2∈newCells n names/\(p.1,NameKind.cell)∈names)\/p∈acc
 | [],n,acc,h=>.inr h
 | (x,k)::r,n,acc,h=>by
  unfold cellsFrom at h
  unfold newCells
  split at h
  ·rename_i hk
   rw [if_pos hk]
   rcases cellsFrom_mem h with ⟨h1,h2⟩| h
   ·exact .inl ⟨List.mem_cons_of_mem _ h1,List.mem_cons_of_mem _ h2⟩
   ·rcases List.mem_cons.mp h with rfl| h
    ·exact .inl ⟨List.mem_cons_self,by exact (beq_iff_eq.mp hk)▸List.mem_cons_self⟩
    ·exact .inr h
  ·rename_i hk
   rw [if_neg hk]
   exact (cellsFrom_mem h).imp (fun z=>⟨z.1,List.mem_cons_of_mem _ z.2⟩) id
theorem cellsFrom_has {x:Str}:∀{names:List (Str × NameKind)} {n:Nat} {acc:List (Str × Addr)},((x,NameKind.cell)∈names\/∃a,acc.lookup x=some a)->∃a,(cellsFrom n names acc).lookup x=some a
 | [],n,acc,h=>h.elim (fun h=>nomatch h) id
 | (y,k)::r,n,acc,h=>by
  unfold cellsFrom
  split
  ·rename_i hk
   refine cellsFrom_has ?_
   rcases h with h| ⟨a,h⟩
   ·rcases List.mem_cons.mp h with e| h
    ·injection e with e;subst e
     exact .inr ⟨n,by simp⟩
    ·exact .inl h
   ·exact .inr ((fun {a}=>by
   dsimp only [List.lookup_cons]
   by_cases q:(x==y)=true
   ·exact .inl ⟨by simp only [q],beq_iff_eq.mp q⟩
   ·exact .inr (by simp only [q]):∀{a},(List.lookup x ((y,a)::acc)=some a/\x=y)\/List.lookup x ((y,a)::acc)=acc.lookup x).elim (fun z=>⟨_,z.1⟩) fun z=>⟨a,z.trans h⟩)
  ·rename_i hk
   refine cellsFrom_has (h.imp (fun h=> ?_) id)
   rcases List.mem_cons.mp h with e| h
   ·cases e;exact absurd rfl hk
   ·exact h
theorem cellsFrom_look {x:Str}:∀{names:List (Str × NameKind)} {n:Nat} {acc:List (Str × Addr)} {a:Addr},(cellsFrom n names acc).lookup x=some a->(a∈newCells n names/\(x,NameKind.cell)∈names)\/((x,NameKind.cell)∉names/\acc.lookup x=some a)
 | [],n,acc,a,h=>.inr ⟨fun z=>(nomatch z),h⟩
 | (y,k)::r,n,acc,a,h=>by
  unfold cellsFrom at h
  unfold newCells
  split at h
  ·rename_i hk
   rw [if_pos hk]
   rcases cellsFrom_look h with ⟨h1,h2⟩| ⟨h1,h⟩
   ·exact .inl ⟨List.mem_cons_of_mem _ h1,List.mem_cons_of_mem _ h2⟩
   ·dsimp only [List.lookup_cons] at h
    by_cases q:(x==y)=true
    ·simp only [q] at h;obtain rfl:=Option.some.inj h
     exact .inl ⟨List.mem_cons_self,by rw [beq_iff_eq.mp hk,beq_iff_eq.mp q];exact List.mem_cons_self⟩
    ·simp only [q] at h
     refine .inr ⟨fun z=> ?_,h⟩
     rcases List.mem_cons.mp z with e| z
     ·injection e with e;subst e;exact q (beq_self_eq_true _)
     ·exact h1 z
  ·rename_i hk
   rw [if_neg hk]
   rcases cellsFrom_look h with ⟨h1,h2⟩| ⟨h1,h⟩
   ·exact .inl ⟨h1,List.mem_cons_of_mem _ h2⟩
   ·refine .inr ⟨fun z=> ?_,h⟩
    rcases List.mem_cons.mp z with e| z
    ·cases e;exact absurd rfl hk
    ·exact h1 z
theorem cellsFrom_pair:∀{names:List (Str × NameKind)} {n:Nat} {acc:List (Str × Addr)},(acc.Pairwise fun x y=>x.2≠y.2)->(∀p∈acc,p.2<n)->(cellsFrom n names acc).Pairwise fun x y=>x.2≠y.2
 | [],n,acc,h,_=>h
 | (y,k)::r,n,acc,h,hl=>by
  unfold cellsFrom
  split
  ·refine cellsFrom_pair (List.pairwise_cons.mpr ⟨fun p hp z=>Nat.ne_of_lt (hl p hp) z.symm,h⟩) fun p hp=> ?_
   rcases List.mem_cons.mp hp with rfl| hp
   ·exact Nat.lt_succ_self _
   ·exact Nat.lt_succ_of_lt (hl p hp)
  ·exact cellsFrom_pair h hl
theorem mem_kind {x:Str}{k:NameKind}:∀{l:List (Str × NameKind)},l.lookup x=some k->(x,k)∈l
 | (y,q)::r,h=>by
  dsimp only [List.lookup_cons] at h
  by_cases q:(x==y)=true
  ·simp only [q] at h;obtain rfl:=Option.some.inj h;exact (beq_iff_eq.mp q)▸List.mem_cons_self
  ·simp only [q] at h;exact List.mem_cons_of_mem _ (mem_kind h)
theorem lookup_mem:∀{l:List (Str × NameKind)},(l.map (·.1)).Nodup->∀x∈l,l.lookup x.1=some x.2
 | y::r,nd,x,hx=>by
  rw [List.map_cons,List.nodup_cons] at nd
  rcases List.mem_cons.mp hx with rfl| hx2
  ·obtain ⟨a,b⟩:=x;simp
  ·obtain ⟨ya,yb⟩:=y
   dsimp only [List.lookup_cons]
   have:(x.1==ya)=false:=by
    rw [beq_eq_false_iff_ne]
    intro z;exact nd.1 (List.mem_map.mpr ⟨x,hx2,z⟩)
   exact this▸lookup_mem nd.2 x hx2
theorem lookup_relabel_cell {env:Env}:∀{names:List (Str × NameKind)} {x:Str},names.lookup x=some .cell->
  (names.map fun (n,k)=>if (k==NameKind.free&&env.scope.kind==.function&&env.kindOf n==some .cell) then (n,NameKind.cell) else (n,k)).lookup x=some .cell
 | (n,k)::r,x,h=>by
  have ih:= @lookup_relabel_cell env r x
  show List.lookup x ((if (k==NameKind.free&&env.scope.kind==.function&&env.kindOf n==some .cell)=true then (n,NameKind.cell) else (n,k))::_)=_
  cases hx:x==n with
  | true=>
   simp only [List.lookup_cons,hx] at h
   obtain rfl:=Option.some.inj h
   simp [List.lookup_cons,hx]
  | false=>
   simp only [List.lookup_cons,hx] at h
   by_cases hc:(k==NameKind.free&&env.scope.kind==.function&&env.kindOf n==some .cell)=true
   ·rw [if_pos hc];simp only [List.lookup_cons,hx];exact ih h
   ·rw [if_neg hc];simp only [List.lookup_cons,hx];exact ih h
theorem Fm.comp {env:Env}{m:Vars}{fr K:List Addr}{h:Heap}{scope:Scope}{C n:Addr}(f:Fm env m fr K h)(hk:scope.kind=.function)(hC:C∈fr)(hns:h.Ns C fun _=>none)(hnd:(scope.names.map (·.1)).Nodup)(hcin:∀a∈newCells n scope.names,a∈fr/\a≠C/\h.IsCell a none)(hlt:∀p∈env.cells,p.2<n)
  (hfree:∀y∈scope.names,y.2=.free->∃a,env.cells.lookup y.1=some a) (hCc:∀p∈env.cells,p.2≠C) (hkind:∀x,scope.names.lookup x=some .free->env.kindOf x=some .cell\/env.kindOf x=some .free):Fm (compEnvC scope (cellsFrom n scope.names (closOf env scope.names [])) C env) (capt scope m) fr K h:=by
 have look:∀x k,(relabel scope env).names.lookup x=some k->scope.names.lookup x=some k\/(k=.cell/\scope.names.lookup x=some .free):=by
  intro x k
  unfold relabel
  generalize scope.names=names
  induction names with
  | nil=>intro h;contradiction
  | cons y r ih=>
   obtain ⟨n,kk⟩:=y
   intro h
   simp only [List.map_cons] at h
   by_cases hc:(kk==NameKind.free&&env.scope.kind==.function&&env.kindOf n==some .cell)=true
   ·rw [if_pos hc] at h
    dsimp only [List.lookup_cons] at h
    by_cases q:(x==n)=true
    ·simp only [q] at h;obtain rfl:=Option.some.inj h
     refine .inr ⟨rfl,?_⟩
     simp only [List.lookup_cons,q]
     simp only [Bool.and_eq_true,beq_iff_eq] at hc
     exact congrArg _ (hc.1.1 ..)
    ·simp only [q] at h
     rcases ih h with z| z
     ·exact .inl (by dsimp only [List.lookup_cons];simp only [q];exact z)
     ·exact .inr ⟨z.1,by dsimp only [List.lookup_cons];simp only [q];exact z.2⟩
   ·rw [if_neg hc] at h
    replace h:=(List.lookup_cons ..).symm.trans h
    by_cases q:(x==n)=true
    ·simp only [q] at h;obtain rfl:=Option.some.inj h;exact .inl (by simp only [List.lookup_cons,q])
    ·simp only [q] at h
     rcases ih h with z| z
     ·exact .inl (by dsimp only [List.lookup_cons];simp only [q];exact z)
     ·exact .inr ⟨z.1,by dsimp only [List.lookup_cons];simp only [q];exact z.2⟩
 have capt_look:∀(l:Vars) x d,(capt scope l).lookup x=some d->l.lookup x=some d/\scope.names.lookup x=some .free:=by
  intro l
  induction l with
  | nil=>intro x d h;contradiction
  | cons p r ih=>
   intro x d h
   obtain ⟨y,dy⟩:=p
   unfold capt at h
   rw [List.filter_cons] at h
   by_cases hf:(scope.names.lookup y==some NameKind.free)=true
   ·rw [if_pos hf,lookup_cons_eq] at h
    by_cases q:x=y
    ·subst q;replace h:=(if_pos rfl ..).symm.trans h;obtain rfl:=Option.some.inj h
     exact ⟨by exact (lookup_cons_eq ..).trans (if_pos rfl ..),by simpa using hf⟩
    ·rw [if_neg q] at h
     have:=ih x d h
     exact ⟨by rw [lookup_cons_eq,if_neg q];exact this.1,this.2⟩
   ·rw [if_neg hf] at h
    have:=ih x d h
    have q:x≠y:=fun z=>hf (by rw [<-z,this.2];rfl)
    exact ⟨by rw [lookup_cons_eq,if_neg q];exact this.1,this.2⟩
 have clmem:∀p∈closOf env scope.names [],env.cells.lookup p.1=some p.2:=fun p hp=>(closOf_mem _ _ hp).resolve_left (by simp)
 exact {
  kind:=hk
  glob:=f.glob
  bui:=f.bui
  ns:=⟨_,hns,fun x d e k=>by
   have h1:=(capt_look m x d e).2
   rcases look x .local k with z| z
   ·replace z:=(h1 ..).symm.trans z;cases z
   ·cases z.1⟩
  cell:=fun x cc e=>by
   rcases cellsFrom_look e with ⟨hn,hx⟩| ⟨_,e⟩
   ·refine ⟨none,(hcin _ hn).2.2,fun d ed k=> ?_⟩
    have:=(capt_look m x d ed).2.symm.trans (lookup_mem hnd _ hx);cases this
   have e':env.cells.lookup x=some cc:=(closOf_lookup _ _ e).resolve_left (by simp)
   obtain ⟨ov,hc,r⟩:=f.cell x cc e'
   refine ⟨ov,hc,fun d ed k=> ?_⟩
   obtain ⟨h1,h2⟩:=capt_look m x d ed
   exact r d h1 (hkind x h2)
  has:=fun x k=>by
   have hf:scope.names.lookup x=some .free->∃c,(cellsFrom n scope.names (closOf env scope.names [])).lookup x=some c:=fun h2=>
    have hm:=mem_kind h2
    cellsFrom_has (.inr (closOf_has (hfree _ hm rfl) _ _ (.inl hm)))
   rcases k with k| k
   ·rcases look x .cell k with z| z
    ·exact cellsFrom_has (.inl (mem_kind z))
    ·exact hf z.2
   ·rcases look x .free k with z| z
    ·exact hf z
    ·exact hf z.2
  inn:=⟨hC,fun p hp=>by
   rcases cellsFrom_mem hp with z| hp
   ·exact (hcin _ z.1).1
   ·exact f.inn.2 p (mem_of_lookup (clmem p hp))⟩
  apart:=⟨cellsFrom_pair (closOf_pair f.apart.1 _ _ hnd (by simp) (by simp) List.Pairwise.nil) fun p hp=>hlt p (mem_of_lookup (clmem p hp)),fun p hp=>by
   rcases cellsFrom_mem hp with z| hp
   ·exact (hcin _ z.1).2.1
   ·exact hCc p (mem_of_lookup (clmem p hp))⟩}
noncomputable abbrev NoX:Addr->Sto->Prop:=fun _ _=>False
theorem Ex.no {c:Cx}{A:Around}{G:Option Env}{fr:List Addr}{σ:Sto}{s s':Shared}{t:Bool}{v:Value}(x:Ex c A G fr σ s t NoX v s'):False:=nomatch x
section
variable {c:Cx} {A:Around} {fr:List Addr} {σ:Sto} {X:Addr->Sto->Prop} {env:Env} {m:Vars}
noncomputable def WIfs (c:Cx)(A:Around)(fr:List Addr)(env:Env)(m:Vars)(σ:Sto)(ifs:List Expr)(Q:Bool->Sto->Prop)(X:Addr->Sto->Prop):Prop:=
 ∀s,Ok c A fr σ s.heap->Fm env m fr (keys σ++fr) s.heap->W c A none fr σ (forIn ifs true fun c r=>if r=true then do let ok<-isTrue c env (eval c env);pure (ForInStep.yield ok) else pure (ForInStep.yield r)) RB Q X s
theorem WIfs.nil {Q:Bool->Sto->Prop}(h:Q true σ):WIfs c A fr env m σ [] Q X:=fun s ok fm=>wpAny_tests_nil ⟨true,σ,Post.refl ..,ok,rfl,h⟩
theorem WIfs.one {e:Expr}{Q:Bool->Sto->Prop}(h:WT c A fr env m σ e Q X):WIfs c A fr env m σ [e] Q X:=fun s ok fm=>wpAny_tests_one (h s ok fm)
theorem Fm.sub {env:Env}{m m':Vars}{fr K:List Addr}{h:Heap}(f:Fm env m fr K h)(hs:∀x d,m'.lookup x=some d->m.lookup x=some d):Fm env m' fr K h where
 kind:=f.kind
 glob:=f.glob
 bui:=f.bui
 ns:=by obtain ⟨mv,hn,r⟩:=f.ns;exact ⟨mv,hn,fun x d e k=>r x d (hs x d e) k⟩
 cell:=fun x cc e=>by obtain ⟨ov,hc,r⟩:=f.cell x cc e;exact ⟨ov,hc,fun d e k=>r d (hs x d e) k⟩
 has:=f.has
 inn:=f.inn
 apart:=f.apart
theorem lookup_append_none {x:Str}:∀{a b:Vars},(∀p∈a,p.1≠x)->(a++b).lookup x=b.lookup x
 | [],_,_=>rfl
 | (y,d)::r,b,h=>by
  rw [List.cons_append,lookup_cons_eq,if_neg (fun z=>h _ List.mem_cons_self z.symm)]
  exact lookup_append_none fun p hp=>h p (List.mem_cons_of_mem _ hp)
theorem capt_free {scope:Scope}{x:Str}{d:D}:∀{m:Vars},(capt scope m).lookup x=some d->scope.names.lookup x=some .free
 | [],h=>by contradiction
 | (y,dy)::r,h=>by
  unfold capt at h
  rw [List.filter_cons] at h
  by_cases hf:(scope.names.lookup y==some NameKind.free)=true
  ·rw [if_pos hf,lookup_cons_eq] at h
   by_cases q:x=y
   ·subst q;simpa using hf
   ·rw [if_neg q] at h;exact capt_free (m:=r) h
  ·rw [if_neg hf] at h;exact capt_free (m:=r) h
structure FinC (c:Cx)(A:Around)(fr:List Addr)(σ:Sto)(s s':Shared)(σ':Sto)(ds:List D)(a C:Addr):Prop where
 post:Post [] fr σ s s' σ'
 ok:Ok c A ([C,a]++fr) σ' s'.heap
 list:∃vs n,s'.heap.get? a=some (lstObj vs n)/\Vs (keys σ'++([C,a]++fr)) s'.heap ds vs
 newa:s.heap.get? a=none
 newC:s.heap.get? C=none
 ns:∃m',s'.heap.Ns C m'
 frames:∀l,A.frames=some l->∀b∈l.filterMap (·.frame),b∈fr
noncomputable def lk:Option NameKind->Bool
 | some .local=>true
 | some .cell=>true
 | _=>false
theorem lk_or {o:Option NameKind}(h:lk o=true):o=some .local\/o=some .cell:=by
 cases o with
 | none=>contradiction
 | some k=>cases k<;>first| exact .inl rfl| exact .inr rfl| contradiction
theorem wpNewEnv {M:Model}{E:Value->Shared->Prop}{s:Shared}{scope:Scope}{globals:Addr}{cl:List (Str × Addr)}{qual:Str}{Q:Env->Shared->Prop}
  (h:Q (newEnv scope s.heap.objs.size globals (cellsFrom (s.heap.objs.size+1) scope.names cl) qual none .none (some env) builtinsNs) {s with heap:=pushCells (s.heap.push {cls:=.type "dict",data:=.dict #[]}) scope.names}):
  wpAny M A (newFunctionEnv scope globals cl [] qual none .none (some env)) Q E s:=by
 simp only [newFunctionEnv,Option.isSome_some,if_true]
 refine wpAny_bind (wpAny_alloc (wpAny_bind (wpAny_layCells _ (fun name kind cells=>by cases hkc:kind==NameKind.cell<;>rfl) _ _ _ _ ?_)))
 refine wpAny_bind ?_
 refine wpAny_pure (wpAny_pure ?_)
 rw [show ({s with heap:=s.heap.push {cls:=.type "dict",data:=.dict #[]}}:Shared).heap.objs.size=s.heap.objs.size+1 from Heap.size_push ..]
 exact h
theorem Ok.swap {xs ys:List Addr}{h:Heap}(o:Ok c A (xs++(ys++fr)) σ h):Ok c A (ys++(xs++fr)) σ h:=by
 have hf:∀a,a∈xs++(ys++fr)↔a∈ys++(xs++fr):=fun a=>by simp only [List.mem_append];exact or_left_comm
 have hm:∀a,a∈keys σ++(xs++(ys++fr))↔a∈keys σ++(ys++(xs++fr)):=fun a=>List.mem_append.trans ((or_congr_right (hf a)).trans List.mem_append.symm)
 exact {
  base:=o.base
  sto:=fun p hp=>IsO.move (K:=keys σ++(xs++(ys++fr))) (fun _ _ _ e=>e) (fun a ha=>.inl ((hm a).mpr ha)) (fun _ e=>e) (o.sto p hp)
  nd:=by
   refine (List.Perm.nodup_iff ?_).mp o.nd
   refine List.Perm.append_left _ ?_
   rw [<-List.append_assoc,<-List.append_assoc]
   exact List.Perm.append_right _ List.perm_append_comm
  new:=fun a ha=>o.new a ((hm a).mpr ha)
  live:=fun a ha=>o.live a ((hf a).mpr ha)
  stack:=by
   obtain ⟨l,a1,a2,a3,a4⟩:=o.stack
   exact ⟨l,a1,a2,fun b hb=>(hf b).mp (a3 b hb),a4⟩}
theorem Fm.carry {K K':List Addr}{h h':Heap}(f:Fm env m fr K h)(keep:∀b∈Fa env,∀o,h.get? b=some o->h'.get? b=some o)(st:Stay K h h')(le:Less K K' h):Fm env m fr K' h' where
 kind:=f.kind
 glob:=f.glob
 bui:=f.bui
 ns:=by
  obtain ⟨mv,⟨o,es,ep,g,r⟩,q⟩:=f.ns
  exact ⟨mv,⟨o,es,ep,keep _ List.mem_cons_self _ g,r⟩,fun x d e k=>by obtain ⟨v,a,b⟩:=q x d e k;exact ⟨v,a,V.move st le _ _ b⟩⟩
 cell:=fun x cc e=>by
  obtain ⟨ov,⟨o,g,r⟩,q⟩:=f.cell x cc e
  exact ⟨ov,⟨o,keep _ (List.mem_cons_of_mem _ (List.mem_map_of_mem (f:=(·.2)) (mem_of_lookup e))) _ g,r⟩,fun d e k=>by obtain ⟨v,a,b⟩:=q d e k;exact ⟨v,a,V.move st le _ _ b⟩⟩
 has:=f.has
 inn:=f.inn
 apart:=f.apart
theorem Post.same {F:List Addr}{s s':Shared}{σ':Sto}(p:Post F fr σ s s' σ'){b:Addr}{o:Obj}(hb:b∈fr)(hF:b∉F)(hn:∀es n,o.data≠.dict es n)(g:s.heap.get? b=some o):s'.heap.get? b=some o:=by
 obtain ⟨sl,e1,r1⟩:=p.slots b _ hb hF g
 have:=r1 hn
 subst this;exact e1
set_option maxHeartbeats 1000000 in
inductive Turns (c:Cx)(A:Around)(env:Env)(m:Vars)(scope:Scope)(ifs:List Expr)(elt:Expr)(Z:List D->Sto->Prop)(vals:List Vars)(Inv:Sto->Prop)(σ1:Sto):Prop
 | mk (hk:∀x∈vals,∀y∈x,lk (scope.names.lookup y.1)=true) (L:Nat->List D->Sto->Prop) (h0:L 0 [] σ1) (hinv:∀k ds σ',L k ds σ'->Inv σ'/\ds.length<=sizeLine)
   (step:∀k x ds σ',vals[k]? =some x->L k ds σ'->∀fr' cenv,cenv.scope=relab scope env.scope->WIfs c A fr' cenv (x++capt scope m) σ' ifs (fun b σ2=>if b=true then WE c A fr' cenv (x++capt scope m) σ2 elt (fun d σ3=>L (k+1) (ds++[d]) σ3) NoX else L (k+1) ds σ2) NoX)
   (fin:∀ds σ',L vals.length ds σ'->Z ds σ'):Turns c A env m scope ifs elt Z vals Inv σ1
inductive CompI (c:Cx)(A:Around)(frw F:List Addr)(σ1:Sto)(s3:Shared)(cenv:Env)(m0:Vars)(n:Nat)(L:Nat->List D->Sto->Prop)(St:Nat->List Addr->Heap->Prop)(a:Addr)(k:Nat)(s':Shared):Prop
 | mk (i:Nat) (ds:List D) (σ':Sto) (vs:List Value) (j:Nat) (e:k=n+1-i) (hi:i<=n) (hL:L i ds σ') (pp:Post F frw σ1 s3 s' σ') (ok:Ok c A frw σ' s'.heap) (fm:Fm cenv m0 frw (keys σ'++frw) s'.heap) (st:St i (keys σ'++frw) s'.heap) (g:s'.heap.get? a=some (lstObj vs j)) (v:Vs (keys σ'++frw) s'.heap ds vs):CompI c A frw F σ1 s3 cenv m0 n L St a k s'
theorem comp_core {tg iter elt:Expr}{ifs:List Expr}{scope:Scope}{pos p:Pos}{use:Option (Value->Sem Unit)}{Q:Value->Shared->Prop}{E:Value->Shared->Prop}{s:Shared}(ok:Ok c A fr σ s.heap)(fm:Fm env m fr (keys σ++fr) s.heap)
  (hkS:scope.kind=.function) (hnd:(scope.names.map (·.1)).Nodup) (hfree:∀y∈scope.names,y.2=.free->env.kindOf y.1=some .cell\/env.kindOf y.1=some .free)
  (hE:∀v s',Ex c A none fr σ s false X v s'->E v s')
  {Z:List D->Sto->Prop}
  (h:WIt c A fr env m σ iter tg (Turns c A env m scope ifs elt Z) X)
  (hend:∀s' σ' ds a C,FinC c A fr σ s s' σ' ds a C->Z ds σ'->compPost (model c.prog c.w) A E use Q (.ref a) C (.ok .next) s')
  (hs:∀x,foldedSetIterable iter env x=pure x:=by intro _;rfl):
  wpAny (model c.prog c.w) A (comprehension (.ListComp elt [⟨tg,iter,ifs,0⟩] scope pos) scope env p (newList []) false (eval iter env) use) Q E s:=by
 have hin:=ok.frames_in
 have hfree':=fun y hy hf=>fm.has y.1 (hfree y hy hf)
 refine wpAny_comprehension_free (use:=use) rfl hs (closureFor_eq hfree') hkS (fun x hx hl=>hl▸lookup_mem hnd x hx) (wpAny_mono (h s ok fm) (fun xv s1 h1=>wpAny_mono h1 (fun it s2 h2=> ?_) fun _ _ x=>hE _ _ x) fun _ _ x=>hE _ _ x)
 obtain ⟨I,wr,vals,Inv,St,Mid,σ1,rfl,p1,ok1,okw,hn,fmw,src,st0,inv0,hkinds,L,L0,LI,Lturn,Lend⟩:=h2
 refine wpAny_newObj_type (wpNewEnv ?_)
 generalize hD:s2.heap.objs.size=D
 generalize hH2:s2.heap.push {cls:=.type "list",dict:=none,data:=.seq ([]:List Value).toArray}=H2
 have hCs:H2.objs.size=D+1:=by rw [<-hH2,Heap.size_push,hD]
 have hns3:(pushCells (H2.push {cls:=.type "dict",data:=.dict #[]}) scope.names).Ns H2.objs.size fun _=>none:=(Heap.Ns.new H2 (.type "dict")).keeps (pushCells_keeps _ _)
 have cellN:∀a∈newCells (H2.objs.size+1) scope.names,(pushCells (H2.push {cls:=.type "dict",data:=.dict #[]}) scope.names).IsCell a none:=fun a ha=>newCells_cell (by rw [Heap.size_push];exact ha)
 have keep23:∀b o,s2.heap.get? b=some o->(pushCells (H2.push {cls:=.type "dict",data:=.dict #[]}) scope.names).get? b=some o:=fun b o e=>pushCells_keeps _ _ _ _ (Heap.get?_push_of_some _ (hH2▸Heap.get?_push_of_some _ e))
 have accD:(pushCells (H2.push {cls:=.type "dict",data:=.dict #[]}) scope.names).get? D=some (lstObj [] 0):=pushCells_keeps _ _ _ _ (Heap.get?_push_of_some _ (by rw [<-hH2,<-hD];exact Heap.get?_push_size _ rfl))
 generalize pushCells (H2.push {cls:=.type "dict",data:=.dict #[]}) scope.names=h3 at hns3 cellN keep23 accD⊢
 generalize hC:H2.objs.size=C at hns3 hCs cellN⊢
 have hCD:C≠D:=by rw [hCs];exact Nat.succ_ne_self D
 have geN:∀a∈newCells (C+1) scope.names,C<a:=fun a ha=>newCells_ge ha
 have ndN:=newCells_nodup scope.names (C+1)
 generalize hCN:newCells (C+1) scope.names=CN at cellN geN ndN
 have hDC:D<C:=hCs▸Nat.lt_succ_self D
 obtain ⟨W,hW⟩:∃W,W=C::D::CN:=⟨_,rfl⟩
 have WC:C∈W:=hW▸List.mem_cons_self
 have WD:D∈W:=hW▸List.mem_cons_of_mem _ List.mem_cons_self
 have WN:∀a∈CN,a∈W:=fun a ha=>hW▸List.mem_cons_of_mem _ (List.mem_cons_of_mem _ ha)
 have noneW:∀a∈W,s2.heap.get? a=none:=fun a ha=>none_of_ge (by
  rw [hD]
  rw [hW] at ha
  rcases List.mem_cons.mp ha with rfl| ha
  ·exact Nat.le_of_lt hDC
  ·rcases List.mem_cons.mp ha with rfl| ha
   ·exact Nat.le_refl _
   ·exact Nat.le_of_lt (Nat.lt_trans hDC (geN a ha)))
 have liveW:∀a∈W,∃o,h3.get? a=some o:=fun a ha=>by
  rw [hW] at ha
  rcases List.mem_cons.mp ha with rfl| ha
  ·obtain ⟨o,es,ep,g,_⟩:=id hns3;exact ⟨o,g⟩
  ·rcases List.mem_cons.mp ha with rfl| ha
   ·exact ⟨_,accD⟩
   ·obtain ⟨o,g,_⟩:=cellN a ha;exact ⟨o,g⟩
 have ndW:W.Nodup:=by
  rw [hW]
  refine List.nodup_cons.mpr ⟨fun z=> ?_,List.nodup_cons.mpr ⟨fun z=>Nat.lt_irrefl _ (Nat.lt_trans hDC (geN D z)),ndN⟩⟩
  rcases List.mem_cons.mp z with z| z
  ·exact hCD z
  ·exact Nat.lt_irrefl _ (geN C z)
 have okL:=(okw.more keep23 noneW liveW ndW).swap
 have lessCD:Less (keys σ1++(wr++fr)) (keys σ1++(wr++(W++fr))) s2.heap:=fun a ha=>by
  rcases List.mem_append.mp ha with z| z
  ·exact .inl (List.mem_append_left _ z)
  ·rcases List.mem_append.mp z with z| z
   ·exact .inl (List.mem_append_right _ (List.mem_append_left _ z))
   ·rcases List.mem_append.mp z with z| z
    ·exact .inr (noneW a z)
    ·exact .inl (List.mem_append_right _ (List.mem_append_right _ z))
 have stay23:Stay (keys σ1++(wr++fr)) s2.heap h3:=fun b o _ e=>keep23 b o e
 have fm3:Fm env m (wr++(W++fr)) (keys σ1++(wr++(W++fr))) h3:=by
  have fb:=fmw.carry (fun b _ o e=>keep23 b o e) stay23 lessCD
  exact fb.shift ⟨List.mem_append_right _ (List.mem_append_right _ fm.inn.1),fun q hq=>List.mem_append_right _ (List.mem_append_right _ (fm.inn.2 q hq))⟩ (fun a ha=>.inl ha)
 have oldlt:∀q∈env.cells,q.2<D:=fun q hq=>by
  obtain ⟨o,e⟩:=ok1.live q.2 (fm.inn.2 q hq)
  exact hD▸Heap.lt_size e
 have fmC:=fm3.comp (C:=C) (n:=C+1) hkS (List.mem_append_right _ (List.mem_append_left _ WC)) hns3 hnd (fun a ha=>by
  rw [hCN] at ha
  exact ⟨List.mem_append_right _ (List.mem_append_left _ (WN a ha)),Nat.ne_of_gt (geN a ha),cellN a ha⟩) (fun p hp=>Nat.lt_succ_of_lt (Nat.lt_trans (oldlt p hp) hDC)) hfree' (fun q hq=>Nat.ne_of_lt (Nat.lt_trans (oldlt q hq) hDC)) (fun x hx=>by
  exact hfree _ (mem_kind hx) rfl)
 have st3:St 0 (keys σ1++(wr++(W++fr))) h3:=src.move _ _ _ _ _ st0 stay23 (fun b _ o e=>keep23 b o e) lessCD
 have hnS:∀a∈wr++W,s.heap.get? a=none:=fun a ha=>by
  rcases List.mem_append.mp ha with z| z
  ·exact hn a z
  ·exact none_back p1 (noneW a z)
 generalize hce:compEnvC scope (cellsFrom (C+1) scope.names (closOf env scope.names [])) C env=cenv at fmC
 have ce1:cenv.scope=relab scope env.scope:=by rw [<-hce];rfl
 have ce2:cenv.locals=C:=by rw [<-hce];rfl
 have ceq:({newEnv scope C env.globals (cellsFrom (C+1) scope.names (closOf env scope.names [])) env.qual none Value.none (some env) builtinsNs with scope:=relabel scope env}:Env)=cenv:=by rw [<-hce];rfl
 have kindL:∀x,lk (scope.names.lookup x)=true->cenv.kindOf x=some .local\/cenv.kindOf x=some .cell:=fun x hx=>by
  rw [<-hce]
  exact (lk_or hx).imp lookup_relabel_local lookup_relabel_cell
 have cellL:∀q∈cenv.cells,q.2∈CN\/env.cells.lookup q.1=some q.2:=fun q hq=>by
  rw [<-hce] at hq
  rcases cellsFrom_mem hq with z| z
  ·exact .inl (hCN▸z.1)
  ·exact .inr ((closOf_mem _ _ z).resolve_left (by simp))
 have putL:∀x,lk (scope.names.lookup x)=true->cenv.kindOf x=some .cell->∀cc,cenv.cells.lookup x=some cc->cc∈CN:=fun x hx hc cc e=>by
  rw [<-hce] at hc e
  rcases lk_or hx with z| z
  ·have:=(lookup_relabel_local (env:=env) z).symm.trans hc;cases this
  ·rcases cellsFrom_look e with z'| z'
   ·exact hCN▸z'.1
   ·exact absurd (mem_kind z) z'.1
 have loop:∀s3:Shared,s3={s2 with heap:=h3,toks:=s2.toks}->
   codeAny (model c.prog c.w) A (.compLoop (.ListComp elt [⟨tg,iter,ifs,0⟩] scope pos) 0 (.ref I) (.ref D) cenv) (compPost (model c.prog c.w) A E use Q (.ref D) C) s3:=by
  rintro s3 rfl
  generalize hs3:({s2 with heap:=h3,toks:=s2.toks}:Shared)=s3
  have h3e:s3.heap=h3:=by rw [<-hs3]
  have p13:Post [] fr σ s s3 σ1:=p1.trans (by rw [<-hs3];exact Post.keeps keep23)
  have ndw:=okL.nd
  rw [List.nodup_append,List.nodup_append] at ndw
  have nfw:∀a∈W++fr,a∉wr:=fun a ha hw=>ndw.2.1.2.2 a hw a ha rfl
  have cin:cenv.locals∈W++fr/\∀q∈cenv.cells,q.2∈W++fr:=by
   refine ⟨by rw [ce2];exact List.mem_append_left _ WC,fun q hq=> ?_⟩
   rcases cellL q hq with z| z
   ·exact List.mem_append_left _ (WN _ z)
   ·exact List.mem_append_right _ (fm.inn.2 q (mem_of_lookup z))
  have cloc:cenv.locals∉wr/\∀q∈cenv.cells,q.2∉wr:=⟨nfw _ cin.1,fun q hq=>nfw _ (cin.2 q hq)⟩
  have hDfa:D∉Fa cenv:=fun z=>by
   rcases List.mem_cons.mp z with z| z
   ·exact hCD (z▸ce2).symm
   ·obtain ⟨q,hq,e⟩:=List.mem_map.mp z
    rcases cellL q hq with z| z
    ·exact Nat.lt_irrefl _ (Nat.lt_trans hDC (e▸geN _ z))
    ·exact Nat.ne_of_lt (oldlt _ (mem_of_lookup z)) e
  have hDwr:D∉wr:=nfw D (List.mem_append_left _ WD)
  have hcapt:∀(x:Vars),(∀y∈x,lk (scope.names.lookup y.1)=true)->∀z d,(capt scope m).lookup z=some d->(x++capt scope m).lookup z=some d:=fun x hx z d e=>by
   have hf:=capt_free e
   rw [lookup_append_none (fun p hp q=>by have:=hx p hp;rw [q,hf] at this;cases this)];exact e
  refine codeAny_compLoopT (CompI c A (wr++(W++fr)) (wr++W) σ1 s3 cenv (capt scope m) vals.length L St D)
   ?_ (vals.length+1) ⟨0,[],σ1,[],0,rfl,Nat.zero_le _,L0,Post.refl ..,h3e▸okL,h3e▸fmC,h3e▸st3,h3e▸accD,Vs.nil⟩
  rintro k s' ⟨i,ds,σ',vs,n,rfl,hi,hL,pp,okk,fmk,stk,gD,vD⟩
  by_cases hlt:i<vals.length
  ·obtain ⟨x,hx⟩:∃x,vals[i]? =some x:=⟨vals[i],by simp [hlt]⟩
   have hxl:=hkinds x (List.mem_of_getElem? hx)
   refine src.next i σ' (W++fr) s' _ _ hlt okk stk (LI _ _ _ hL).1 fun v h' tk hmid how=> ?_
   have ok':Ok c A (wr++(W++fr)) σ' h':=okk.ow (src.nodict _ _ _ stk) how
   have fm':Fm cenv (capt scope m) (wr++(W++fr)) (keys σ'++(wr++(W++fr))) h':=fmk.ow (fun b hb=>List.mem_append_right _ (List.mem_append_left _ hb)) cloc how
   have wide:∀a∈wr++(C::CN),a∈wr++W:=fun a ha=>by
    rcases List.mem_append.mp ha with z| z
    ·exact List.mem_append_left _ z
    ·refine List.mem_append_right _ ?_
     rcases List.mem_cons.mp z with rfl| z
     ·exact WC
     ·exact WN a z
   have pp':=pp.trans ((Post.ow (F:=C::CN) (fr:=W++fr) (σ:=σ') (tk:=tk) how).wide wide)
   have gD':h'.get? D=some (lstObj vs n):=how.kept _ _ hDwr gD
   have stK:Stay (keys σ'++(wr++(W++fr))) s'.heap h':=fun b o nb e=>how.kept b o (fun z=>nb (List.mem_append_right _ (List.mem_append_left _ z))) e
   have vD':Vs (keys σ'++(wr++(W++fr))) h' ds vs:=Vs.move stK (fun a ha=>.inl ha) _ _ vD
   refine src.put i σ' (W++fr) (C::CN) cenv (capt scope m) v {s' with heap:=h',toks:=tk} _ _ x hx hmid ok' fm' cin (fun y hy=>kindL _ (hxl y hy)) ⟨by rw [ce2];simp,fun y hy k cc e=>List.mem_cons_of_mem _ (putL _ (hxl y hy) k cc e)⟩ (src.midnd _ _ _ _ hmid) fun h4 tk4 st4 fm4 ok4 p4=> ?_
   have pp4:=pp'.trans (p4.wide wide)
   have gD4:h4.get? D=some (lstObj vs n):=p4.same (List.mem_append_right _ (List.mem_append_left _ WD)) (fun z=>(List.mem_append.mp z).elim hDwr fun z=>(List.mem_cons.mp z).elim (fun z=>hCD z.symm) fun z=>Nat.lt_irrefl _ (Nat.lt_trans hDC (geN _ z))) (fun es nn q=>by cases q) gD'
   have vD4:=p4.vs vD'
   have fm4':=fm4.sub (m':=x++capt scope m) fun z d e=>e
   refine wpAny_mono (Lturn i x ds σ' hx hL _ cenv ce1 _ ok4 fm4') (fun b s5 hx5=> ?_) fun _ _ y=>y.no
   obtain ⟨b',σ5,p5,ok5,rfl,q5⟩:=hx5
   have fm5:Fm cenv (x++capt scope m) (wr++(W++fr)) (keys σ5++(wr++(W++fr))) s5.heap:=Fm.move (s:={s' with heap:=h4,toks:=tk4}) fm4' p5
   have pp5:=pp4.trans (p5.wide (F':=wr++W) (by simp))
   have hDin:D∈wr++(W++fr):=List.mem_append_right _ (List.mem_append_left _ WD)
   have gD5:s5.heap.get? D=some (lstObj vs n):=p5.same hDin (List.not_mem_nil) (fun es nn q=>by cases q) gD4
   have vD5:=p5.vs vD4
   have st5:St (i+1) (keys σ5++(wr++(W++fr))) s5.heap:=src.move _ _ _ _ _ st4 p5.stay (fun b hb o g=>p5.same (List.mem_append_left _ hb) List.not_mem_nil (src.nodict _ _ _ st4 b hb o g) g) p5.less
   cases b with
   | false=>
    simp only [Bool.false_eq_true,if_false] at q5⊢
    exact ⟨vals.length+1-(i+1),z598 hi,i+1,ds,σ5,vs,n,rfl,hlt,q5,pp5,ok5,fm5.sub (hcapt x hxl),st5,gD5,vD5⟩
   | true=>
    simp only [if_true] at q5⊢
    refine wpAny_mono (q5 s5 ok5 fm5) (fun y s6 hx6=> ?_) fun _ _ y=>y.no
    obtain ⟨d,σ6,p6,ok6,v6,q6⟩:=hx6
    have fm6:=fm5.move p6
    have pp6:=pp5.trans (p6.wide (F':=wr++W) (by simp))
    have gD6:s6.heap.get? D=some (lstObj vs n):=p6.same hDin List.not_mem_nil (fun es nn q=>by cases q) gD5
    have vD6:=p6.vs vD5
    have st6:St (i+1) (keys σ6++(wr++(W++fr))) s6.heap:=src.move _ _ _ _ _ st5 p6.stay (fun b hb o g=>p6.same (List.mem_append_left _ hb) List.not_mem_nil (src.nodict _ _ _ st5 b hb o g) g) p6.less
    have hlen:vs.length<=sizeLine:=by rw [vD.length];exact (LI _ _ _ hL).2
    refine wpAny_list_append_plain (hsz:=by simpa using hlen) ⟨n,gD6⟩ fun h7 pl7 sb7=> ?_
    obtain ⟨n7,g7⟩:=pl7
    have g7':h7.get? D=some (lstObj (vs++[y]) n7):=by simpa [lstObj] using g7
    have ok7:Ok c A (wr++(W++fr)) σ6 h7:=ok6.turn hDin sb7 g7' (by intro vs q;cases q) (fun ⟨o,es,nn,g,r⟩=>by rw [gD6] at g;cases g;cases r)
    have st67:Stay (keys σ6++(wr++(W++fr))) s6.heap h7:=fun b o nb e=>(sb7.2 b fun (z:b=D)=>nb (by rw [z];exact List.mem_append_right _ hDin)).trans e
    have pp7:Post (wr++W) (wr++(W++fr)) σ6 s6 {s6 with heap:=h7} σ6:={
     shape:=⟨h7,s6.toks,rfl⟩
     kept:=fun b o nb e=>st67 b o nb e
     slots:=fun b o hb nf e=>⟨o.slots,(sb7.2 b fun z=>nf (z▸List.mem_append_right _ WD)).trans e,fun _=>rfl⟩
     alive:=fun b o e=>by
      by_cases z:b=D
      ·subst z;exact ⟨_,g7'⟩
      ·exact ⟨o,(sb7.2 b z).trans e⟩
     grow:=fun _ h=>.inl h}
    have fm7:Fm cenv (x++capt scope m) (wr++(W++fr)) (keys σ6++(wr++(W++fr))) h7:=fm6.carry (fun b hb o e=>(sb7.2 b fun z=>hDfa (z▸hb)).trans e) st67 fun a ha=>.inl ha
    refine ⟨vals.length+1-(i+1),z598 hi,i+1,ds++[d],σ6,vs++[y],n7,rfl,hlt,q6,pp6.trans pp7,ok7,fm7.sub (hcapt x hxl),?_,g7',?_⟩
    ·exact src.move _ _ _ _ _ st6 st67 (fun b hb o e=>(sb7.2 b fun z=>hDwr (z▸hb)).trans e) (fun a ha=>.inl ha)
    ·exact (Vs.move st67 (fun a ha=>.inl ha) _ _ vD6).snoc (V.move st67 (fun a ha=>.inl ha) _ _ v6)
  ·obtain rfl:i=vals.length:=z599 hi hlt
   refine src.done σ' (W++fr) s' _ _ okk stk (LI _ _ _ hL).1 fun h' tk hk=> ?_
   have hin':∀l,A.frames=some l->∀b∈l.filterMap (·.frame),b∈W++fr:=fun l hl b hb=>List.mem_append_right _ (hin l hl b hb)
   have okf:Ok c A (W++fr) σ' h':=okk.fin hin' hk
   have stf:Stay (keys σ'++(wr++(W++fr))) s'.heap h':=fun b o nb e=>hk b o (fun z=>nb (List.mem_append_right _ (List.mem_append_left _ z))) e
   have okf':Ok c A ([C,D]++(CN++fr)) σ' h':=by rw [hW] at okf;exact okf
   refine hend _ σ' ds D C {post:= ?_,ok:=Ok.less (ex:=[C,D]) okf' hin,list:=⟨vs,n,hk _ _ hDwr gD,Vs.move stf (fun b hb=>.inl ?_) _ _ vD⟩,newa:=hnS D (List.mem_append_right _ WD),newC:=hnS C (List.mem_append_right _ WC),ns:= ?_,frames:=hin} (Lend _ _ hL)
   rotate_left
   ·rcases List.mem_append.mp hb with z| z
    ·exact List.mem_append_left _ z
    ·refine List.mem_append_right _ (List.mem_append_right _ ?_)
     rcases List.mem_append.mp z with z| z
     ·rcases List.mem_cons.mp z with rfl| z
      ·exact List.mem_append_left _ WC
      ·rw [List.mem_singleton.mp z];exact List.mem_append_left _ WD
     ·exact List.mem_append_right _ z
   rotate_left
   ·have pd:Post [] fr σ s s' σ':=by
     refine Post.drop (wr:=wr++W) p13 hnS ?_
     rw [show (wr++W)++fr=wr++(W++fr) from List.append_assoc ..]
     exact ⟨pp.shape,pp.kept,fun b o hb nf e=>pp.slots b o hb (fun q=>nf (by simpa using q)) e,pp.alive,pp.grow⟩
    exact pd.fin (wr:=wr) hn (fun a ha=>nfw a (List.mem_append_right _ ha)) hk
   ·obtain ⟨mv,⟨o,es,ep,g,r⟩,_⟩:=fmk.ns
    rw [ce2] at g
    exact ⟨mv,o,es,ep,hk _ _ (ce2▸cloc.1) g,r⟩
 show codeAny (model c.prog c.w) A (.compStart (.ListComp elt [⟨tg,iter,ifs,0⟩] scope pos) 0 (.ref I) (.ref D) {newEnv scope C env.globals (cellsFrom (C+1) scope.names (closOf env scope.names [])) env.qual none Value.none (some env) builtinsNs with scope:=relabel scope env}) _ _
 exact ceq▸codeAny_compStart_list (loop _ rfl) (src.self 0 _ _ _ _ st3 (loop _ rfl))
end
theorem Fm.fin {env:Env}{m:Vars}{fr wr:List Addr}{σ:Sto}{h h':Heap}(f:Fm env m (wr++fr) (keys σ++(wr++fr)) h)(hi:env.locals∈fr/\∀p∈env.cells,p.2∈fr)(hn:env.locals∉wr/\∀p∈env.cells,p.2∉wr)(k:∀b o,b∉wr->h.get? b=some o->h'.get? b=some o):Fm env m fr (keys σ++fr) h':=by
 have st:Stay (keys σ++(wr++fr)) h h':=fun b o n e=>k b o (fun z=>n (List.mem_append_right _ (List.mem_append_left _ z))) e
 exact {
  kind:=f.kind
  glob:=f.glob
  bui:=f.bui
  ns:=by
   obtain ⟨mv,⟨o,es,ep,g,r⟩,q⟩:=f.ns
   exact ⟨mv,⟨o,es,ep,k _ _ hn.1 g,r⟩,fun x d e k=>by obtain ⟨v,a,b⟩:=q x d e k;exact ⟨v,a,V.move st (less_drop _ _) _ _ b⟩⟩
  cell:=fun x cc e=>by
   obtain ⟨ov,⟨o,g,r⟩,q⟩:=f.cell x cc e
   exact ⟨ov,⟨o,k _ _ (hn.2 _ (mem_of_lookup e)) g,r⟩,fun d e k=>by obtain ⟨v,a,b⟩:=q d e k;exact ⟨v,a,V.move st (less_drop _ _) _ _ b⟩⟩
  has:=f.has
  inn:=hi
  apart:=f.apart}
theorem Ok.ref {c:Cx}{A:Around}{fr:List Addr}{σ:Sto}{h:Heap}{a:Addr}{ds:List D}{vs:List Value}{n:Nat}(ok:Ok c A ([a]++fr) σ h)(hin:∀l,A.frames=some l->∀b∈l.filterMap (·.frame),b∈fr)(g:h.get? a=some (lstObj vs n))(hv:Vs (keys σ++([a]++fr)) h ds vs):Ok c A fr ((a,.lst ds)::σ) h:=by
 have mem:∀b,b∈keys ((a,O.lst ds)::σ)++fr↔b∈keys σ++([a]++fr):=fun b=>by
  simp only [keys,List.map_cons,List.cons_append,List.mem_cons,List.mem_append,List.nil_append]
  constructor<;>(intro z;rcases z with z| z| z<;>simp [z])
 have nd:=ok.nd
 have ok1:Ok c A fr σ h:=Ok.less (ex:=[]) (wr:=[a]) ok hin
 exact {
  base:=ok.base
  sto:=fun p hp=>by
   rcases List.mem_cons.mp hp with rfl| hp
   ·exact ⟨vs,n,g,Vs.move (fun _ _ _ e=>e) (fun b hb=>.inl ((mem b).mp hb)) _ _ hv⟩
   ·exact IsO.move (fun _ _ _ e=>e) (fun b hb=>.inl ((mem b).mp hb)) (fun _ e=>e) (ok.sto p hp)
  nd:=by
   refine (List.Perm.nodup_iff ?_).mp nd
   show (keys σ++([a]++fr)).Perm (a::(keys σ++fr))
   simp
  new:=fun b hb=>ok.new b ((mem b).mp hb)
  live:=ok1.live
  stack:=ok1.stack}
section
variable {c:Cx} {A:Around} {fr:List Addr} {σ:Sto} {X:Addr->Sto->Prop} {env:Env} {m:Vars}
noncomputable def QL (Q:D->Sto->Prop)(ds:List D)(σ:Sto):Prop:=Q (.lst ds) σ\/∀a,a∉keys σ->Q (.ref a) ((a,.lst ds)::σ)
theorem QL.use {G:Option Env}{Q:D->Sto->Prop}{ds:List D}{σ':Sto}{s s':Shared}{a:Addr}{vs:List Value}{n:Nat}(q:QL Q ds σ')(p:Post (Fo G) fr σ s s' σ')(ok:Ok c A ([a]++fr) σ' s'.heap)(hin:∀l,A.frames=some l->∀b∈l.filterMap (·.frame),b∈fr)
  (g:s'.heap.get? a=some (lstObj vs n)) (hv:Vs (keys σ'++([a]++fr)) s'.heap ds vs) (hn:s.heap.get? a=none):Po c A G fr σ s V Q (.ref a) s':=by
 have nd:=ok.nd
 rw [List.nodup_append,List.nodup_append] at nd
 have hk:=fun z=>nd.2.2 a z a (by exact .head _) rfl
 rcases q with q| q
 ·refine ⟨.lst ds,σ',p,Ok.less (ex:=[]) (wr:=[a]) ok hin,?_,q⟩
  exact ⟨a,vs,n,rfl,fun z=>(List.mem_append.mp z).elim hk (fun z=>nd.2.1.2.2 a (by exact .head _) a z rfl),g,Vs.move (fun _ _ _ e=>e) (less_drop _ _) _ _ hv⟩
 ·refine ⟨.ref a,(a,.lst ds)::σ',⟨p.shape,p.kept,p.slots,p.alive,fun b hb=> ?_⟩,Ok.ref ok hin g hv,by rfl,q a hk⟩
  rcases List.mem_cons.mp hb with rfl| hb
  ·exact .inr hn
  ·exact p.grow b hb
noncomputable def freeOk (scope sc:Scope):Bool:=scope.names.all fun y=>y.2 !=.free|| (sc.names.lookup y.1==some .cell|| sc.names.lookup y.1==some .free)
noncomputable def compOk (scope:Scope):Bool:=scope.kind==.function&&decide (scope.names.map (·.1)).Nodup
theorem compOk_kind {scope:Scope}(h:compOk scope=true):scope.kind=.function/\(scope.names.map (·.1)).Nodup:=by
 unfold compOk at h
 simp only [Bool.and_eq_true,beq_iff_eq,decide_eq_true_eq] at h
 exact h
theorem freeOk_all {scope:Scope}{env:Env}(h:freeOk scope env.scope=true):∀y∈scope.names,y.2=.free->env.kindOf y.1=some .cell\/env.kindOf y.1=some .free:=fun y hy hf=>by
 unfold freeOk at h
 simp only [List.all_eq_true] at h
 have:=h y hy
 simp only [hf,bne_self_eq_false,Bool.false_or,Bool.or_eq_true,beq_iff_eq] at this
 exact this
theorem WE.comp {tg iter elt:Expr}{ifs:List Expr}{scope:Scope}{pos:Pos}{Q:D->Sto->Prop}(h:WIt c A fr env m σ iter tg (Turns c A env m scope ifs elt (QL Q)) X)(h1:compOk scope=true)(h2:freeOk scope env.scope=true)(hs:∀x,foldedSetIterable iter env x=pure x:=by intro _;rfl):
  WE c A fr env m σ (.ListComp elt [⟨tg,iter,ifs,0⟩] scope pos) Q X:=fun s ok fm=>by
 obtain ⟨k1,k2⟩:=compOk_kind h1
 refine comp_core (use:=none) ok fm k1 k2 (freeOk_all h2) (fun _ _ x=>x) h (fun s' σ' ds a C fin q=> ?_) hs
 obtain ⟨mv,hns⟩:=fin.ns
 refine ⟨mv,hns,fun h' sb=> ?_⟩
 have nd:=fin.ok.nd
 rw [List.nodup_append,List.nodup_append] at nd
 have hCa:C≠a:=by have:=nd.2.1.1;simp at this;exact this
 have hCf:∀b∈[a]++fr,b∉[C]:=fun b hb z=>by
  simp only [List.mem_singleton.mp z] at hb
  rcases List.mem_append.mp hb with z| z
  ·exact hCa (List.mem_singleton.mp z)
  ·exact nd.2.1.2.2 C (by exact .head _) C z rfl
 have kk:∀b o,b∉[C]->s'.heap.get? b=some o->h'.get? b=some o:=fun b o nb e=>(sb.2 b (fun z=>nb (by simp [z]))).trans e
 obtain ⟨vs,n,g,hv⟩:=fin.list
 have pf:Post [] fr σ s {s' with heap:=h',toks:=s'.toks} σ':=fin.post.fin (wr:=[C]) (fun b hb=>by exact (List.mem_singleton.mp hb)▸fin.newC) (fun b hb=>hCf b (List.mem_append_right _ hb)) kk
 exact QL.use (G:=none) (s':={s' with heap:=h',toks:=s'.toks}) q pf (Ok.fin (wr:=[C]) (fr:=[a]++fr) fin.ok (fun l hl b hb=>List.mem_append_right _ (fin.frames l hl b hb)) kk) fin.frames (kk _ _ (fun z=>hCa (List.mem_singleton.mp z).symm) g) (Vs.move (K:=keys σ'++([C,a]++fr)) (fun b o nb e=>kk b o (fun z=>nb (by simp only [List.mem_singleton.mp z];simp)) e) (less_drop (wr:=[C]) (fr:=[a]++fr) _ _) _ _ hv) fin.newa
set_option maxHeartbeats 1000000 in
theorem W1.assignComp {x:Str}{pos' pos:Pos}{tg iter elt:Expr}{ifs:List Expr}{scope:Scope}{cpos:Pos}{N:Vars->Sto->Prop}{R:D->Sto->Prop}(h:WIt c A fr env m σ iter tg (Turns c A env m scope ifs elt (QL fun d σ'=>N ((x,d)::m) σ')) X)(h1:compOk scope=true)(h2:freeOk scope env.scope=true)
  (hk:env.kindOf x=some .local) (hsw:swapsWith (.ListComp elt [⟨tg,iter,ifs,0⟩] scope cpos) (some (.Name x pos')) pos.line env=pure true) (hs:∀x,foldedSetIterable iter env x=pure x:=by intro _;rfl):
  W1 c A fr env m σ (.Assign [.Name x pos'] (.ListComp elt [⟨tg,iter,ifs,0⟩] scope cpos) pos) N R X:=fun s ok fm=>by
 obtain ⟨k1,k2⟩:=compOk_kind h1
 unfold W
 rw [exec_Assign_Name_used (hs:=hsw)]
 refine wpAny_bind (wpAny_standAt (wpAny_bind ?_))
 show wpAny _ A (do let _<-comprehension (.ListComp elt [⟨tg,iter,ifs,0⟩] scope cpos) scope env _ (newList []) false (eval iter env) (some (PySem.assign (.Name x pos') env))) _ _ s
 refine wpAny_bind (wpAny_mono (comp_core (use:=some (PySem.assign (.Name x pos') env)) (E:=Ex c A (some env) fr σ s false X) (Q:=fun _ s'=>Po c A (some env) fr σ s (RO env fr) (QO N R) .next s') ok fm k1 k2 (freeOk_all h2) (fun _ _ x=>x.wide fm) h (fun s' σ' ds a C fin q=> ?_) hs) (fun _ s' hq=>wpAny_pure (wpAny_pure hq)) fun _ _ e=>e)
 have nd:=fin.ok.nd
 rw [List.nodup_append,List.nodup_append] at nd
 have hCa:C≠a:=by have:=nd.2.1.1;simp at this;exact this
 have hCf:C∉fr:=fun z=>nd.2.1.2.2 C (by simp) C z rfl
 have haf:a∉fr:=fun z=>nd.2.1.2.2 a (by simp) a z rfl
 have hak:a∉keys σ':=fun z=>nd.2.2 a z a (by simp) rfl
 have hCk:C∉keys σ':=fun z=>nd.2.2 C z C (by simp) rfl
 obtain ⟨vs,n,g,hv⟩:=fin.list
 have perm:Ok c A ([a]++([C]++fr)) σ' s'.heap:=by
  have o:=fin.ok
  have hm:∀b,b∈keys σ'++([C,a]++fr)↔b∈keys σ'++([a]++([C]++fr)):=fun b=>by
   simp only [List.mem_append,List.mem_cons,List.not_mem_nil,or_false]
   constructor
   ·rintro (z| (z| z)| z)
    ·exact .inl z
    ·exact .inr (.inr (.inl z))
    ·exact .inr (.inl z)
    ·exact .inr (.inr (.inr z))
   ·rintro (z| z| z| z)
    ·exact .inl z
    ·exact .inr (.inl (.inr z))
    ·exact .inr (.inl (.inl z))
    ·exact .inr (.inr z)
  exact {
   base:=o.base
   sto:=fun p hp=>IsO.move (fun _ _ _ e=>e) (fun b hb=>.inl ((hm b).mpr hb)) (fun _ e=>e) (o.sto p hp)
   nd:=by
    refine (List.Perm.nodup_iff ?_).mp o.nd
    refine List.Perm.append_left _ ?_
    exact List.Perm.swap _ _ _
   new:=fun b hb=>o.new b ((hm b).mpr hb)
   live:=fun b hb=>o.live b (by simp only [List.mem_append,List.mem_cons,List.not_mem_nil,or_false] at hb⊢;rcases hb with z| z| z<;>simp_all)
   stack:=by
    obtain ⟨l,a1,a2,a3,a4⟩:=o.stack
    exact ⟨l,a1,a2,fun b hb=>List.mem_append_right _ (List.mem_append_right _ (fin.frames l a1 b hb)),a4⟩}
 have hin1:∀l,A.frames=some l->∀b∈l.filterMap (·.frame),b∈[C]++fr:=fun l hl b hb=>List.mem_append_right _ (fin.frames l hl b hb)
 have hv1:Vs (keys σ'++([a]++([C]++fr))) s'.heap ds vs:=Vs.move (fun _ _ _ e=>e) (fun b hb=>.inl (by simp only [List.mem_append,List.mem_cons,List.not_mem_nil,or_false] at hb⊢;rcases hb with z| z| z| z<;>simp_all)) _ _ hv
 have p1:Post [] ([C]++fr) σ s s' σ':={
  shape:=fin.post.shape
  kept:=fun b o nb e=>fin.post.kept b o (fun z=>nb (by rcases List.mem_append.mp z with z| z<;>simp_all)) e
  slots:=fun b o hb nf e=>by
   rcases List.mem_append.mp hb with z| z
   ·rw [List.mem_singleton.mp z,fin.newC] at e;cases e
   ·exact fin.post.slots b o z nf e
  alive:=fin.post.alive
  grow:=fin.post.grow}
 obtain ⟨d,σ2,p2,ok2,v2,q2⟩:=QL.use (G:=none) (fr:=[C]++fr) q p1 perm hin1 g hv1 fin.newa
 have fm0:Fm env m ([C]++fr) (keys σ++([C]++fr)) s.heap:=fm.shift ⟨List.mem_append_right _ fm.inn.1,fun q hq=>List.mem_append_right _ (fm.inn.2 q hq)⟩ (less_add fun b hb=>by rw [List.mem_singleton.mp hb];exact fin.newC)
 have fm2:=fm0.move p2
 show wpAny _ A (PySem.assign (.Name x pos') env (.ref a)) _ _ _
 refine wpAny_assign_Name (wpAny_mono (W.store (X:=NoX) ok2 fm2 v2 (.inl hk)) (fun _ s3 hx=> ?_) fun _ _ y=>y.no.elim)
 obtain ⟨_,σ3,p3,ok3,fm3,rfl⟩:=hx
 have hloc:env.locals∉[C]/\∀q∈env.cells,q.2∉[C]:=⟨fun z=>hCf (List.mem_singleton.mp z▸fm.inn.1),fun q hq z=>hCf (List.mem_singleton.mp z▸fm.inn.2 q hq)⟩
 obtain ⟨mv,hns⟩:=fin.ns
 have hnsC:∃mv,s3.heap.Ns C mv:=by
  obtain ⟨o,es,ep,gC,r⟩:=hns
  obtain ⟨sl,e1,_⟩:=p3.slots C o (by simp) (fun z=>by
   rcases List.mem_cons.mp z with z| z
   ·exact hCf (z▸fm.inn.1)
   ·obtain ⟨q,hq,e⟩:=List.mem_map.mp z;exact hCf (e▸fm.inn.2 q hq)) gC
  exact ⟨mv,_,es,ep,e1,r⟩
 obtain ⟨mv3,hns3⟩:=hnsC
 refine ⟨mv3,hns3,fun h' sb=> ?_⟩
 have kk:∀b o,b∉[C]->s3.heap.get? b=some o->h'.get? b=some o:=fun b o nb e=>(sb.2 b (fun z=>nb (by simp [z]))).trans e
 have p02:Post (Fa env) ([C]++fr) σ s s3 σ3:=(p2.wide (by simp)).trans p3
 have p03:Post (Fa env) fr σ s s3 σ3:={
  shape:=p02.shape
  kept:=fun b o nb e=>p02.kept b o (fun z=>by
   rcases List.mem_append.mp z with z| z
   ·exact nb (List.mem_append_left _ z)
   ·rcases List.mem_append.mp z with z| z
    ·rw [List.mem_singleton.mp z,fin.newC] at e;cases e
    ·exact nb (List.mem_append_right _ z)) e
  slots:=fun b o hb nf e=>p02.slots b o (List.mem_append_right _ hb) nf e
  alive:=p02.alive
  grow:=p02.grow}
 refine ⟨.next _,σ3,p03.fin (wr:=[C]) (tk:=s3.toks) (fun b hb=>by rw [List.mem_singleton.mp hb];exact fin.newC) (fun b hb z=>hCf (List.mem_singleton.mp z▸hb)) kk,Ok.fin ok3 fin.frames kk,⟨rfl,fm3.fin fm.inn hloc kk⟩,q2⟩
end
section
variable {c:Cx} {A:Around} {fr:List Addr} {σ:Sto} {X:Addr->Sto->Prop} {env:Env} {m:Vars}
theorem store_fine {x:Str}{d:D}{v:Value}{s:Shared}{F:List Addr}{Q:Unit->Shared->Prop}{E:Value->Shared->Prop}(ok:Ok c A fr σ s.heap)(f:Fm env m fr (keys σ++fr) s.heap)(hV:V (keys σ++fr) s.heap d v)(hk:env.kindOf x=some .local\/env.kindOf x=some .cell)
  (hF:(env.kindOf x=some .local->env.locals∈F)/\(env.kindOf x=some .cell->∀cc,env.cells.lookup x=some cc->cc∈F))
  (h:∀h' tk,Fm env ((x,d)::m) fr (keys σ++fr) h'->Ok c A fr σ h'->Post F fr σ s {s with heap:=h',toks:=tk} σ->Q () {s with heap:=h',toks:=tk}):wpAny (model c.prog c.w) A (storeName env x v) Q E s:=by
 have hK:∀b∈fr,b∈keys σ++fr:=fun b hb=>List.mem_append_right _ hb
 have post:∀{a:Addr} {oa:Obj} {h':Heap} {tk:Nat},a∈F->a∈fr->Heap.SameBut a s.heap h'->h'.get? a=some oa->Post F fr σ s {s with heap:=h',toks:=tk} σ:=fun {a oa h' tk} haF haf sb e=>
  ⟨⟨h',tk,rfl⟩,fun b o n g=>(sb.2 b fun q=>n (q▸List.mem_append_right _ haf)).trans g,fun b o _ n g=>⟨o.slots,(sb.2 b fun q=>n (q▸haF)).trans g,fun _=>rfl⟩,
   fun b o g=>by
    by_cases q:b=a
    ·subst q;exact ⟨_,e⟩
    ·exact ⟨o,(sb.2 b q).trans g⟩,fun _ m=>.inl m⟩
 rcases hk with hk| hk
 ·obtain ⟨mv,hn,r⟩:=f.ns
  refine wpAny_storeName_local hk hn (fun h' hn' sb=> ?_) (by rw [f.kind];rfl)
  obtain ⟨o,es,ep,e,hd,_⟩:=id hn'
  exact h h' _ (f.storeL hK r hn' sb hV hk) (ok.turn f.inn.1 sb e (fun vs=>by rw [hd];intro q;contradiction) (fun _=>⟨o,es,ep,e,hd⟩)) (post (hF.1 hk) f.inn.1 sb e)
 ·obtain ⟨cc,hcc⟩:=f.has x (.inl hk)
  obtain ⟨ov,hc,_⟩:=f.cell x cc hcc
  refine wpAny_storeName_cell f.kind hk hcc hc fun h' hc' sb=> ?_
  obtain ⟨o,e,hd⟩:=id hc'
  have hin:=mem_of_lookup hcc
  exact h h' s.toks (f.storeC hK hcc hc' sb hV hk) (ok.turn (f.inn.2 _ hin) sb e (fun vs=>by rw [hd];intro q;contradiction) (fun z=>by
   obtain ⟨o1,es,n,g1,d1⟩:=z
   obtain ⟨o2,g2,d2⟩:=hc
   replace g2:=(g1 ..).symm.trans g2;obtain rfl:=Option.some.inj g2;replace d2:=(d1 ..).symm.trans d2;contradiction)) (post (hF.2 hk cc hcc) (f.inn.2 _ hin) sb e)
noncomputable def tight (env:Env)(x:Str):List Addr:=if env.kindOf x=some .cell then (match env.cells.lookup x with| some cc=>[cc]| none=>[]) else [env.locals]
theorem tight_mem {env:Env}{x:Str}{a:Addr}(h:a∈tight env x):a=env.locals\/(env.kindOf x=some .cell/\env.cells.lookup x=some a):=by
 unfold tight at h
 split at h
 ·rename_i k
  split at h
  ·rename_i cc e;exact .inr ⟨k,by rw [List.mem_singleton.mp h];exact e⟩
  ·contradiction
 ·exact .inl (List.mem_singleton.mp h)
theorem tight_ok {env:Env}{x:Str}:(env.kindOf x=some .local->env.locals∈tight env x)/\(env.kindOf x=some .cell->∀cc,env.cells.lookup x=some cc->cc∈tight env x):=by
 unfold tight
 refine ⟨fun k=> ?_,fun k cc e=> ?_⟩
 ·rw [if_neg (by rw [k];decide)];exact .head _
 ·rw [if_pos k,e];exact .head _
theorem Src.ofWalks {x:Str}{px:Pos}{I:Addr}{fp:List Addr}{n:Nat}{P:Nat->Value->Prop}{St:Nat->Heap->Prop}{ds:List D}{J:List Addr->Heap->Prop}(W:Walks c.prog c.w A I fp [I] n P St)(hlen:ds.length=n)
  (hlive:∀i h,St i h->∃o vs,h.get? I=some o/\o.data=.fields vs)
  (jmove:∀K K' h h',J K h->Stay K h h'->Less K K' h->J K' h') (jv:∀K h i v,i<n->J K h->P i v->∃d,ds[i]? =some d/\V K h d v) (jfp:∀K h,J K h->∀b∈fp,b=I\/b∉K):
  Src c A (.Name x px) I [I] (ds.map fun d=>[(x,d)]) (fun _=>True) (fun i K h=>St i h/\J K h) (fun i K h v=>St (i+1) h/\J K h/\∃d,ds[i]? =some d/\V K h d v) where
 nodict:=fun i K h st b hb o g es n e=>by
  obtain ⟨o',vs,g',d'⟩:=hlive i h st.1
  rw [List.mem_singleton.mp hb,g'] at g;obtain rfl:=Option.some.inj g;replace e:=(d' ..).symm.trans e;contradiction
 midnd:=fun i K h v st b hb o g es n e=>by
  obtain ⟨o',vs,g',d'⟩:=hlive _ h st.1
  rw [List.mem_singleton.mp hb,g'] at g;obtain rfl:=Option.some.inj g;replace e:=(d' ..).symm.trans e;contradiction
 move:=fun i K K' h h' st sy hw hl=>⟨W.frame i h h' st.1 fun b hb o e=>by
   rcases jfp K h st.2 b hb with z| z
   ·exact hw b (by simp [z]) o e
   ·exact sy b o z e,jmove _ _ _ _ st.2 sy hl⟩
 next:=fun i σ fr s Q E hi ok st _ hQ=>by
  refine W.item i s Q E (by simpa [hlen] using hi) st.1 fun v h' tk hP st' hk=> ?_
  have j':=jmove _ _ _ _ st.2 (fun b o nb e=>hk b o (fun z=>nb (by rw [List.mem_singleton.mp z];simp)) e) (fun a ha=>.inl ha)
  exact hQ v h' tk ⟨st',j',jv _ _ _ _ (by simpa [hlen] using hi) j' hP⟩ (⟨fun b o nb e=>hk b o nb e,fun b hb=>by obtain ⟨o,vs,g,_⟩:=hlive _ _ st';exact (List.mem_singleton.mp hb)▸⟨o,g⟩⟩)
 put:=fun i σ fr F env m v s Q E y hy mid ok fm hi hkind hF hnd hQ=>by
  obtain ⟨st,j,d,hd,hV⟩:=mid
  have hy':y=[(x,d)]:=by
   rw [List.getElem?_map,hd] at hy;exact (Option.some.inj hy).symm
  subst hy'
  refine wpAny_pure (wpAny_assign_Name ?_)
  have ndw:=ok.nd
  rw [List.nodup_append,List.nodup_append] at ndw
  have nI:∀a∈fr,a≠I:=fun a ha z=>ndw.2.1.2.2 I (by exact .head _) a ha z.symm
  refine store_fine (F:=tight env x) ok fm hV (hkind (x,d) (by exact .head _)) tight_ok fun h' tk fm' ok' p'=> ?_
  have gI:∀o,s.heap.get? I=some o->h'.get? I=some o:=fun o e=>by
   obtain ⟨sl,e1,r1⟩:=p'.slots I o (by exact .head _) (fun z=>(fun a ha=>by
   rcases tight_mem ha with z| ⟨_,e⟩
   ·rw [z];exact nI _ hi.1
   ·exact nI _ (hi.2 _ (mem_of_lookup e)):∀a∈tight env x,a≠I) I z rfl) e
   have:=r1 (hnd I (by exact .head _) o e)
   subst this;exact e1
  refine hQ h' tk ⟨W.frame _ _ _ st fun b hb o e=> ?_,jmove _ _ _ _ j p'.stay p'.less⟩ fm' ok' (p'.wide fun a ha=> ?_)
  ·rcases jfp _ _ j b hb with z| z
   ·cases z;exact gI o e
   ·exact p'.stay b o z e
  ·rcases tight_mem ha with z| ⟨k,e⟩
   ·rw [z];exact List.mem_append_right _ hF.1
   ·exact List.mem_append_right _ (hF.2 (x,d) (by exact .head _) k _ e)
 done:=fun σ fr s Q E ok st _ hQ=>by
  rw [(by simp [hlen]:(ds.map fun d=>[(x,d)]).length=n)] at st
  exact W.done s Q E st.1 fun h' tk hk=>hQ h' tk hk
 self:=fun i K s Q E st hQ=>W.self i s Q E st.1 hQ
inductive SP (c:Cx)(A:Around)(fr:List Addr)(σ:Sto)(tg:Expr)(Q:List Vars->(Sto->Prop)->Sto->Prop)(s:Shared)(it:Value)(s2:Shared):Prop
 | mk (I:Addr) (wr:List Addr) (vals:List Vars) (Inv:Sto->Prop) (St:Nat->List Addr->Heap->Prop) (Mid:Nat->List Addr->Heap->Value->Prop) (e:it=.ref I) (sh:∃h tk,s2={s with heap:=h,toks:=tk}) (k:∀b o,s.heap.get? b=some o->s2.heap.get? b=some o) (hn:∀a∈wr,s.heap.get? a=none)
   (hl:∀a∈wr,∃o,s2.heap.get? a=some o) (nd:wr.Nodup) (src:Src c A tg I wr vals Inv St Mid) (st:St 0 (keys σ++(wr++fr)) s2.heap) (inv:Inv σ) (q:Q vals Inv σ):SP c A fr σ tg Q s it s2
noncomputable def WIv (c:Cx)(A:Around)(fr:List Addr)(env:Env)(m:Vars)(σ:Sto)(d:D)(tg:Expr)(Q:List Vars->(Sto->Prop)->Sto->Prop):Prop:=
 ∀v s (E:Value->Shared->Prop),Ok c A fr σ s.heap->Fm env m fr (keys σ++fr) s.heap->V (keys σ++fr) s.heap d v->
  wpAny (model c.prog c.w) A (pyIter v) (SP c A fr σ tg Q s) E s
theorem SP.it {tg:Expr}{Q:List Vars->(Sto->Prop)->Sto->Prop}{σ1:Sto}{s s1 s2:Shared}{it:Value}(fm:Fm env m fr (keys σ++fr) s.heap)(p1:Post [] fr σ s s1 σ1)(ok1:Ok c A fr σ1 s1.heap)(hx:SP c A fr σ1 tg Q s1 it s2):
  ItP c A fr env m σ tg Q s it s2:=by
 have fm1:=fm.move p1
 obtain ⟨I,wr,vals,Inv,St,Mid,rfl,⟨h2,tk2,rfl⟩,hk,hn,hl,nd,src,st0,inv,q⟩:=hx
 have p2:Post [] fr σ1 s1 {s1 with heap:=h2,toks:=tk2} σ1:=Post.keeps hk
 refine ⟨I,wr,vals,Inv,St,Mid,σ1,rfl,p1.trans p2,ok1.keeps hk,ok1.more hk hn hl nd,fun a ha=>none_back p1 (hn a ha),?_,src,st0,inv,q⟩
 exact Fm.move (s:=s1) (s':={s1 with heap:=h2,toks:=tk2}) (fm1.shift ⟨List.mem_append_right _ fm1.inn.1,fun q hq=>List.mem_append_right _ (fm1.inn.2 q hq)⟩ (less_add hn)) (Post.keeps hk)
theorem WIt.of {iter tg:Expr}{Q:List Vars->(Sto->Prop)->Sto->Prop}(h:WE c A fr env m σ iter (fun d σ1=>WIv c A fr env m σ1 d tg Q) X):WIt c A fr env m σ iter tg Q X:=fun s ok fm=>by
 refine wpAny_mono (h s ok fm) (fun x s1 hz=> ?_) fun _ _ x=>x
 obtain ⟨d,σ1,p1,ok1,v1,q1⟩:=hz
 exact wpAny_mono (q1 x s1 _ ok1 (fm.move p1) v1) (fun it s2 hx=>hx.it fm p1 ok1) fun _ _ x=>x
theorem WIt.callT (g:c.Good){f:Str}{fp pos:Pos}{args:List Expr}{T:String}{tg:Expr}{Q:List Vars->(Sto->Prop)->Sto->Prop}(hk:env.kindOf f=some .globalImplicit)(hg:c.mg f=none)(hb:c.mb f=some (.type T))
  (h:WA c A fr env m σ args (fun ds σ1=>∀s vals (E:Value->Shared->Prop),Ok c A fr σ1 s.heap->Fm env m fr (keys σ1++fr) s.heap->Vs (keys σ1++fr) s.heap ds vals->wpAny (model c.prog c.w) A (call (.type T) vals) (fun x s1=>wpAny (model c.prog c.w) A (pyIter x) (SP c A fr σ1 tg Q s) E s1) E s) X)
  (hp:plainArgs args=true:=by rfl) (hdb:(f==("__debug__":Str))=false:=by decide):WIt c A fr env m σ (.Call (.Name f fp) args [] pos) tg Q X:=fun s ok fm=>by
 refine wpAny_bind (Name_function_global fm.kind hk (loadGlobal_builtin (by rw [fm.glob];exact g.g.keeps ok.base) hg (by rw [fm.bui];exact g.b.keeps ok.base) hb ?_) hdb)
 refine PySem.callWith_type (by
  rw [List.any_eq_false];intro x hx;simp [(plainArgs_starEach (env:=env) (pos:=pos) hp) x hx]) (wpAny_evalArgs (plainArgs_starEach hp) (wpAny_mono (h pos s ok fm) (fun vs s1 ⟨ds,σ1,p1,ok1,x1,q1⟩=> ?_) fun _ _ x=>x))
 exact wpAny_mono (q1 s1 vs _ ok1 (fm.move p1) x1) (fun x s2 hx=>wpAny_mono hx (fun it s3 hx=>hx.it fm p1 ok1) fun _ _ x=>x) fun _ _ x=>x
theorem WE.callT (g:c.Good){f:Str}{fp pos:Pos}{args:List Expr}{T:String}{Q:D->Sto->Prop}(hk:env.kindOf f=some .globalImplicit)(hg:c.mg f=none)(hb:c.mb f=some (.type T))
  (h:WA c A fr env m σ args (fun ds σ1=>∀s vals,Ok c A fr σ1 s.heap->Vs (keys σ1++fr) s.heap ds vals->W c A none fr σ1 (call (.type T) vals) V Q X s) X) (hp:plainArgs args=true:=by rfl) (hdb:(f==("__debug__":Str))=false:=by decide):WE c A fr env m σ (.Call (.Name f fp) args [] pos) Q X:=fun s ok fm=>by
 refine wpAny_bind (Name_function_global fm.kind hk (loadGlobal_builtin (by rw [fm.glob];exact g.g.keeps ok.base) hg (by rw [fm.bui];exact g.b.keeps ok.base) hb ?_) hdb)
 refine PySem.callWith_type (by
  rw [List.any_eq_false];intro x hx;simp [(plainArgs_starEach (env:=env) (pos:=pos) hp) x hx]) (wpAny_evalArgs (plainArgs_starEach hp) (wpAny_mono (h pos s ok fm) (fun vs s1 ⟨ds,σ1,p1,ok1,x1,q1⟩=> ?_) fun _ _ x=>x))
 refine wpAny_mono (q1 s1 vs ok1 x1) (fun _ _ z=>z.back p1) fun _ _ x=>Ex.back p1 x fun _ _ y=>y
theorem heap_ne {h:Heap}{a:Addr}{o:Obj}(e:h.get? a=some o):a≠h.objs.size:=fun z=>Nat.lt_irrefl _ (z▸Heap.lt_size e)
theorem WIv.lst {ds:List D}{x:Str}{px:Pos}{Q:List Vars->(Sto->Prop)->Sto->Prop}(hh:A.handled=none)(h:Q (ds.map fun d=>[(x,d)]) (fun _=>True) σ):WIv c A fr env m σ (.lst ds) (.Name x px) Q:=fun v s E ok fm hv=>by
 obtain ⟨a,vs,n,rfl,hak,g,hvs⟩:=hv
 have hL:s.heap.IsList a vs.toArray:=⟨_,g,rfl,n,rfl⟩
 refine wpAny_pyIter_list hL ?_
 refine ⟨_,[s.heap.objs.size],_,_,_,_,rfl,⟨_,s.toks,rfl⟩,fun b o e=>Heap.get?_push_of_some _ e,fun b hb=>by rw [List.mem_singleton.mp hb];exact none_of_ge (Nat.le_refl _),fun b hb=>by rw [List.mem_singleton.mp hb];exact ⟨_,Heap.get?_push_size _ rfl⟩,by simp,
  Src.ofWalks (J:=fun K h=>a∉K/\h.IsList a vs.toArray/\Vs K h ds vs) (Walks.list hh s.heap.objs.size a (heap_ne g) vs.toArray) (by exact hvs.length.symm) ?_ ?_ ?_ ?_,?_,trivial,h⟩
 ·rintro i h ⟨⟨o,g,_,hd⟩,_⟩;exact ⟨o,_,g,hd⟩
 ·rintro K K' h h' ⟨j1,⟨o,g,r⟩,j3⟩ sy hl
  exact ⟨hl.nin j1 g,⟨o,sy _ _ j1 g,r⟩,Vs.move sy hl _ _ j3⟩
 ·rintro K h i v _ ⟨j1,j2,j3⟩ hp
  exact j3.get (by simpa using hp)
 ·rintro K h ⟨j1,j2,j3⟩ b hb
  rcases List.mem_cons.mp hb with z| z
  ·exact .inl z
  ·exact .inr (List.mem_singleton.mp z▸j1)
 ·have st:Stay (keys σ++fr) s.heap (s.heap.push {cls:=.type "list_iterator",data:=.fields #[.ref a,.int 0 0]}):=fun b o _ e=>Heap.get?_push_of_some _ e
  have hn:∀b∈[s.heap.objs.size],s.heap.get? b=none:=fun b hb=>by exact (List.mem_singleton.mp hb)▸none_of_ge (Nat.le_refl _)
  refine ⟨⟨⟨_,Heap.get?_push_size _ rfl,rfl,rfl⟩,hL.push _⟩,(less_add hn).nin hak g,hL.push _,Vs.move st (less_add hn) _ _ hvs⟩
theorem WIv.tup {ds:List D}{x:Str}{px:Pos}{Q:List Vars->(Sto->Prop)->Sto->Prop}(hh:A.handled=none)(h:Q (ds.map fun d=>[(x,d)]) (fun _=>True) σ):WIv c A fr env m σ (.tup ds) (.Name x px) Q:=fun v s E ok fm hv=>by
 obtain ⟨a,vs,n,rfl,hak,g,hvs⟩:=hv
 have hL:s.heap.IsTuple a vs.toArray:=⟨_,g,rfl,n,rfl⟩
 refine wpAny_pyIter_tuple hL ?_
 refine ⟨_,[s.heap.objs.size],_,_,_,_,rfl,⟨_,s.toks,rfl⟩,fun b o e=>Heap.get?_push_of_some _ e,fun b hb=>by rw [List.mem_singleton.mp hb];exact none_of_ge (Nat.le_refl _),fun b hb=>by exact (List.mem_singleton.mp hb)▸⟨_,Heap.get?_push_size _ rfl⟩,by simp,
  Src.ofWalks (J:=fun K h=>a∉K/\h.IsTuple a vs.toArray/\Vs K h ds vs) (Walks.tuple hh s.heap.objs.size a (heap_ne g) vs.toArray) (by exact hvs.length.symm) ?_ ?_ ?_ ?_,?_,trivial,h⟩
 ·rintro i h ⟨⟨o,g,_,hd⟩,_⟩;exact ⟨o,_,g,hd⟩
 ·rintro K K' h h' ⟨j1,⟨o,g,r⟩,j3⟩ sy hl
  exact ⟨hl.nin j1 g,⟨o,sy _ _ j1 g,r⟩,Vs.move sy hl _ _ j3⟩
 ·rintro K h i v _ ⟨j1,j2,j3⟩ hp
  exact j3.get (by simpa using hp)
 ·rintro K h ⟨j1,j2,j3⟩ b hb
  rcases List.mem_cons.mp hb with z| z
  ·exact .inl z
  ·exact .inr (List.mem_singleton.mp z▸j1)
 ·have hn:∀b∈[s.heap.objs.size],s.heap.get? b=none:=fun b hb=>by rw [List.mem_singleton.mp hb];exact none_of_ge (Nat.le_refl _)
  refine ⟨⟨⟨_,Heap.get?_push_size _ rfl,rfl,rfl⟩,hL.push _⟩,(less_add hn).nin hak g,hL.push _,Vs.move (K:=keys σ++fr) (fun b o _ e=>Heap.get?_push_of_some _ e) (less_add hn) _ _ hvs⟩
theorem WIv.ref {a:Addr}{ds:List D}{x:Str}{px:Pos}{Q:List Vars->(Sto->Prop)->Sto->Prop}(hh:A.handled=none)(hm:(a,O.lst ds)∈σ)(h:Q (ds.map fun d=>[(x,d)]) (fun σ'=>(a,O.lst ds)∈σ') σ):WIv c A fr env m σ (.ref a) (.Name x px) Q:=fun v s E ok fm hv=>by
 subst hv
 obtain ⟨vs,n,g,hvs⟩:=ok.sto _ hm
 have hne:=heap_ne g
 refine wpAny_pyIter_list (⟨_,g,rfl,n,rfl⟩) ?_
 refine ⟨_,[s.heap.objs.size],_,fun σ'=>(a,O.lst ds)∈σ',fun i K h=>a≠s.heap.objs.size/\h.IsListIter s.heap.objs.size a i,fun i K h v=>(a≠s.heap.objs.size/\h.IsListIter s.heap.objs.size a (i+1))/\∃d,ds[i]? =some d/\V K h d v,rfl,⟨_,s.toks,rfl⟩,fun b o e=>Heap.get?_push_of_some _ e,fun b hb=>by rw [List.mem_singleton.mp hb];exact none_of_ge (Nat.le_refl _),fun b hb=>by exact (List.mem_singleton.mp hb)▸⟨_,Heap.get?_push_size _ rfl⟩,by simp,
  ?_,⟨hne,_,Heap.get?_push_size _ rfl,rfl,rfl⟩,hm,h⟩
 exact {
  nodict:=fun i K h st b hb o g es n e=>by
   obtain ⟨_,o',g',_,d'⟩:=st
   rw [List.mem_singleton.mp hb,g'] at g;obtain rfl:=Option.some.inj g;replace e:=(d' ..).symm.trans e;contradiction
  midnd:=fun i K h v st b hb o g es n e=>by
   obtain ⟨⟨_,o',g',_,d'⟩,_⟩:=st
   rw [List.mem_singleton.mp hb,g'] at g;obtain rfl:=Option.some.inj g;replace e:=(d' ..).symm.trans e;contradiction
  move:=fun i K K' h h' st sy hw hl=>by
   obtain ⟨h1,o',g',r⟩:=st
   exact ⟨h1,o',hw _ (by exact .head _) _ g',r⟩
  next:=fun i σ fr s' Q E hi ok st inv hQ=>by
   obtain ⟨us,n',g',hus⟩:=ok.sto _ inv
   have hi':i<us.length:=by rw [hus.length];simpa using hi
   refine wpAny_pyNext_list_item (items:=us.toArray) (x:=us[i]) st.2 ⟨_,g',rfl,n',rfl⟩ (by simp) fun h' it' sb'=> ?_
   obtain ⟨d,hd,hV⟩:=hus.get (i:=i) (v:=us[i]) (by simp)
   refine hQ _ h' s'.toks ⟨⟨st.1,it'⟩,d,hd,V.move (fun b o nb e=>(sb'.2 b fun z=>nb (by simp only [z];simp)).trans e) (fun a ha=>.inl ha) _ _ hV⟩ ⟨fun b o nb e=>(sb'.2 b fun z=>nb (by simp [z])).trans e,fun b hb=> ?_⟩
   obtain ⟨o,g,_⟩:=it';exact (List.mem_singleton.mp hb)▸⟨o,g⟩
  put:=fun i σ fr F env m v s' Q E y hy mid ok fm hi hkind hF hnd hQ=>by
   obtain ⟨⟨hne,st⟩,d,hd,hV⟩:=mid
   have hy':y=[(x,d)]:=by
    rw [List.getElem?_map,hd] at hy;exact (Option.some.inj hy).symm
   subst hy'
   refine wpAny_pure (wpAny_assign_Name ?_)
   have ndw:=ok.nd
   rw [List.nodup_append,List.nodup_append] at ndw
   have nI:∀a∈fr,a≠s.heap.objs.size:=fun a ha z=>ndw.2.1.2.2 _ (by simp) a ha z.symm
   have hF0:∀a∈tight env x,a≠s.heap.objs.size:=fun a ha=>by
    rcases tight_mem ha with z| ⟨_,e⟩
    ·rw [z];exact nI _ hi.1
    ·exact nI _ (hi.2 _ (mem_of_lookup e))
   refine store_fine (F:=tight env x) ok fm hV (hkind (x,d) (by simp)) tight_ok fun h' tk fm' ok' p'=> ?_
   refine hQ h' tk ⟨hne,?_⟩ fm' ok' (p'.wide fun a ha=> ?_)
   ·obtain ⟨o,g,r⟩:=st
    obtain ⟨sl,e1,r1⟩:=p'.slots _ o (by simp) (fun z=>hF0 _ z rfl) g
    have:=r1 (hnd _ (by simp) o g)
    subst this;exact ⟨o,e1,r⟩
   ·rcases tight_mem ha with z| ⟨k,e⟩
    ·rw [z];exact List.mem_append_right _ hF.1
    ·exact List.mem_append_right _ (hF.2 (x,d) (by simp) k _ e)
  done:=fun σ fr s' Q E ok st inv hQ=>by
   obtain ⟨us,n',g',hus⟩:=ok.sto _ inv
   have e:(ds.map fun d=>[(x,d)]).length=us.length:=by simp [hus.length]
   rw [e] at st
   exact wpAny_pyNext_list_end (items:=us.toArray) hh st.2 ⟨_,g',rfl,n',rfl⟩ (by simp) fun h' he'=>hQ h' s'.toks fun b o hb e=>he' b o (fun z=>hb (by simp [z])) e
  self:=fun i K s' Q E st hQ=>wpAny_pyIter_listiter st.2 hQ}
theorem rangeSize_toNat {n:Int}:(Builtin.Range.rangeSize 0 n 1)=((n.toNat:Nat):Int):=by
 rw [rangeSize_one];split<;>lia
theorem WIt.range1 (g:c.Good)(hh:A.handled=none){f:Str}{fp pos px:Pos}{e:Expr}{x:Str}{Q:List Vars->(Sto->Prop)->Sto->Prop}(hk:env.kindOf f=some .globalImplicit)(hg:c.mg f=none)(hb:c.mb f=some (.type "range"))
  (h:WE c A fr env m σ e (fun d σ1=>∃n:Int,d=.int n/\-(2^62)<=n/\n<2^62/\Q ((List.range n.toNat).map fun (i:Nat)=>[(x,D.int (i:Int))]) (fun _=>True) σ1) X) (hp:plainArgs [e]=true:=by rfl) (hdb:(f==("__debug__":Str))=false:=by decide):
  WIt c A fr env m σ (.Call (.Name f fp) [e] [] pos) (.Name x px) Q X:=by
 refine WIt.callT g hk hg hb (WA.cons (h.mono (fun d σ1 q=>WA.nil ?_) fun _ _ y=>y) hp) hp hdb
 intro s vals E ok fm hv
 obtain ⟨n,rfl,h1,h2,q⟩:=q
 obtain ⟨v,r,rfl,hv,hr⟩:=hv
 subst hr
 obtain ⟨t,rfl⟩:=hv
 refine call_range_1 ?_
 refine wpAny_pyIter_range (IsRange.new _ _ _ _ _ _ _) (small_one (by decide) (by decide) h1 h2) ?_
 generalize hH:s.heap.push {cls:=.type "range",data:=.fields #[.int 0 s.toks,.int n t,.int 1 (s.toks+1)]}=H
 have hHk:∀b o,s.heap.get? b=some o->H.get? b=some o:=fun b o e=>hH▸Heap.get?_push_of_some _ e
 refine ⟨H.objs.size,[H.objs.size],_,_,_,_,rfl,⟨_,_,rfl⟩,fun b o e=>Heap.get?_push_of_some _ (hHk b o e),fun b hb=>by rw [List.mem_singleton.mp hb];exact (none_of_ge (by rw [(by rw [<-hH,Heap.size_push]:H.objs.size=s.heap.objs.size+1)];exact Nat.le_succ _)),fun b hb=>by rw [List.mem_singleton.mp hb];exact ⟨_,Heap.get?_push_size _ rfl⟩,by simp,
  Src.ofWalks (ds:=(List.range n.toNat).map fun (i:Nat)=>D.int (i:Int)) (J:=fun K h=>True) (Walks.range hh H.objs.size 0 1 n.toNat) (by simp) ?_ ?_ ?_ ?_,?_,trivial,by simpa [List.map_map,Function.comp_def] using q⟩
 ·intro i h st;exact ⟨_,_,st,rfl⟩
 ·intros;trivial
 ·rintro K h i v hi _ ⟨t,rfl⟩
  refine ⟨.int i,by simp [hi],?_⟩
  exact ⟨t,by simp⟩
 ·rintro K h _ b hb;exact .inl (List.mem_singleton.mp hb)
 ·refine ⟨?_,trivial⟩
  have:=Heap.get?_push_size H (o:={cls:=.type "range_iterator",data:=.fields #[rawInt 0,rawInt (Builtin.Range.rangeSize 0 n 1),rawInt 1]}) rfl
  rw [rangeSize_toNat] at this
  rw [rangeSize_toNat]
  trivial
end
noncomputable def SqIt (b:Bool)(h:Heap)(i l:Addr)(k:Nat):Prop:=if b then h.IsListIter i l k else h.IsTupleIter i l k
noncomputable def SqOf (b:Bool)(h:Heap)(l:Addr)(xs:Array Value):Prop:=if b then h.IsList l xs else h.IsTuple l xs
theorem SqIt.at {b:Bool}{h h':Heap}{i l:Addr}{k:Nat}(x:SqIt b h i l k)(e:∀o,h.get? i=some o->h'.get? i=some o):SqIt b h' i l k:=by
 cases b with
 | true=>obtain ⟨o,g,r⟩:=x;exact ⟨o,e _ g,r⟩
 | false=>obtain ⟨o,g,r⟩:=x;exact ⟨o,e _ g,r⟩
theorem SqOf.at {b:Bool}{h h':Heap}{l:Addr}{xs:Array Value}(x:SqOf b h l xs)(e:∀o,h.get? l=some o->h'.get? l=some o):SqOf b h' l xs:=by
 cases b with
 | true=>obtain ⟨o,g,r⟩:=x;exact ⟨o,e _ g,r⟩
 | false=>obtain ⟨o,g,r⟩:=x;exact ⟨o,e _ g,r⟩
theorem SqIt.there {b:Bool}{h:Heap}{i l:Addr}{k:Nat}(x:SqIt b h i l k):∃o vs,h.get? i=some o/\o.data=.fields vs:=by
 cases b with
 | true=>obtain ⟨o,g,_,r⟩:=x;exact ⟨o,_,g,r⟩
 | false=>obtain ⟨o,g,_,r⟩:=x;exact ⟨o,_,g,r⟩
section
variable {prog:Program} {w:World} {A:Around} {E:Value->Shared->Prop} {s:Shared}
theorem nextOf_tuple_item {it t:Addr}{i:Nat}{items}{x:Value}{Q:Value->Shared->Prop}(hit:s.heap.IsTupleIter it t i)(ht:s.heap.IsTuple t items)(hx:items[i]? =some x)
  (hQ:∀h',h'.IsTupleIter it t (i+1)->Heap.SameBut it s.heap h'->Q x {s with heap:=h'}):wpAny (model prog w) A (Builtin.SmallTypes.nextOf (.ref it)) Q E s:=by
 obtain ⟨o,ho,hc,hd⟩:=id hit
 obtain ⟨ol,hol,_,nl,hdl⟩:=ht
 refine wpAny_bind (wpAny_callSpecial?_slot (name:=Str.ofString "__next__") hit.typeIs F.slot_tuple_iterator_next
  (wpAny_call_entry F.slot_tuple_iterator_next hit.typeIs F.entry_tuple_iterator_next ?_ (F.args_tuple_iterator_next_1 _)))
 refine wpAny_bind (m:=field (.ref it) 0) (wpAny_field ho hd (x:=.ref t) rfl ?_)
 refine wpAny_bind (m:=field (.ref it) 1) (wpAny_field ho hd (x:=.int i 0) rfl ?_)
 refine wpAny_bind (m:=seqItems? (.ref t)) (wpAny_seqItems hol hdl ?_)
 simp only [Int.toNat_natCast,hx]
 refine wpAny_bind (wpAny_setField ho hd (by exact Nat.le_refl _) (wpAny_pure ⟨x,rfl,wpAny_pure (hQ _ ?_ (Heap.SameBut.update ..))⟩))
 exact ⟨_,Heap.get?_update_self _ ho (Obj.isFreed_of_fields (Obj.data_mapFields hd _)),(Obj.cls_mapFields ..).trans hc,by
  rw [Obj.data_mapFields hd];rfl⟩
theorem nextOf_tuple_end {it t:Addr}{i:Nat}{items}{Q:Value->Shared->Prop}(hh:A.handled=none)(hit:s.heap.IsTupleIter it t i)(ht:s.heap.IsTuple t items)(hx:items[i]? =none)
  (hE:∀h' e,Heap.ExtBut it s.heap h'->(∃o,h'.get? e=some o/\o.cls=.type "StopIteration")->E (.ref e) {s with heap:=h'}):wpAny (model prog w) A (Builtin.SmallTypes.nextOf (.ref it)) Q E s:=by
 obtain ⟨o,ho,hc,hd⟩:=id hit
 obtain ⟨ol,hol,_,nl,hdl⟩:=ht
 refine wpAny_bind (wpAny_callSpecial?_slot (name:=Str.ofString "__next__") hit.typeIs F.slot_tuple_iterator_next
  (wpAny_call_entry F.slot_tuple_iterator_next hit.typeIs F.entry_tuple_iterator_next ?_ (F.args_tuple_iterator_next_1 _)))
 refine wpAny_bind (m:=field (.ref it) 0) (wpAny_field ho hd (x:=.ref t) rfl ?_)
 refine wpAny_bind (m:=field (.ref it) 1) (wpAny_field ho hd (x:=.int i 0) rfl ?_)
 refine wpAny_bind (m:=seqItems? (.ref t)) (wpAny_seqItems hol hdl ?_)
 simp only [Int.toNat_natCast,hx]
 refine wpAny_bind (wpAny_rule (wpAny_bind (wpAny_setField ho hd (by exact Nat.le_add_right _ _) ?_)))
 refine wpAny_bind (m:=newExc (.type "StopIteration") []) ?_
 refine wpAny_bind (wpAny_newObj_type ?_ (by size_fits))
 refine wpAny_bind (m:=firstArgMember _ _) (wpAny_of_eq (a:=Value.none) (by first| rfl| (rfl;rfl)) ?_)
 refine wpAny_newObj_type ?_ (by size_fits)
 simp only
 refine wpAny_bind (wpAny_handled ?_)
 first| rw [show A.in1.handled=none from hh]| rw [hh]
 refine wpAny_bind (wpAny_pure (wpAny_throw ?_))
 exact hE _ _ (((Heap.SameBut.update ..).extBut.push _).push _) ⟨_,Heap.get?_push_size _ rfl,rfl⟩
theorem nextOf_sq_item {b:Bool}{it l:Addr}{i:Nat}{items:Array Value}{x:Value}{Q:Value->Shared->Prop}(hit:SqIt b s.heap it l i)(hl:SqOf b s.heap l items)(hx:items[i]? =some x)
  (hQ:∀h',SqIt b h' it l (i+1)->Heap.SameBut it s.heap h'->Q x {s with heap:=h'}):wpAny (model prog w) A (Builtin.SmallTypes.nextOf (.ref it)) Q E s:=by
 cases b with
 | true=>exact wpAny_nextOf_list_item hit hl hx hQ
 | false=>exact nextOf_tuple_item hit hl hx hQ
theorem nextOf_sq_end {b:Bool}{it l:Addr}{i:Nat}{items:Array Value}{Q:Value->Shared->Prop}(hh:A.handled=none)(hit:SqIt b s.heap it l i)(hl:SqOf b s.heap l items)(hx:items[i]? =none)
  (hE:∀h' e,Heap.ExtBut it s.heap h'->(∃o,h'.get? e=some o/\o.cls=.type "StopIteration")->E (.ref e) {s with heap:=h'}):wpAny (model prog w) A (Builtin.SmallTypes.nextOf (.ref it)) Q E s:=by
 cases b with
 | true=>exact wpAny_nextOf_list_end hh hit hl hx hE
 | false=>exact nextOf_tuple_end hh hit hl hx hE
theorem zip_item {b1 b2:Bool}{z TI TO i1 i2 l1 l2:Addr}{k:Nat}{xs ys:Array Value}{x y a b:Value}{Q:Value->Shared->Prop}(D:ZipApart z TI TO i1 i2 l1 l2)
  (hz:IsZip s.heap z TI TO .none) (hTI:IsPair s.heap TI (.ref i1) (.ref i2)) (hTO:IsPair s.heap TO a b)
  (h1:SqIt b1 s.heap i1 l1 k) (h2:SqIt b2 s.heap i2 l2 k) (hl1:SqOf b1 s.heap l1 xs) (hl2:SqOf b2 s.heap l2 ys) (hx:xs[k]? =some x) (hy:ys[k]? =some y)
  (hQ:∀h',IsZip h' z TI TO (rawInt s.heap.objs.size)->IsPair h' TO x y->SqIt b1 h' i1 l1 (k+1)->SqIt b2 h' i2 l2 (k+1)->IsPair h' s.heap.objs.size x y->
   (∀c o,c≠z->c≠TO->c≠i1->c≠i2->s.heap.get? c=some o->h'.get? c=some o)->Q (.ref s.heap.objs.size) {s with heap:=h'}):
  wpAny (model prog w) A (Builtin.«zip.__next__» ⟨[.ref z],[]⟩) (fun fin s'=>∃v,fin=.done (.ret v)/\Q v s') E s:=by
 refine wpAny_bind (m:=field (.ref z) 2) (wpAny_field hz rfl (x:=.bool false) rfl ?_)
 refine wpAny_bind (m:=field (.ref z) 3) (wpAny_field hz rfl (x:=.ref TI) rfl ?_)
 refine wpAny_bind (wpAny_seqItems hTI rfl ?_)
 refine wpAny_bind (m:=Builtin.SmallTypes.ownedTupleIsFree (.ref z)) ?_
 refine wpAny_bind (wpAny_field hz rfl (x:=.none) rfl (wpAny_pure ?_))
 refine wpAny_bind (wpAny_rule ?_)
 refine wpAny_bind (wpAny_field hz rfl (x:=.ref TO) rfl ?_)
 refine wpAny_bind (wpAny_setField_rec hz (by exact Nat.le_add_left _ _) fun h₁ hz₁ hs₁=> ?_)
 replace hz₁:IsZip h₁ z TI TO .ellipsis:=hz₁
 refine wpAny_bind ?_
 have k1:∀{c o},c≠z->s.heap.get? c=some o->h₁.get? c=some o:=fun c e=>hs₁.extBut _ _ c e
 refine wpAny_bind (wpAny_bind (wpAny_onRaise ?_))
 refine wpAny_bind (m:=Builtin.SmallTypes.nextOf (.ref i1)) (nextOf_sq_item (h1.at fun o e=>k1 D.i1z e) (hl1.at fun o e=>k1 D.l1z e) hx fun h₂ h1₂ hs₂=>wpAny_pure ?_)
 have k2:∀{c o},c≠i1->h₁.get? c=some o->h₂.get? c=some o:=fun c e=>hs₂.extBut _ _ c e
 have hTO₂:=k2 D.TOi1 (k1 D.TOz hTO)
 refine wpAny_bind (wpAny_seqItems hTO₂ rfl ?_)
 refine wpAny_bind (wpAny_updateSeq_pair hTO₂ fun h₃ hTO₃ hs₃=> ?_)
 replace hTO₃:IsPair h₃ TO x b:=hTO₃
 have k3:∀{c o},c≠TO->h₂.get? c=some o->h₃.get? c=some o:=fun c e=>hs₃.extBut _ _ c e
 refine wpAny_bind (wpAny_letGo (wpAny_pure ?_))
 refine wpAny_bind (wpAny_bind (wpAny_onRaise ?_))
 refine wpAny_bind (m:=Builtin.SmallTypes.nextOf (.ref i2)) (nextOf_sq_item (h2.at fun o e=>k3 D.TOi2.symm (k2 D.i12.symm (k1 D.i2z e))) (hl2.at fun o e=>k3 D.l2TO (k2 D.l2i1 (k1 D.l2z e))) hy fun h₄ h2₄ hs₄=>wpAny_pure ?_)
 have k4:∀{c o},c≠i2->h₃.get? c=some o->h₄.get? c=some o:=fun c e=>hs₄.extBut _ _ c e
 have hTO₄:=k4 D.TOi2 hTO₃
 refine wpAny_bind (wpAny_seqItems hTO₄ rfl ?_)
 refine wpAny_bind (wpAny_updateSeq_pair hTO₄ fun h₅ hTO₅ hs₅=> ?_)
 replace hTO₅:IsPair h₅ TO x y:=hTO₅
 have k5:∀{c o},c≠TO->h₄.get? c=some o->h₅.get? c=some o:=fun c e=>hs₅.extBut _ _ c e
 refine wpAny_bind (wpAny_letGo (wpAny_pure (wpAny_pure ?_)))
 refine wpAny_bind (wpAny_seqItems hTO₅ rfl ?_)
 refine wpAny_bind (wpAny_newTuple ?_)
 have hsz:h₅.objs.size=s.heap.objs.size:=by simp only [hs₅.1,hs₄.1,hs₃.1,hs₂.1,hs₁.1]
 have hz₅:IsZip h₅ z TI TO .ellipsis:=k5 D.TOz.symm (k4 D.i2z.symm (k3 D.TOz.symm (k2 D.i1z.symm hz₁)))
 have hk₅:∀c o,c≠z->c≠TO->c≠i1->c≠i2->s.heap.get? c=some o->h₅.get? c=some o:=fun c o c1 c2 c3 c4 e=>k5 c2 (k4 c4 (k3 c2 (k2 c3 (k1 c1 e))))
 have h1₅:SqIt b1 h₅ i1 l1 (k+1):=h1₂.at fun o e=>k5 D.TOi1.symm (k4 D.i12 (k3 D.TOi1.symm e))
 have h2₅:SqIt b2 h₅ i2 l2 (k+1):=h2₄.at fun o e=>k5 D.TOi2.symm e
 have hzlt:z<h₅.objs.size:=Heap.lt_size hz₅
 refine wpAny_bind (m:=Builtin.SmallTypes.ownedTupleHandOut (.ref z) (.ref h₅.objs.size)) ?_
 unfold Builtin.SmallTypes.ownedTupleHandOut
 have hz₆:IsZip (h₅.push {cls:=.type "tuple",data:=.seq #[x,y]}) z TI TO .ellipsis:=Heap.get?_push_of_some _ hz₅
 refine wpAny_bind (wpAny_setField_rec hz₆ (by simp) fun h₇ hz₇ hs₇=> ?_)
 replace hz₇:IsZip h₇ z TI TO (rawInt h₅.objs.size):=hz₇
 refine wpAny_setField_rec hz₇ (by simp) fun h₈ hz₈ hs₈=> ?_
 replace hz₈:IsZip h₈ z TI TO (rawInt h₅.objs.size):=hz₈
 have up:∀c o,c≠z->h₅.get? c=some o->h₈.get? c=some o:=fun c o c1 e=>hs₈.extBut _ _ c1 (hs₇.extBut _ _ c1 (Heap.get?_push_of_some _ e))
 have hT₈:IsPair h₈ h₅.objs.size x y:=hs₈.extBut _ _ (Nat.ne_of_gt hzlt) (hs₇.extBut _ _ (Nat.ne_of_gt hzlt) (Heap.get?_push_size _ rfl))
 rw [hsz] at hz₈ hT₈
 refine wpAny_pure ⟨_,rfl,?_⟩
 show Q (.ref h₅.objs.size) _
 rw [hsz]
 exact hQ h₈ hz₈ (up _ _ D.TOz hTO₅) (h1₅.at fun o e=>up _ o D.i1z e) (h2₅.at fun o e=>up _ o D.i2z e) hT₈ fun c o c1 c2 c3 c4 e=>up c o c1 (hk₅ c o c1 c2 c3 c4 e)
theorem zip_end {b1 b2:Bool}{z TI TO i1 i2 l1 l2:Addr}{k:Nat}{xs ys:Array Value}{a b:Value}{Q:Fin->Shared->Prop}(hh:A.handled=none)(D:ZipApart z TI TO i1 i2 l1 l2)
  (hz:IsZip s.heap z TI TO .none) (hTI:IsPair s.heap TI (.ref i1) (.ref i2)) (hTO:IsPair s.heap TO a b)
  (h1:SqIt b1 s.heap i1 l1 k) (h2:SqIt b2 s.heap i2 l2 k) (hl1:SqOf b1 s.heap l1 xs) (hl2:SqOf b2 s.heap l2 ys) (hend:xs[k]? =none\/ys[k]? =none)
  (hE:∀h' e,(∀c o,c≠z->c≠TO->c≠i1->c≠i2->s.heap.get? c=some o->h'.get? c=some o)->(∃o,h'.get? e=some o/\o.cls=.type "StopIteration")->E (.ref e) {s with heap:=h'}):
  wpAny (model prog w) A (Builtin.«zip.__next__» ⟨[.ref z],[]⟩) Q E s:=by
 refine wpAny_bind (m:=field (.ref z) 2) (wpAny_field hz rfl (x:=.bool false) rfl ?_)
 refine wpAny_bind (m:=field (.ref z) 3) (wpAny_field hz rfl (x:=.ref TI) rfl ?_)
 refine wpAny_bind (wpAny_seqItems hTI rfl ?_)
 refine wpAny_bind (m:=Builtin.SmallTypes.ownedTupleIsFree (.ref z)) ?_
 refine wpAny_bind (wpAny_field hz rfl (x:=.none) rfl (wpAny_pure ?_))
 refine wpAny_bind (wpAny_rule ?_)
 refine wpAny_bind (wpAny_field hz rfl (x:=.ref TO) rfl ?_)
 refine wpAny_bind (wpAny_setField_rec hz (by exact Nat.le_add_left _ _) fun h₁ hz₁ hs₁=> ?_)
 replace hz₁:IsZip h₁ z TI TO .ellipsis:=hz₁
 refine wpAny_bind ?_
 have k1:∀{c o},c≠z->s.heap.get? c=some o->h₁.get? c=some o:=fun c e=>hs₁.extBut _ _ c e
 refine wpAny_bind (wpAny_bind (wpAny_onRaise ?_))
 cases hx:xs[k]? with
 | none=>
  refine wpAny_bind (m:=Builtin.SmallTypes.nextOf (.ref i1)) (nextOf_sq_end hh (h1.at fun o e=>k1 D.i1z e) (hl1.at fun o e=>k1 D.l1z e) hx fun h₂ e hs₂ he=> ?_)
  obtain ⟨oe,hoe,hce⟩:=he
  have hz₂:IsZip h₂ z TI TO .ellipsis:=hs₂ _ _ D.i1z.symm hz₁
  have hez:e≠z:=fun x=>by cases x;replace hoe:=(hz₂ ..).symm.trans hoe;injection hoe with hoe;subst hoe;simp at hce
  exact wpAny_setField_rec hz₂ (by exact Nat.le_add_left _ _) fun h₃ _ hs₃=>hE h₃ e (fun c o c1 _ c3 _ x=>hs₃.extBut _ _ c1 (hs₂ _ _ c3 (k1 c1 x))) ⟨oe,hs₃.extBut _ _ hez hoe,hce⟩
 | some x=>
  have hy:ys[k]? =none:=by rcases hend with h| h;rw [hx] at h;cases h;exact h
  refine wpAny_bind (m:=Builtin.SmallTypes.nextOf (.ref i1)) (nextOf_sq_item (h1.at fun o e=>k1 D.i1z e) (hl1.at fun o e=>k1 D.l1z e) hx fun h₂ h1₂ hs₂=>wpAny_pure ?_)
  have k2:∀{c o},c≠i1->h₁.get? c=some o->h₂.get? c=some o:=fun c e=>hs₂.extBut _ _ c e
  have hTO₂:IsPair h₂ TO a b:=k2 D.TOi1 (k1 D.TOz hTO)
  refine wpAny_bind (wpAny_seqItems hTO₂ rfl ?_)
  refine wpAny_bind (wpAny_updateSeq_pair hTO₂ fun h₃ hTO₃ hs₃=> ?_)
  have k3:∀{c o},c≠TO->h₂.get? c=some o->h₃.get? c=some o:=fun c e=>hs₃.extBut _ _ c e
  refine wpAny_bind (wpAny_letGo (wpAny_pure ?_))
  refine wpAny_bind (wpAny_bind (wpAny_onRaise ?_))
  refine wpAny_bind (m:=Builtin.SmallTypes.nextOf (.ref i2)) (nextOf_sq_end hh (h2.at fun o e=>k3 D.TOi2.symm (k2 D.i12.symm (k1 D.i2z e))) (hl2.at fun o e=>k3 D.l2TO (k2 D.l2i1 (k1 D.l2z e))) hy fun h₄ e hs₄ he=> ?_)
  obtain ⟨oe,hoe,hce⟩:=he
  have hz₄:IsZip h₄ z TI TO .ellipsis:=hs₄ _ _ D.i2z.symm (k3 D.TOz.symm (k2 D.i1z.symm hz₁))
  have hez:e≠z:=fun x=>by subst x;rw [hz₄] at hoe;cases hoe;simp at hce
  exact wpAny_setField_rec hz₄ (by simp) fun h₅ _ hs₅=>hE h₅ e (fun c o c1 c2 c3 c4 x=>hs₅.extBut _ _ c1 (hs₄ _ _ c4 (k3 c2 (k2 c3 (k1 c1 x))))) ⟨oe,hs₅.extBut _ _ hez hoe,hce⟩
theorem pyNext_zip_item {b1 b2:Bool}{z TI TO i1 i2 l1 l2:Addr}{k:Nat}{xs ys:Array Value}{x y a b:Value}{Q:Option Value->Shared->Prop}(D:ZipApart z TI TO i1 i2 l1 l2)
  (hz:IsZip s.heap z TI TO .none) (hTI:IsPair s.heap TI (.ref i1) (.ref i2)) (hTO:IsPair s.heap TO a b)
  (h1:SqIt b1 s.heap i1 l1 k) (h2:SqIt b2 s.heap i2 l2 k) (hl1:SqOf b1 s.heap l1 xs) (hl2:SqOf b2 s.heap l2 ys) (hx:xs[k]? =some x) (hy:ys[k]? =some y)
  (hQ:∀h',IsZip h' z TI TO (rawInt s.heap.objs.size)->IsPair h' TO x y->SqIt b1 h' i1 l1 (k+1)->SqIt b2 h' i2 l2 (k+1)->IsPair h' s.heap.objs.size x y->
   (∀c o,c≠z->c≠TO->c≠i1->c≠i2->s.heap.get? c=some o->h'.get? c=some o)->Q (some (.ref s.heap.objs.size)) {s with heap:=h'}):wpAny (model prog w) A (pyNext (.ref z)) Q E s:=by
 have hT:s.TypeIs (.ref z) "zip":=⟨_,hz,rfl⟩
 exact wpAny_bind (wpAny_attempt (wpAny_callSpecial?_slot (name:=Str.ofString "__next__") hT F.slot_zip_next
  (wpAny_call_entry F.slot_zip_next hT F.entry_zip_next (zip_item D hz hTI hTO h1 h2 hl1 hl2 hx hy fun h' a1 a2 a3 a4 a5 a6=>wpAny_pure (hQ h' a1 a2 a3 a4 a5 a6)) (F.args_zip_next_1 _))))
theorem pyNext_zip_end {b1 b2:Bool}{z TI TO i1 i2 l1 l2:Addr}{k:Nat}{xs ys:Array Value}{a b:Value}{Q:Option Value->Shared->Prop}(hh:A.handled=none)(D:ZipApart z TI TO i1 i2 l1 l2)
  (hz:IsZip s.heap z TI TO .none) (hTI:IsPair s.heap TI (.ref i1) (.ref i2)) (hTO:IsPair s.heap TO a b)
  (h1:SqIt b1 s.heap i1 l1 k) (h2:SqIt b2 s.heap i2 l2 k) (hl1:SqOf b1 s.heap l1 xs) (hl2:SqOf b2 s.heap l2 ys) (hend:xs[k]? =none\/ys[k]? =none)
  (hQ:∀h',(∀c o,c≠z->c≠TO->c≠i1->c≠i2->s.heap.get? c=some o->h'.get? c=some o)->Q none {s with heap:=h'}):wpAny (model prog w) A (pyNext (.ref z)) Q E s:=by
 have hT:s.TypeIs (.ref z) "zip":=⟨_,hz,rfl⟩
 refine wpAny_bind (wpAny_attempt (wpAny_callSpecial?_slot (name:=Str.ofString "__next__") hT F.slot_zip_next
  (wpAny_call_entry F.slot_zip_next hT F.entry_zip_next (zip_end hh D hz hTI hTO h1 h2 hl1 hl2 hend fun h' e hk he=> ?_) (F.args_zip_next_1 _))))
 obtain ⟨o,ho,hc⟩:=he
 exact wpAny_bind (wpAny_isInstance (T:="StopIteration") (b:=true) ⟨o,ho,hc⟩ isSubtype_stop (wpAny_pure (hQ _ hk)))
noncomputable def sqObj (b:Bool)(l:Addr):Obj:={cls:=.type (if b then "list_iterator" else "tuple_iterator"),data:=.fields #[.ref l,.int 0 0]}
theorem pyIter_sq {b:Bool}{l:Addr}{xs:Array Value}{Q:Value->Shared->Prop}(hl:SqOf b s.heap l xs)(hQ:Q (.ref s.heap.objs.size) {s with heap:=s.heap.push (sqObj b l)}):wpAny (model prog w) A (pyIter (.ref l)) Q E s:=by
 cases b with
 | true=>exact wpAny_pyIter_list hl hQ
 | false=>exact wpAny_pyIter_tuple hl hQ
theorem sqObj_it {b:Bool}{h:Heap}{l i:Addr}(g:h.get? i=some (sqObj b l)):SqIt b h i l 0:=by
 cases b with
 | true=>exact ⟨_,g,rfl,rfl⟩
 | false=>exact ⟨_,g,rfl,rfl⟩
end
noncomputable abbrev zH1 (h:Heap)(b1:Bool)(l1:Addr):Heap:=h.push (sqObj b1 l1)
noncomputable abbrev zH2 (h:Heap)(b1 b2:Bool)(l1 l2:Addr):Heap:=(zH1 h b1 l1).push (sqObj b2 l2)
noncomputable abbrev zH3 (h:Heap)(b1 b2:Bool)(l1 l2:Addr):Heap:=(zH2 h b1 b2 l1 l2).push {cls:=.type "tuple",data:=.seq #[.ref h.objs.size,.ref (zH1 h b1 l1).objs.size]}
noncomputable abbrev zH4 (h:Heap)(b1 b2:Bool)(l1 l2:Addr):Heap:=(zH3 h b1 b2 l1 l2).push {cls:=.type "tuple",data:=.seq #[.none,.none]}
noncomputable abbrev zH5 (h:Heap)(b1 b2:Bool)(l1 l2:Addr):Heap:=(zH4 h b1 b2 l1 l2).push {cls:=.type "zip",data:=.fields #[.none,.bool false,.bool false,.ref (zH2 h b1 b2 l1 l2).objs.size,.ref (zH3 h b1 b2 l1 l2).objs.size]}
theorem SqOf.push {b:Bool}{h:Heap}{l:Addr}{xs:Array Value}(x:SqOf b h l xs)(o:Obj):SqOf b (h.push o) l xs:=x.at fun _ e=>Heap.get?_push_of_some _ e
theorem SqOf.lt {b:Bool}{h:Heap}{l:Addr}{xs:Array Value}(x:SqOf b h l xs):l<h.objs.size:=by
 cases b with
 | true=>obtain ⟨o,g,_⟩:=x;exact Heap.lt_size g
 | false=>obtain ⟨o,g,_⟩:=x;exact Heap.lt_size g
theorem meets_zip (b1 b2:Bool)(l1 l2:Addr)(xs ys:Array Value):
  Meets (Builtin.«zip.__new__» ⟨[.type "zip",.ref l1,.ref l2],[]⟩) (fun _ R s=>SqOf b1 s.heap l1 xs/\SqOf b2 s.heap l2 ys/\
   R (.ok (.ret (.ref (zH4 s.heap b1 b2 l1 l2).objs.size))) {s with heap:=zH5 s.heap b1 b2 l1 l2}):=
 .of_wp fun prog w A R s h=>by
  obtain ⟨hp,g,d,tk,os⟩:=s;obtain ⟨hl1,hl2,h⟩:=h
  have hsub:=sub_zip
  have hL2:SqOf b2 (Shared.heap ⟨hp.push (sqObj b1 l1),g,d,tk,os⟩) l2 ys:=hl2.push _
  wp_walk using pyIter_sq (hl1),pyIter_sq hL2
  exact ⟨_,rfl,h⟩
section
variable {prog:Program} {w:World} {A:Around} {E:Value->Shared->Prop} {s:Shared}
theorem call_zip {b1 b2:Bool}{l1 l2:Addr}{xs ys:Array Value}{Q:Value->Shared->Prop}(hl1:SqOf b1 s.heap l1 xs)(hl2:SqOf b2 s.heap l2 ys)
  (h:∀h',IsZip h' (s.heap.objs.size+4) (s.heap.objs.size+2) (s.heap.objs.size+3) .none->IsPair h' (s.heap.objs.size+2) (.ref s.heap.objs.size) (.ref (s.heap.objs.size+1))->
   IsPair h' (s.heap.objs.size+3) .none .none->SqIt b1 h' s.heap.objs.size l1 0->SqIt b2 h' (s.heap.objs.size+1) l2 0->
   (∀c o,s.heap.get? c=some o->h'.get? c=some o)->Q (.ref (s.heap.objs.size+4)) {s with heap:=h'}):
  wpAny (model prog w) A (call (.type "zip") [.ref l1,.ref l2]) Q E s:=by
 refine callType_new F.called_zip (by decide) (F.typeCall_zip_2 _ _) (F.newCall_zip_2 _ _) (fun obj=>F.args_object_init_3 obj _ _) F.entry_zip_new
  (meets_zip b1 b2 l1 l2 xs ys) ⟨hl1,hl2,?_⟩
 have z1:(zH1 s.heap b1 l1).objs.size=s.heap.objs.size+1:=Heap.size_push ..
 have z2:(zH2 s.heap b1 b2 l1 l2).objs.size=s.heap.objs.size+2:=by rw [Heap.size_push,z1]
 have z3:(zH3 s.heap b1 b2 l1 l2).objs.size=s.heap.objs.size+3:=by rw [Heap.size_push,z2]
 have z4:(zH4 s.heap b1 b2 l1 l2).objs.size=s.heap.objs.size+4:=by rw [Heap.size_push,z3]
 have g5:(zH5 s.heap b1 b2 l1 l2).get? (zH4 s.heap b1 b2 l1 l2).objs.size=some _:=Heap.get?_push_size _ rfl
 have g4:(zH5 s.heap b1 b2 l1 l2).get? (zH3 s.heap b1 b2 l1 l2).objs.size=some _:=Heap.get?_push_of_some _ (Heap.get?_push_size _ rfl)
 have g3:(zH5 s.heap b1 b2 l1 l2).get? (zH2 s.heap b1 b2 l1 l2).objs.size=some _:=Heap.get?_push_of_some _ (Heap.get?_push_of_some _ (Heap.get?_push_size _ rfl))
 have g2:(zH5 s.heap b1 b2 l1 l2).get? (zH1 s.heap b1 l1).objs.size=some (sqObj b2 l2):=Heap.get?_push_of_some _ (Heap.get?_push_of_some _ (Heap.get?_push_of_some _ (Heap.get?_push_size _ rfl)))
 show _/\_
 rw [z2,z3,z4] at g5
 rw [z1,z2] at g3
 rw [z3] at g4
 rw [z1] at g2
 rw [z4]
 exact ⟨⟨_,g5,rfl⟩,h _ g5 g3 g4 (sqObj_it (Heap.get?_push_of_some _ (Heap.get?_push_of_some _ (Heap.get?_push_of_some _ (Heap.get?_push_of_some _ (Heap.get?_push_size _ rfl)))))) (sqObj_it g2) fun c o x=>
  Heap.get?_push_of_some _ (Heap.get?_push_of_some _ (Heap.get?_push_of_some _ (Heap.get?_push_of_some _ (Heap.get?_push_of_some _ x))))⟩
end
inductive SD where
 | lst (ds:List D)
 | tup (ds:List D)
 | ref (a:Addr) (ds:List D)
noncomputable def SD.d:SD->D
 | .lst ds=>.lst ds
 | .tup ds=>.tup ds
 | .ref a _=>.ref a
noncomputable def SD.ds:SD->List D
 | .lst ds=>ds
 | .tup ds=>ds
 | .ref _ ds=>ds
noncomputable def SD.isL:SD->Bool
 | .tup _=>false
 | _=>true
noncomputable def SD.inv:SD->Sto->Prop
 | .ref a ds,σ=>(a,O.lst ds)∈σ
 | _,_=>True
noncomputable def SD.Fz (sd:SD)(K:List Addr)(h:Heap)(l:Addr):Prop:=match sd with
 | .lst ds=>l∉K/\∃vs n,h.get? l=some (lstObj vs n)/\Vs K h ds vs
 | .tup ds=>l∉K/\∃vs n,h.get? l=some (tupObj vs n)/\Vs K h ds vs
 | .ref a _=>l=a
theorem SD.Fz.move {sd:SD}{K K':List Addr}{h h':Heap}{l:Addr}(x:sd.Fz K h l)(sy:Stay K h h')(hl:Less K K' h):sd.Fz K' h' l:=by
 cases sd with
 | lst ds=>obtain ⟨a,vs,n,g,r⟩:=x;exact ⟨hl.nin a g,vs,n,sy _ _ a g,Vs.move sy hl _ _ r⟩
 | tup ds=>obtain ⟨a,vs,n,g,r⟩:=x;exact ⟨hl.nin a g,vs,n,sy _ _ a g,Vs.move sy hl _ _ r⟩
 | ref a ds=>exact x
theorem SD.Fz.get {c:Cx}{A:Around}{fr:List Addr}{σ:Sto}{sd:SD}{h:Heap}{l:Addr}(x:sd.Fz (keys σ++fr) h l)(ok:Ok c A fr σ h)(inv:sd.inv σ):∃vs:List Value,SqOf sd.isL h l vs.toArray/\Vs (keys σ++fr) h sd.ds vs:=by
 cases sd with
 | lst ds=>obtain ⟨a,vs,n,g,r⟩:=x;exact ⟨vs,⟨_,g,rfl,n,rfl⟩,r⟩
 | tup ds=>obtain ⟨a,vs,n,g,r⟩:=x;exact ⟨vs,⟨_,g,rfl,n,rfl⟩,r⟩
 | ref a ds=>
  obtain ⟨vs,n,g,r⟩:=ok.sto _ inv
  obtain rfl:l=a:=x
  exact ⟨vs,⟨_,g,rfl,n,rfl⟩,r⟩
theorem SD.of_v {sd:SD}{K:List Addr}{h:Heap}{v:Value}(x:V K h sd.d v):∃l,v=.ref l/\sd.Fz K h l:=by
 cases sd with
 | lst ds=>simp only [SD.d] at x;obtain ⟨a,vs,n,rfl,hk,g,r⟩:=x;exact ⟨a,rfl,hk,vs,n,g,r⟩
 | tup ds=>simp only [SD.d] at x;obtain ⟨a,vs,n,rfl,hk,g,r⟩:=x;exact ⟨a,rfl,hk,vs,n,g,r⟩
 | ref a ds=>simp only [SD.d] at x;exact ⟨a,x,rfl⟩
section
variable {c:Cx} {A:Around} {fr:List Addr} {σ:Sto} {X:Addr->Sto->Prop} {env:Env} {m:Vars}
theorem store_two {x y:Str}{px py tp:Pos}{k:Nat}{d1 d2:D}{v1 v2:Value}{T:Addr}{s:Shared}{F:List Addr}{Q:Unit->Shared->Prop}{E:Value->Shared->Prop}(hh:A.handled=none)(ok:Ok c A fr σ s.heap)(f:Fm env m fr (keys σ++fr) s.heap)(hT:IsPair s.heap T v1 v2)
  (hV1:V (keys σ++fr) s.heap d1 v1) (hV2:V (keys σ++fr) s.heap d2 v2) (hk1:env.kindOf x=some .local\/env.kindOf x=some .cell) (hk2:env.kindOf y=some .local\/env.kindOf y=some .cell)
  (hF:∀a,a∈tight env x\/a∈tight env y->a∈F)
  (h:∀h' tk,Fm env ((y,d2)::(x,d1)::m) fr (keys σ++fr) h'->Ok c A fr σ h'->Post F fr σ s {s with heap:=h',toks:=tk} σ->Q () {s with heap:=h',toks:=tk}):
  wpAny (model c.prog c.w) A (assign (.Tuple [.Name x px,.Name y py] k tp) env (.ref T)) Q E s:=by
 refine wpAny_assign_Tuple hh (items:= #[v1,v2]) ⟨_,hT,rfl,_,rfl⟩ rfl rfl fun h1 he1=> ?_
 have k1:=fun b o e=>he1 b o (heap_ne e) e
 have p1:Post [] fr σ s {s with heap:=h1,toks:=s.toks} σ:=Post.keeps k1
 refine wpAny_bind (wpAny_holding (wpAny_assign_Name ?_))
 refine store_fine (F:=F) (s:={s with heap:=h1}) (ok.keeps k1) (Fm.move (s:=s) (s':={s with heap:=h1,toks:=s.toks}) f p1) (V.move p1.stay p1.less _ _ hV1) hk1 ⟨fun z=>hF _ (.inl (tight_ok.1 z)),fun z cc e=>hF _ (.inl (tight_ok.2 z cc e))⟩ fun h2 tk2 fm2 ok2 p2=> ?_
 refine wpAny_bind (wpAny_holding (wpAny_assign_Name ?_))
 refine store_fine (F:=F) (s:={s with heap:=h2,toks:=tk2}) ok2 fm2 (V.move p2.stay p2.less _ _ (V.move p1.stay p1.less _ _ hV2)) hk2 ⟨fun z=>hF _ (.inr (tight_ok.1 z)),fun z cc e=>hF _ (.inr (tight_ok.2 z cc e))⟩ fun h3 tk3 fm3 ok3 p3=> ?_
 exact wpAny_pure (h h3 tk3 fm3 ok3 (((p1.wide (by exact List.nil_subset _)).trans p2).trans p3))
theorem pair_nd {h:Heap}{T:Addr}{a b:Value}(x:IsPair h T a b){o:Obj}(g:h.get? T=some o):∀es n,o.data≠.dict es n:=fun es n e=>by replace g:=(x ..).symm.trans g;obtain rfl:=Option.some.inj g;contradiction
theorem zip_nd {h:Heap}{z TI TO:Addr}{f0:Value}(x:IsZip h z TI TO f0){o:Obj}(g:h.get? z=some o):∀es n,o.data≠.dict es n:=fun es n e=>by replace g:=(x ..).symm.trans g;obtain rfl:=Option.some.inj g;contradiction
theorem sqit_nd {b:Bool}{h:Heap}{i l:Addr}{k:Nat}(x:SqIt b h i l k){o:Obj}(g:h.get? i=some o):∀es n,o.data≠.dict es n:=fun es n e=>by
 obtain ⟨o',vs,g',d'⟩:=x.there
 replace g:=(g' ..).symm.trans g;obtain rfl:=Option.some.inj g;replace e:=(d' ..).symm.trans e;contradiction
noncomputable def ZipSt (sd1 sd2:SD)(z TI TO i1 i2 l1 l2:Addr)(f0:Value)(i:Nat)(K:List Addr)(h:Heap):Prop:=
 IsZip h z TI TO f0/\IsPair h TI (.ref i1) (.ref i2)/\(∃a b,IsPair h TO a b)/\SqIt sd1.isL h i1 l1 i/\SqIt sd2.isL h i2 l2 i/\sd1.Fz K h l1/\sd2.Fz K h l2
theorem ZipSt.nd {sd1 sd2:SD}{z TI TO i1 i2 l1 l2:Addr}{f0:Value}{i:Nat}{K:List Addr}{h:Heap}(x:ZipSt sd1 sd2 z TI TO i1 i2 l1 l2 f0 i K h):∀b∈[z,TI,TO,i1,i2],∀o,h.get? b=some o->∀es n,o.data≠.dict es n:=fun b hb o g=>by
 obtain ⟨a1,a2,⟨_,_,a3⟩,a4,a5,_⟩:=x
 simp only [List.mem_cons,List.not_mem_nil,or_false] at hb
 rcases hb with rfl| rfl| rfl| rfl| rfl
 ·exact zip_nd a1 g
 ·exact pair_nd a2 g
 ·exact pair_nd a3 g
 ·exact sqit_nd a4 g
 ·exact sqit_nd a5 g
theorem ZipSt.live {sd1 sd2:SD}{z TI TO i1 i2 l1 l2:Addr}{f0:Value}{i:Nat}{K:List Addr}{h:Heap}(x:ZipSt sd1 sd2 z TI TO i1 i2 l1 l2 f0 i K h):∀b∈[z,TI,TO,i1,i2],∃o,h.get? b=some o:=fun b hb=>by
 obtain ⟨a1,a2,⟨_,_,a3⟩,a4,a5,_⟩:=x
 simp only [List.mem_cons,List.not_mem_nil,or_false] at hb
 rcases hb with rfl| rfl| rfl| rfl| rfl
 ·exact ⟨_,a1⟩
 ·exact ⟨_,a2⟩
 ·exact ⟨_,a3⟩
 ·obtain ⟨o,_,e,_⟩:=a4.there;exact ⟨o,e⟩
 ·obtain ⟨o,_,e,_⟩:=a5.there;exact ⟨o,e⟩
theorem ZipSt.move {sd1 sd2:SD}{z TI TO i1 i2 l1 l2:Addr}{f0:Value}{i:Nat}{K K':List Addr}{h h':Heap}(x:ZipSt sd1 sd2 z TI TO i1 i2 l1 l2 f0 i K h)(sy:Stay K h h')(hw:∀b∈[z,TI,TO,i1,i2],∀o,h.get? b=some o->h'.get? b=some o)(hl:Less K K' h):ZipSt sd1 sd2 z TI TO i1 i2 l1 l2 f0 i K' h':=by
 obtain ⟨a1,a2,⟨p,q,a3⟩,a4,a5,a6,a7⟩:=x
 exact ⟨hw z (by exact .head _) _ a1,hw TI (by simp) _ a2,⟨p,q,hw TO (by simp) _ a3⟩,a4.at fun o e=>hw i1 (by simp) o e,a5.at fun o e=>hw i2 (by simp) o e,a6.move sy hl,a7.move sy hl⟩
theorem Src.zip {x y:Str}{px py tp:Pos}{kt:Nat}{sd1 sd2:SD}{z TI TO i1 i2 l1 l2:Addr}(hh:A.handled=none)(D:ZipApart z TI TO i1 i2 l1 l2):
  Src c A (.Tuple [.Name x px,.Name y py] kt tp) z [z,TI,TO,i1,i2] ((sd1.ds.zip sd2.ds).map fun p=>[(y,p.2),(x,p.1)]) (fun σ'=>sd1.inv σ'/\sd2.inv σ') (ZipSt sd1 sd2 z TI TO i1 i2 l1 l2 .none)
   (fun i K h v=>∃T v1 v2 d1 d2,v=.ref T/\T∉[z,TI,TO,i1,i2]/\ZipSt sd1 sd2 z TI TO i1 i2 l1 l2 (rawInt T) (i+1) K h/\IsPair h T v1 v2/\sd1.ds[i]? =some d1/\sd2.ds[i]? =some d2/\V K h d1 v1/\V K h d2 v2) where
 nodict:=fun i K h st=>st.nd
 midnd:=fun i K h v st=>by obtain ⟨T,v1,v2,d1,d2,_,_,st,_⟩:=st;exact st.nd
 move:=fun i K K' h h' st sy hw hl=>st.move sy hw hl
 next:=fun i σ fr s Q E hi ok st inv hQ=>by
  obtain ⟨a1,a2,⟨p,q,a3⟩,a4,a5,a6,a7⟩:=id st
  obtain ⟨vs1,sq1,hv1⟩:=a6.get ok inv.1
  obtain ⟨vs2,sq2,hv2⟩:=a7.get ok inv.2
  simp only [List.length_map,List.length_zip] at hi
  have hi1:i<vs1.length:=by rw [hv1.length];exact z113 hi
  have hi2:i<vs2.length:=by rw [hv2.length];exact z112 hi
  refine pyNext_zip_item D a1 a2 a3 a4 a5 sq1 sq2 (x:=vs1[i]) (y:=vs2[i]) (by simp) (by simp) fun h' b1 b2 b3 b4 b5 hk=> ?_
  obtain ⟨d1,e1,w1⟩:=hv1.get (i:=i) (v:=vs1[i]) (by simp)
  obtain ⟨d2,e2,w2⟩:=hv2.get (i:=i) (v:=vs2[i]) (by simp)
  have sy:Stay (keys σ++([z,TI,TO,i1,i2]++fr)) s.heap h':=fun b o nb e=>hk b o (fun q=>nb (by rw [q];simp)) (fun q=>nb (by rw [q];simp)) (fun q=>nb (by rw [q];simp)) (fun q=>nb (by rw [q];simp)) e
  have ls:Less (keys σ++([z,TI,TO,i1,i2]++fr)) (keys σ++([z,TI,TO,i1,i2]++fr)) s.heap:=fun a ha=>.inl ha
  have hTI':IsPair h' TI (.ref i1) (.ref i2):=hk _ _ D.TIz D.TITO D.TIi1 D.TIi2 a2
  have st':ZipSt sd1 sd2 z TI TO i1 i2 l1 l2 (rawInt s.heap.objs.size) (i+1) (keys σ++([z,TI,TO,i1,i2]++fr)) h':=⟨b1,hTI',⟨_,_,b2⟩,b3,b4,a6.move sy ls,a7.move sy ls⟩
  refine hQ _ h' s.toks ⟨s.heap.objs.size,_,_,d1,d2,rfl,fun hm=> ?_,st',b5,e1,e2,V.move sy ls _ _ w1,V.move sy ls _ _ w2⟩ ⟨fun b o nb e=>hk b o (fun q=>nb (by rw [q];simp)) (fun q=>nb (by rw [q];simp)) (fun q=>nb (by rw [q];simp)) (fun q=>nb (by rw [q];simp)) e,st'.live⟩
  obtain ⟨o,g⟩:=st.live _ hm
  exact heap_ne g rfl
 put:=fun i σ fr F env m v s Q E yy hy mid ok fm hi hkind hF hnd hQ=>by
  obtain ⟨T,v1,v2,d1,d2,rfl,hT,st,hp,e1,e2,w1,w2⟩:=mid
  have hy':yy=[(y,d2),(x,d1)]:=by
   rw [List.getElem?_map,(List.getElem?_zip_eq_some (z:=(d1,d2))).mpr ⟨e1,e2⟩] at hy
   exact (Option.some.inj hy).symm
  subst hy'
  obtain ⟨a1,a2,⟨p,q,a3⟩,a4,a5,a6,a7⟩:=id st
  refine wpAny_letOwnedTupleGo_zip a1 fun h1 z1 sb1=> ?_
  have k1:∀b o,b≠z->s.heap.get? b=some o->h1.get? b=some o:=fun b o nb e=>(sb1.2 b nb).trans e
  have ow:Ow [z,TI,TO,i1,i2] s.heap h1:=⟨fun b o nb e=>k1 b o (fun q=>nb (by rw [q];simp)) e,fun b hb=>by
   by_cases q:b=z
   ·rw [q];exact ⟨_,z1⟩
   ·obtain ⟨o,g⟩:=st.live b hb;exact ⟨o,k1 b o q g⟩⟩
  have ok1:Ok c A ([z,TI,TO,i1,i2]++fr) σ h1:=ok.ow hnd ow
  have ndw:=ok.nd
  rw [List.nodup_append,List.nodup_append] at ndw
  have nfw:∀a∈fr,a∉[z,TI,TO,i1,i2]:=fun a ha hw=>ndw.2.1.2.2 a hw a ha rfl
  have fm1:=fm.ow (fun b hb=>List.mem_append_right _ (List.mem_append_left _ hb)) ⟨nfw _ hi.1,fun q hq=>nfw _ (hi.2 q hq)⟩ ow
  have sy1:Stay (keys σ++([z,TI,TO,i1,i2]++fr)) s.heap h1:=fun b o nb e=>k1 b o (fun q=>nb (by rw [q];simp)) e
  have ls:Less (keys σ++([z,TI,TO,i1,i2]++fr)) (keys σ++([z,TI,TO,i1,i2]++fr)) s.heap:=fun a ha=>.inl ha
  have hTz:T≠z:=fun q=>hT (by rw [q];simp)
  have st1:ZipSt sd1 sd2 z TI TO i1 i2 l1 l2 .none (i+1) (keys σ++([z,TI,TO,i1,i2]++fr)) h1:=
   ⟨z1,k1 _ _ D.TIz a2,⟨p,q,k1 _ _ D.TOz a3⟩,a4.at fun o e=>k1 _ o D.i1z e,a5.at fun o e=>k1 _ o D.i2z e,a6.move sy1 ls,a7.move sy1 ls⟩
  have tin:∀a,a∈tight env x\/a∈tight env y->a∈F:=fun a ha=>by
   rcases ha with ha| ha
   ·rcases tight_mem ha with z| ⟨kk,e⟩
    ·rw [z];exact hF.1
    ·exact hF.2 (x,d1) (by simp) kk _ e
   ·rcases tight_mem ha with z| ⟨kk,e⟩
    ·rw [z];exact hF.1
    ·exact hF.2 (y,d2) (by simp) kk _ e
  have tfr:∀a,a∈tight env x\/a∈tight env y->a∈fr:=fun a ha=>by
   rcases ha with ha| ha
   ·rcases tight_mem ha with z| ⟨kk,e⟩
    ·rw [z];exact hi.1
    ·exact hi.2 _ (mem_of_lookup e)
   ·rcases tight_mem ha with z| ⟨kk,e⟩
    ·rw [z];exact hi.1
    ·exact hi.2 _ (mem_of_lookup e)
  refine store_two (F:=tight env x++tight env y) (s:={s with heap:=h1}) hh ok1 fm1 (k1 _ _ hTz hp) (V.move sy1 ls _ _ w1) (V.move sy1 ls _ _ w2) (hkind (x,d1) (by simp)) (hkind (y,d2) (by simp)) (fun a ha=>by simpa [List.mem_append] using ha) fun h2 tk2 fm2 ok2 p2=> ?_
  have kw:∀b∈[z,TI,TO,i1,i2],∀o,h1.get? b=some o->h2.get? b=some o:=fun b hb o g=>by
   obtain ⟨sl,e1,r1⟩:=p2.slots b o (List.mem_append_left _ hb) (fun q=>nfw b (tfr b (by simpa [List.mem_append] using q)) hb) g
   have:=r1 (st1.nd b hb o g)
   subst this;exact e1
  refine hQ h2 tk2 (st1.move p2.stay kw p2.less) fm2 ok2 ?_
  have pa:Post ([z,TI,TO,i1,i2]++F) ([z,TI,TO,i1,i2]++fr) σ s {s with heap:=h1,toks:=s.toks} σ:=Post.ow ow
  exact pa.trans (p2.wide fun a ha=>List.mem_append_right _ (tin a (by simpa [List.mem_append] using ha)))
 done:=fun σ fr s Q E ok st inv hQ=>by
  obtain ⟨a1,a2,⟨p,q,a3⟩,a4,a5,a6,a7⟩:=id st
  obtain ⟨vs1,sq1,hv1⟩:=a6.get ok inv.1
  obtain ⟨vs2,sq2,hv2⟩:=a7.get ok inv.2
  have hend:vs1.toArray[((sd1.ds.zip sd2.ds).map fun p=>[(y,p.2),(x,p.1)]).length]? =none\/vs2.toArray[((sd1.ds.zip sd2.ds).map fun p=>[(y,p.2),(x,p.1)]).length]? =none:=by
   simp only [List.length_map,List.length_zip,List.getElem?_toArray,List.getElem?_eq_none_iff,hv1.length,hv2.length]
   exact z603
  exact pyNext_zip_end hh D a1 a2 a3 a4 a5 sq1 sq2 hend fun h' hk=>hQ h' s.toks fun b o nb e=>hk b o (fun q=>nb (by rw [q];simp)) (fun q=>nb (by rw [q];simp)) (fun q=>nb (by rw [q];simp)) (fun q=>nb (by rw [q];simp)) e
 self:=fun i K s Q E st hQ=>wpAny_pyIter_zip st.1 hQ
theorem WIt.zip (g:c.Good)(hh:A.handled=none){f:Str}{fp pos px py tp:Pos}{k:Nat}{e1 e2:Expr}{x y:Str}{Q:List Vars->(Sto->Prop)->Sto->Prop}(hk:env.kindOf f=some .globalImplicit)(hg:c.mg f=none)(hb:c.mb f=some (.type "zip"))
  (h:WE c A fr env m σ e1 (fun d1 σ1=>WE c A fr env m σ1 e2 (fun d2 σ2=>∃sd1 sd2:SD,d1=sd1.d/\d2=sd2.d/\sd1.inv σ2/\sd2.inv σ2/\Q ((sd1.ds.zip sd2.ds).map fun p=>[(y,p.2),(x,p.1)]) (fun σ'=>sd1.inv σ'/\sd2.inv σ') σ2) X) X) (hp:plainArgs [e1,e2]=true:=by rfl) (hdb:(f==("__debug__":Str))=false:=by decide):
  WIt c A fr env m σ (.Call (.Name f fp) [e1,e2] [] pos) (.Tuple [.Name x px,.Name y py] k tp) Q X:=by
 refine WIt.callT g hk hg hb (WA.cons (h.mono (fun d1 σ1 q=>WA.cons (q.mono (fun d2 σ2 q=>WA.nil ?_) fun _ _ y=>y) (starEach_cons (env:=env) hp).2) fun _ _ y=>y) hp) hp hdb
 intro s vals E ok fm hv
 obtain ⟨sd1,sd2,rfl,rfl,inv1,inv2,q⟩:=q
 obtain ⟨v1,r,rfl,hv1,hr⟩:=hv
 obtain ⟨v2,r,rfl,hv2,hr⟩:=hr
 subst hr
 obtain ⟨l1,rfl,z1⟩:=SD.of_v hv1
 obtain ⟨l2,rfl,z2⟩:=SD.of_v hv2
 obtain ⟨vs1,sq1,_⟩:=z1.get ok inv1
 obtain ⟨vs2,sq2,_⟩:=z2.get ok inv2
 refine call_zip sq1 sq2 fun h' hz hTI hTO hi1 hi2 hkp=> ?_
 refine wpAny_pyIter_zip hz ?_
 have D:=zipApart_new sq1.lt sq2.lt
 have fresh:∀a∈[s.heap.objs.size+4,s.heap.objs.size+2,s.heap.objs.size+3,s.heap.objs.size,s.heap.objs.size+1],s.heap.get? a=none:=fun a ha=>by
  simp only [List.mem_cons,List.not_mem_nil,or_false] at ha
  refine none_of_ge ?_
  rcases ha with rfl| rfl| rfl| rfl| rfl
  ·exact Nat.le_add_right ..
  ·exact Nat.le_add_right ..
  ·exact Nat.le_add_right ..
  ·exact Nat.le_refl _
  ·exact Nat.le_add_right ..
 have ls:=less_add (σ:=σ2) (fr:=fr) fresh
 have st:ZipSt sd1 sd2 (s.heap.objs.size+4) (s.heap.objs.size+2) (s.heap.objs.size+3) s.heap.objs.size (s.heap.objs.size+1) l1 l2 .none 0 (keys σ2++([s.heap.objs.size+4,s.heap.objs.size+2,s.heap.objs.size+3,s.heap.objs.size,s.heap.objs.size+1]++fr)) h':=
  ⟨hz,hTI,⟨_,_,hTO⟩,hi1,hi2,z1.move (fun b o _ e=>hkp b o e) ls,z2.move (fun b o _ e=>hkp b o e) ls⟩
 refine ⟨_,_,_,_,_,_,rfl,⟨h',s.toks,rfl⟩,hkp,fresh,st.live,?_,Src.zip hh D,st,⟨inv1,inv2⟩,q⟩
 simp only [List.nodup_cons,List.mem_cons,List.not_mem_nil,or_false,not_or,List.nodup_nil,and_true,not_false_eq_true]
 exact ⟨⟨D.TIz.symm,D.TOz.symm,D.i1z.symm,D.i2z.symm⟩,⟨D.TITO,D.TIi1,D.TIi2⟩,⟨D.TOi1,D.TOi2⟩,D.i12⟩
end
theorem V.ofInt {K:List Addr}{h:Heap}{i:Int}{t:Tok}:V K h (.int i) (.int i t):=by unfold V;exact ⟨t,rfl⟩
theorem V.ofBool {K:List Addr}{h:Heap}{b:Bool}:V K h (.bool b) (.bool b):=by unfold V;rfl
theorem V.toInt {K:List Addr}{h:Heap}{i:Int}{v:Value}(x:V K h (.int i) v):∃t,v=.int i t:=by unfold V at x;exact x
theorem V.toBool {K:List Addr}{h:Heap}{b:Bool}{v:Value}(x:V K h (.bool b) v):v=.bool b:=by unfold V at x;exact x
theorem V.toStr {K:List Addr}{h:Heap}{x:Str}{v:Value}(y:V K h (.str x) v):∃t,v=.str x t:=by unfold V at y;exact y
theorem V.toNone {K:List Addr}{h:Heap}{v:Value}(y:V K h .none v):v=.none:=by unfold V at y;exact y
section
variable {c:Cx} {A:Around} {fr:List Addr} {σ:Sto} {X:Addr->Sto->Prop} {env:Env} {m:Vars} {Q:D->Sto->Prop} {a b:Int}
theorem WB.add (h:Q (.int (a+b)) σ):WB c A fr σ (binaryOp .Add) (.int a) (.int b) Q X:=fun v1 v2 s ok x1 x2=>by
 obtain ⟨t,rfl⟩:=x1.toInt;obtain ⟨u,rfl⟩:=x2.toInt
 exact add_int ⟨_,σ,Post.tok ..,ok,V.ofInt,h⟩
theorem WB.sub (h:Q (.int (a-b)) σ):WB c A fr σ (binaryOp .Sub) (.int a) (.int b) Q X:=fun v1 v2 s ok x1 x2=>by
 obtain ⟨t,rfl⟩:=x1.toInt;obtain ⟨u,rfl⟩:=x2.toInt
 exact sub_int ⟨_,σ,Post.tok ..,ok,V.ofInt,h⟩
theorem WB.mul (hm:IntMulOk a b)(h:Q (.int (a*b)) σ):WB c A fr σ (binaryOp .Mult) (.int a) (.int b) Q X:=fun v1 v2 s ok x1 x2=>by
 obtain ⟨t,rfl⟩:=x1.toInt;obtain ⟨u,rfl⟩:=x2.toInt
 exact PyProof.Rows.mul_int ⟨_,σ,Post.tok ..,ok,V.ofInt,h⟩ hm
theorem log2_small {n:Nat}(h0:n≠0)(h:n<2^64):n.log2<9000:=by
 have:n.log2<64:=(Nat.log2_lt h0).mpr h
 exact z604 this
theorem WB.fdiv (hb:b≠0)(hs:b.natAbs<2^64)(h:Q (.int (a.fdiv b)) σ):WB c A fr σ (binaryOp .FloorDiv) (.int a) (.int b) Q X:=fun v1 v2 s ok x1 x2=>by
 obtain ⟨t,rfl⟩:=x1.toInt;obtain ⟨u,rfl⟩:=x2.toInt
 exact floordiv_int hb ⟨_,σ,Post.tok ..,ok,V.ofInt,h⟩ (.inl (PyProof.noPylong_of_log2 (log2_small (z605 hb) hs)))
theorem WB.mod (hb:b≠0)(hs:b.natAbs<2^64)(h:Q (.int (a.fmod b)) σ):WB c A fr σ (binaryOp .Mod) (.int a) (.int b) Q X:=fun v1 v2 s ok x1 x2=>by
 obtain ⟨t,rfl⟩:=x1.toInt;obtain ⟨u,rfl⟩:=x2.toInt
 exact PyProof.Rows.mod_int hb ⟨_,σ,Post.tok ..,ok,V.ofInt,h⟩
theorem WB.lt (h:Q (.bool (decide (a<b))) σ):WB c A fr σ (compareOp .Lt) (.int a) (.int b) Q X:=fun v1 v2 s ok x1 x2=>by
 obtain ⟨t,rfl⟩:=x1.toInt;obtain ⟨u,rfl⟩:=x2.toInt
 exact PyProof.Rows.lt_int ⟨_,σ,Post.refl ..,ok,V.ofBool,h⟩
theorem WB.le (h:Q (.bool (decide (a<=b))) σ):WB c A fr σ (compareOp .LtE) (.int a) (.int b) Q X:=fun v1 v2 s ok x1 x2=>by
 obtain ⟨t,rfl⟩:=x1.toInt;obtain ⟨u,rfl⟩:=x2.toInt
 exact PyProof.Rows.le_int ⟨_,σ,Post.refl ..,ok,V.ofBool,h⟩
theorem WB.gt (h:Q (.bool (decide (b<a))) σ):WB c A fr σ (compareOp .Gt) (.int a) (.int b) Q X:=fun v1 v2 s ok x1 x2=>by
 obtain ⟨t,rfl⟩:=x1.toInt;obtain ⟨u,rfl⟩:=x2.toInt
 exact PyProof.Rows.gt_int ⟨_,σ,Post.refl ..,ok,V.ofBool,h⟩
theorem WB.ge (h:Q (.bool (decide (b<=a))) σ):WB c A fr σ (compareOp .GtE) (.int a) (.int b) Q X:=fun v1 v2 s ok x1 x2=>by
 obtain ⟨t,rfl⟩:=x1.toInt;obtain ⟨u,rfl⟩:=x2.toInt
 exact PyProof.Rows.ge_int ⟨_,σ,Post.refl ..,ok,V.ofBool,h⟩
theorem WB.eqI (h:Q (.bool (a==b)) σ):WB c A fr σ (compareOp .Eq) (.int a) (.int b) Q X:=fun v1 v2 s ok x1 x2=>by
 obtain ⟨t,rfl⟩:=x1.toInt;obtain ⟨u,rfl⟩:=x2.toInt
 exact PyProof.Rows.eq_int ⟨_,σ,Post.refl ..,ok,V.ofBool,h⟩
theorem WB.neI (h:Q (.bool (a !=b)) σ):WB c A fr σ (compareOp .NotEq) (.int a) (.int b) Q X:=fun v1 v2 s ok x1 x2=>by
 obtain ⟨t,rfl⟩:=x1.toInt;obtain ⟨u,rfl⟩:=x2.toInt
 exact PyProof.Rows.ne_int ⟨_,σ,Post.refl ..,ok,V.ofBool,h⟩
theorem WU.neg (h:Q (.int (-a)) σ):WU c A fr σ (unaryOp .USub) (.int a) Q X:=fun v1 s ok x1=>by
 obtain ⟨t,rfl⟩:=x1.toInt
 exact PyProof.Rows.neg_int ⟨_,σ,Post.tok ..,ok,V.ofInt,h⟩
theorem WE.nType (g:c.Good){f:Str}{fp:Pos}{T:String}(hk:env.kindOf f=some .globalImplicit)(hg:c.mg f=Option.none)(hb:c.mb f=some (.type T))(h:Q (.typ T) σ)(hdb:(f==("__debug__":Str))=false:=by decide):WE c A fr env m σ (.Name f fp) Q X:=fun s ok fm=>
 Name_function_global fm.kind hk (loadGlobal_builtin (by rw [fm.glob];exact g.g.keeps ok.base) hg (by rw [fm.bui];exact g.b.keeps ok.base) hb ⟨_,σ,Post.refl ..,ok,by rfl,h⟩) hdb
theorem WE.nInt (g:c.Good){f:Str}{fp:Pos}{i:Int}{t:Tok}(hk:env.kindOf f=some .globalImplicit)(hg:c.mg f=some (.int i t))(h:Q (.int i) σ)(hdb:(f==("__debug__":Str))=false:=by decide):WE c A fr env m σ (.Name f fp) Q X:=fun s ok fm=>
 Name_function_global fm.kind hk (loadGlobal_global (by exact fm.glob▸g.g.keeps ok.base) hg ⟨_,σ,Post.refl ..,ok,V.ofInt,h⟩) hdb
end
noncomputable def tyOf (σ:Sto):D->Option String
 | .none=>some "NoneType"
 | .bool _=>some "bool"
 | .int _=>some "int"
 | .str _=>some "str"
 | .tup _=>some "tuple"
 | .lst _=>some "list"
 | .ref a=>match σ.lookup a with| some (.lst _)=>some "list"| _=>none
 | _=>none
noncomputable def isT (σ:Sto)(T:String)(d:D):Option Bool:=(tyOf σ d).map fun t=>t==T|| (t=="bool"&&T=="int")
theorem mem_of_lookup' {a:Addr}{o:O}:∀{σ:Sto},σ.lookup a=some o->(a,o)∈σ
 | [],h=>by contradiction
 | (b,o')::r,h=>by
  dsimp only [List.lookup_cons] at h
  by_cases q:(a==b)=true
  ·simp only [q] at h;obtain rfl:=Option.some.inj h;exact (beq_iff_eq.mp q)▸List.mem_cons_self
  ·simp only [q] at h;exact List.mem_cons_of_mem _ (mem_of_lookup' h)
theorem V.typeIs {c:Cx}{A:Around}{fr:List Addr}{σ:Sto}{s:Shared}{d:D}{v:Value}{t:String}(ok:Ok c A fr σ s.heap)(x:V (keys σ++fr) s.heap d v)(e:tyOf σ d=some t):s.TypeIs v t:=by
 cases d with
 | none=>obtain rfl:=Option.some.inj e;rw [x.toNone];rfl
 | bool b=>injection e with e;subst e;rw [x.toBool];rfl
 | int i=>injection e with e;subst e;obtain ⟨t,rfl⟩:=x.toInt;rfl
 | str y=>injection e with e;subst e;obtain ⟨t,rfl⟩:=x.toStr;rfl
 | tup ds=>cases e;obtain ⟨a,vs,n,rfl,_,g,_⟩:=x;exact ⟨_,g,rfl⟩
 | lst ds=>cases e;obtain ⟨a,vs,n,rfl,_,g,_⟩:=x;exact ⟨_,g,rfl⟩
 | ref a=>
  subst x
  dsimp only [tyOf] at e
  split at e
  ·rename_i ds hl
   obtain rfl:=Option.some.inj e
   obtain ⟨vs,n,g,_⟩:=ok.sto _ (mem_of_lookup' hl)
   exact ⟨_,g,rfl⟩
  ·contradiction
 | _=>contradiction
noncomputable def isiTypes:List String:=["int","bool","list","tuple","str"]
noncomputable def isiFrom:List String:=["NoneType","bool","int","str","tuple","list"]
theorem isi_meta {T:String}(h:T∈isiTypes):typeOf (.type T)=pure (.type "type"):=by
 simp only [isiTypes,List.mem_cons,List.not_mem_nil,or_false] at h
 rcases h with rfl| rfl| rfl| rfl| rfl<;>kernel_rfl
theorem isi_sub {t T:String}(ht:t∈isiFrom)(hT:T∈isiTypes):isSubtype (.type t) (.type T)=pure (t==T|| (t=="bool"&&T=="int")):=by
 simp only [isiTypes,isiFrom,List.mem_cons,List.not_mem_nil,or_false] at ht hT
 rcases ht with rfl| rfl| rfl| rfl| rfl| rfl<;>rcases hT with rfl| rfl| rfl| rfl| rfl<;>(kernel_rfl)
theorem tyOf_mem {σ:Sto}{d:D}{t:String}(h:tyOf σ d=some t):t∈isiFrom:=by
 cases d<;>dsimp only [tyOf] at h
 all_goals first| (contradiction;done)| (obtain rfl:=Option.some.inj h;decide)| (split at h;(obtain rfl:=Option.some.inj h;decide);contradiction)
section
variable {c:Cx} {A:Around} {fr:List Addr} {σ:Sto} {X:Addr->Sto->Prop} {env:Env} {m:Vars} {Q:D->Sto->Prop}
theorem call_isi {d:D}{T:String}{b:Bool}{s:Shared}{v:Value}(hT:T∈isiTypes)(hb:isT σ T d=some b)(ok:Ok c A fr σ s.heap)(hv:V (keys σ++fr) s.heap d v)(h:Q (.bool b) σ):W c A none fr σ (call (.builtin "isinstance") [v,.type T]) V Q X s:=by
 unfold isT at hb
 cases ht:tyOf σ d with
 | none=>rw [ht] at hb;contradiction
 | some t=>
  rw [ht] at hb
  have hb':(t==T|| (t=="bool"&&T=="int"))=b:=Option.some.inj hb
  have hty:=hv.typeIs ok ht
  have hm:=isi_meta hT
  have hsub:=isi_sub (tyOf_mem ht) hT
  rw [hb'] at hsub
  cases b with
  | true=>exact call_isinstance (isinstance_true hm hsub) ⟨hty,⟨_,σ,Post.refl ..,ok,V.ofBool,h⟩⟩
  | false=>
   have hne:(Value.type t==Value.type T)=false:=by
    rw [Bool.or_eq_false_iff] at hb'
    have:=hb'.1
    simp only [beq_eq_false_iff_ne,ne_eq] at this⊢
    intro z;exact this (by injection z)
   have hq:Po c A none fr σ s V Q (.bool false) {s with toks:=s.toks+1}:=⟨_,σ,Post.tok ..,ok,V.ofBool,h⟩
   cases d with
   | none=>obtain rfl:=Option.some.inj ht;exact hv.toNone▸call_isinstance (isinstance_false_none hne hm hsub) hq
   | bool b=>injection ht with ht;subst ht;exact hv.toBool▸call_isinstance (isinstance_false_bool hne hm hsub) hq
   | int i=>injection ht with ht;subst ht;obtain ⟨t,rfl⟩:=hv.toInt;exact call_isinstance (isinstance_false_int hne hm hsub) hq
   | str y=>injection ht with ht;subst ht;obtain ⟨t,rfl⟩:=hv.toStr;exact call_isinstance (isinstance_false_str hne hm hsub) hq
   | tup ds=>cases ht;obtain ⟨a,vs,n,rfl,_,g,_⟩:=hv;exact call_isinstance (isinstance_false_tuple hne hm hsub) ⟨⟨_,g,rfl⟩,hq⟩
   | lst ds=>cases ht;obtain ⟨a,vs,n,rfl,_,g,_⟩:=hv;exact call_isinstance (isinstance_false_list hne hm hsub) ⟨⟨_,g,rfl⟩,hq⟩
   | ref a=>
    subst hv
    obtain ⟨o,g,hc⟩:=hty
    dsimp only [tyOf] at ht
    split at ht
    ·obtain rfl:=Option.some.inj ht;exact call_isinstance (isinstance_false_list hne hm hsub) ⟨⟨_,g,hc⟩,hq⟩
    ·contradiction
   | _=>contradiction
end
section
variable {c:Cx} {A:Around} {fr:List Addr} {σ:Sto} {X:Addr->Sto->Prop} {env:Env} {m:Vars} {Q:D->Sto->Prop}
theorem sd_walk {sd:SD}{v:Value}{s:Shared}{B:Around}(hh:B.handled=none)(ok:Ok c A fr σ s.heap)(hv:V (keys σ++fr) s.heap sd.d v)(inv:sd.inv σ){Qi:Value->Shared->Prop}{E:Value->Shared->Prop}
  (h:∀(l I:Addr) (vs:List Value) (St:Nat->Heap->Prop) (h':Heap),v=.ref l->Walks c.prog c.w B I [I,l] [I] vs.length (fun i v=>vs[i]? =some v) St->St 0 h'->(∀b∈[I,l],b<h'.objs.size)->(∀b o,s.heap.get? b=some o->h'.get? b=some o)->s.heap.get? I=none->Vs (keys σ++fr) s.heap sd.ds vs->Qi (.ref I) {s with heap:=h'}):
  wpAny (model c.prog c.w) B (pyIter v) Qi E s:=by
 obtain ⟨l,rfl,z⟩:=SD.of_v hv
 obtain ⟨vs,sq,hvs⟩:=z.get ok inv
 refine pyIter_sq sq ?_
 have hlt:=sq.lt
 have hne:=Nat.ne_of_lt hlt
 have hb:∀b∈[s.heap.objs.size,l],b<(s.heap.push (sqObj sd.isL l)).objs.size:=fun b hb=>by
  rw [Heap.size_push]
  simp only [List.mem_cons,List.not_mem_nil,or_false] at hb
  rcases hb with rfl| rfl
  ·exact Nat.lt_succ_self _
  ·exact Nat.lt_succ_of_lt hlt
 have hk:∀b o,s.heap.get? b=some o->(s.heap.push (sqObj sd.isL l)).get? b=some o:=fun b o e=>Heap.get?_push_of_some _ e
 have hI:s.heap.get? s.heap.objs.size=none:=none_of_ge (Nat.le_refl _)
 have hit:SqIt sd.isL (s.heap.push (sqObj sd.isL l)) s.heap.objs.size l 0:=sqObj_it (Heap.get?_push_size _ rfl)
 have hsq:SqOf sd.isL (s.heap.push (sqObj sd.isL l)) l vs.toArray:=sq.push _
 cases hL:sd.isL with
 | true=>
  rw [hL] at hit hsq hb hk
  have W:=Walks.list (prog:=c.prog) (w:=c.w) hh s.heap.objs.size l hne vs.toArray
  simp only [List.size_toArray,List.getElem?_toArray] at W
  exact h l _ vs _ _ rfl W ⟨hit,hsq⟩ hb hk hI hvs
 | false=>
  rw [hL] at hit hsq hb hk
  have W:=Walks.tuple (prog:=c.prog) (w:=c.w) hh s.heap.objs.size l hne vs.toArray
  simp only [List.size_toArray,List.getElem?_toArray] at W
  exact h l _ vs _ _ rfl W ⟨hit,hsq⟩ hb hk hI hvs
theorem walk_end {s:Shared}{h1 h':Heap}{I:Addr}{tk:Nat}{v:Value}{d:D}(ok:Ok c A fr σ s.heap)(k1:∀b o,s.heap.get? b=some o->h1.get? b=some o)(hI:s.heap.get? I=none)(k2:∀b o,b∉[I]->h1.get? b=some o->h'.get? b=some o)
  (hv:V (keys σ++fr) h' d v) (h:Q d σ):Po c A none fr σ s V Q v {s with heap:=h',toks:=tk}:=by
 have k:=fun b o e=>k2 b o (fun z=>by simp only [List.mem_singleton.mp z,hI] at e;contradiction) (k1 b o e)
 exact ⟨d,σ,Post.keeps k,ok.keeps k,hv,h⟩
theorem ints_get {K:List Addr}{h:Heap}{is:List Int}{vs:List Value}(hv:Vs K h (is.map D.int) vs){i:Nat}{v:Value}(e:vs[i]? =some v):∃t,v=.int (is[i]?.getD 0) t:=by
 obtain ⟨d,hd,hV⟩:=hv.get e
 replace hd:=(List.getElem?_map ..).symm.trans hd
 cases hi:is[i]? with
 | none=>rw [hi] at hd;contradiction
 | some n=>rw [hi] at hd;obtain rfl:=Option.some.inj hd;exact hV.toInt
theorem bools_get {K:List Addr}{h:Heap}{bs:List Bool}{vs:List Value}(hv:Vs K h (bs.map D.bool) vs){i:Nat}{v:Value}(e:vs[i]? =some v):v=.bool (bs[i]?.getD false):=by
 obtain ⟨d,hd,hV⟩:=hv.get e
 replace hd:=(List.getElem?_map ..).symm.trans hd
 cases hi:bs[i]? with
 | none=>rw [hi] at hd;contradiction
 | some n=>rw [hi] at hd;obtain rfl:=Option.some.inj hd;exact hV.toBool
theorem range_all (bs:List Bool):(List.range bs.length).all (fun i=>bs[i]?.getD false)=bs.all id:=by
 rw [Bool.eq_iff_iff,List.all_eq_true,List.all_eq_true]
 constructor
 ·intro h b hb
  obtain ⟨i,hi,e⟩:=List.mem_iff_getElem.mp hb
  have:=h i (List.mem_range.mpr hi)
  simp only [List.getElem?_eq_getElem hi,e] at this
  exact this
 ·intro h i hi
  have hi:=List.mem_range.mp hi
  simp only [List.getElem?_eq_getElem hi,Option.getD_some]
  exact h _ (List.getElem_mem hi)
theorem range_any (bs:List Bool):(List.range bs.length).any (fun i=>bs[i]?.getD false)=bs.any id:=by
 rw [Bool.eq_iff_iff,List.any_eq_true,List.any_eq_true]
 constructor
 ·rintro ⟨i,hi,h⟩
  have hi:=List.mem_range.mp hi
  rw [List.getElem?_eq_getElem hi] at h
  exact ⟨_,List.getElem_mem hi,h⟩
 ·rintro ⟨b,hb,h⟩
  obtain ⟨i,hi,e⟩:=List.mem_iff_getElem.mp hb
  refine ⟨i,List.mem_range.mpr hi,?_⟩
  rw [List.getElem?_eq_getElem hi,e]
  exact h
theorem call_all {sd:SD}{bs:List Bool}{s:Shared}{v:Value}(hh:A.handled=none)(hd:sd.ds=bs.map D.bool)(inv:sd.inv σ)(ok:Ok c A fr σ s.heap)(hv:V (keys σ++fr) s.heap sd.d v)(h:Q (.bool (bs.all id)) σ):W c A none fr σ (call (.builtin "all") [v]) V Q X s:=by
 refine call_all_walk (sd_walk (B:=A.in1) hh ok hv inv fun l I vs St h1 e W st hb k1 hI hvs=> ?_)
 simp only [hd] at hvs
 refine ⟨I,_,_,_,_,_,fun i=>bs[i]?.getD false,rfl,W,st,fun i v s Q E hp hq=> ?_,fun h' tk hk=> ?_⟩
 ·exact (bools_get hvs hp)▸wpAny_truthy_bool hq
 ·refine walk_end ok k1 hI hk V.ofBool ?_
  rw [(by rw [hvs.length];simp:vs.length=bs.length),range_all];exact h
theorem call_any {sd:SD}{bs:List Bool}{s:Shared}{v:Value}(hh:A.handled=none)(hd:sd.ds=bs.map D.bool)(inv:sd.inv σ)(ok:Ok c A fr σ s.heap)(hv:V (keys σ++fr) s.heap sd.d v)(h:Q (.bool (bs.any id)) σ):W c A none fr σ (call (.builtin "any") [v]) V Q X s:=by
 refine call_any_walk (sd_walk (B:=A.in1) hh ok hv inv fun l I vs St h1 e W st hb k1 hI hvs=> ?_)
 simp only [hd] at hvs
 refine ⟨I,_,_,_,_,_,fun i=>bs[i]?.getD false,rfl,W,st,fun i v s Q E hp hq=> ?_,fun h' tk hk=> ?_⟩
 ·exact (bools_get hvs hp)▸wpAny_truthy_bool hq
 ·refine walk_end ok k1 hI hk V.ofBool ?_
  rw [(by rw [hvs.length];simp:vs.length=bs.length),range_any];exact h
end
theorem preSum_get (is:List Int):∀n,n<=is.length->preSum (fun i=>is[i]?.getD 0) n=(is.take n).sum
 | 0,_=>by simp [preSum]
 | n+1,h=>by
  have hn:n<is.length:=h
  simp only [preSum,preSum_get is n (Nat.le_of_lt hn),List.take_succ_eq_append_getElem hn,List.sum_append]
  simp [List.getElem?_eq_getElem hn]
noncomputable def minL:List Int->Int
 | []=>0
 | a::r=>r.foldl min a
noncomputable def maxL:List Int->Int
 | []=>0
 | a::r=>r.foldl max a
theorem argBest_min (a:Int)(r:List Int):∀n,n<(a::r).length->((a::r)[argBest (fun i j=>decide ((a::r)[i]?.getD 0<(a::r)[j]?.getD 0)) n]?.getD 0)=minL ((a::r).take (n+1))/\argBest (fun i j=>decide ((a::r)[i]?.getD 0<(a::r)[j]?.getD 0)) n<=n
 | 0,_=>by simp [argBest,minL]
 | n+1,h=>by
  obtain ⟨ih,ih2⟩:=argBest_min a r n (z606 h)
  have e2:minL ((a::r).take (n+2))=min (minL ((a::r).take (n+1))) ((a::r)[n+1]):=by
   rw [(List.take_succ_eq_append_getElem h)]
   simp only [List.take_succ_cons,minL,List.cons_append,List.foldl_append,List.foldl_cons,List.foldl_nil]
  simp only [e2,argBest]
  by_cases q:decide ((a::r)[n+1]?.getD 0<(a::r)[argBest (fun i j=>decide ((a::r)[i]?.getD 0<(a::r)[j]?.getD 0)) n]?.getD 0)=true
  ·rw [if_pos q]
   refine ⟨?_,Nat.le_refl _⟩
   have q':=of_decide_eq_true q
   rw [ih] at q'
   simp only [List.getElem?_eq_getElem h,Option.getD_some] at q'⊢
   exact z607 q'
  ·rw [if_neg q]
   refine ⟨?_,Nat.le_succ_of_le ih2⟩
   have q':¬_:=fun z=>q (decide_eq_true z)
   rw [ih] at q'
   simp only [ih]
   simp only [List.getElem?_eq_getElem h,Option.getD_some] at q'
   exact z608 q'
theorem argBest_max (a:Int)(r:List Int):∀n,n<(a::r).length->((a::r)[argBest (fun i j=>decide ((a::r)[j]?.getD 0<(a::r)[i]?.getD 0)) n]?.getD 0)=maxL ((a::r).take (n+1))/\argBest (fun i j=>decide ((a::r)[j]?.getD 0<(a::r)[i]?.getD 0)) n<=n
 | 0,_=>by simp [argBest,maxL]
 | n+1,h=>by
  obtain ⟨ih,ih2⟩:=argBest_max a r n (z606 h)
  have e2:maxL ((a::r).take (n+2))=max (maxL ((a::r).take (n+1))) ((a::r)[n+1]):=by
   rw [(List.take_succ_eq_append_getElem h)]
   simp only [List.take_succ_cons,maxL,List.cons_append,List.foldl_append,List.foldl_cons,List.foldl_nil]
  simp only [e2,argBest]
  by_cases q:decide ((a::r)[argBest (fun i j=>decide ((a::r)[j]?.getD 0<(a::r)[i]?.getD 0)) n]?.getD 0<(a::r)[n+1]?.getD 0)=true
  ·rw [if_pos q]
   refine ⟨?_,Nat.le_refl _⟩
   have q':=of_decide_eq_true q
   rw [ih] at q'
   simp only [List.getElem?_eq_getElem h,Option.getD_some] at q'⊢
   exact z609 q'
  ·rw [if_neg q]
   refine ⟨?_,Nat.le_succ_of_le ih2⟩
   have q':¬_:=fun z=>q (decide_eq_true z)
   rw [ih] at q'
   simp only [ih]
   simp only [List.getElem?_eq_getElem h,Option.getD_some] at q'
   exact z610 q'
section
variable {c:Cx} {A:Around} {fr:List Addr} {σ:Sto} {X:Addr->Sto->Prop} {env:Env} {m:Vars} {Q:D->Sto->Prop}
theorem call_sum {sd:SD}{is:List Int}{s:Shared}{v:Value}(hh:A.handled=none)(hd:sd.ds=is.map D.int)(inv:sd.inv σ)(ok:Ok c A fr σ s.heap)(hv:V (keys σ++fr) s.heap sd.d v)(h:Q (.int is.sum) σ):W c A none fr σ (call (.builtin "sum") [v]) V Q X s:=by
 refine call_sum_walkAnyS (sd_walk (B:=A.in1) hh ok hv inv fun l I vs St h1 e W st hb k1 hI hvs=> ?_)
 simp only [hd] at hvs
 refine ⟨I,_,_,_,_,_,_,fun i=>is[i]?.getD 0,rfl,W.toS,st,hb,fun i v hp=>ints_get hvs hp,fun s' t' mv=> ?_⟩
 obtain ⟨h2,g2,d2,tk2,os2⟩:=s'
 obtain ⟨a1,a2,a3,a4,a5⟩:=mv
 simp only at a1 a2 a3 a4 a5
 subst a2 a3 a4
 exact (walk_end (Q:=Q) (tk:=tk2) (d:=.int is.sum) (v:=.int (preSum (fun i=>is[i]?.getD 0) vs.length) t') ok k1 hI a1 (by simp only [(by rw [hvs.length];simp:vs.length=is.length),preSum_get is _ (Nat.le_refl _),List.take_length];exact V.ofInt) h)
theorem call_min {sd:SD}{is:List Int}{s:Shared}{v:Value}(hh:A.handled=none)(hd:sd.ds=is.map D.int)(hne:is≠[])(inv:sd.inv σ)(ok:Ok c A fr σ s.heap)(hv:V (keys σ++fr) s.heap sd.d v)(h:Q (.int (minL is)) σ):W c A none fr σ (call (.builtin "min") [v]) V Q X s:=by
 refine call_min_walk (sd_walk (B:=A.in1) hh ok hv inv fun l I vs St h1 e W st hb k1 hI hvs=> ?_)
 simp only [hd] at hvs
 have hl:vs.length=is.length:=by rw [hvs.length];simp
 cases is with
 | nil=>exact absurd rfl hne
 | cons a r=>
  refine ⟨I,_,_,_,_,_,fun i j=>decide ((a::r)[i]?.getD 0<(a::r)[j]?.getD 0),rfl,W,st,hb,by rw [hl];simp,fun i j vi vj s Q E h1 h2 hq=> ?_,fun v h' tk hp hk=> ?_⟩
  ·obtain ⟨t,rfl⟩:=ints_get hvs h1;obtain ⟨u,rfl⟩:=ints_get hvs h2
   exact PyProof.Rows.lt_int hq
  ·obtain ⟨t,rfl⟩:=ints_get hvs hp
   refine walk_end ok k1 hI hk V.ofInt ?_
   rw [(by rw [hl];rfl:vs.length-1=r.length),((argBest_min a r r.length (by simp)).1)]
   rw [(by simp:(a::r).take (r.length+1)=a::r)];exact h
theorem call_max {sd:SD}{is:List Int}{s:Shared}{v:Value}(hh:A.handled=none)(hd:sd.ds=is.map D.int)(hne:is≠[])(inv:sd.inv σ)(ok:Ok c A fr σ s.heap)(hv:V (keys σ++fr) s.heap sd.d v)(h:Q (.int (maxL is)) σ):W c A none fr σ (call (.builtin "max") [v]) V Q X s:=by
 refine call_max_walk (sd_walk (B:=A.in1) hh ok hv inv fun l I vs St h1 e W st hb k1 hI hvs=> ?_)
 simp only [hd] at hvs
 have hl:vs.length=is.length:=by rw [hvs.length];simp
 cases is with
 | nil=>exact absurd rfl hne
 | cons a r=>
  refine ⟨I,_,_,_,_,_,fun i j=>decide ((a::r)[j]?.getD 0<(a::r)[i]?.getD 0),rfl,W,st,hb,by rw [hl];simp,fun i j vi vj s Q E h1 h2 hq=> ?_,fun v h' tk hp hk=> ?_⟩
  ·obtain ⟨t,rfl⟩:=ints_get hvs h1;obtain ⟨u,rfl⟩:=ints_get hvs h2
   exact PyProof.Rows.gt_int hq
  ·obtain ⟨t,rfl⟩:=ints_get hvs hp
   refine walk_end ok k1 hI hk V.ofInt ?_
   rw [(by rw [hl];rfl:vs.length-1=r.length),((argBest_max a r r.length (by simp)).1)]
   rw [(by simp:(a::r).take (r.length+1)=a::r)];exact h
theorem call_len {sd:SD}{s:Shared}{v:Value}(inv:sd.inv σ)(ok:Ok c A fr σ s.heap)(hv:V (keys σ++fr) s.heap sd.d v)(hfit:sd.ds.length<2^62)(h:Q (.int sd.ds.length) σ):W c A none fr σ (call (.builtin "len") [v]) V Q X s:=by
 obtain ⟨l,rfl,z⟩:=SD.of_v hv
 obtain ⟨vs,sq,hvs⟩:=z.get ok inv
 have hl:=hvs.length
 have hq:Po c A none fr σ s V Q (.int vs.toArray.size (s.toks+1)) {s with toks:=s.toks+1+1}:=⟨.int sd.ds.length,σ,Post.tok ..,ok,by simp only [List.size_toArray,hl];exact V.ofInt,h⟩
 have hfit':(vs.toArray.size:Int)<2^63:=by rw [List.size_toArray,hl];exact z611 hfit
 cases hL:sd.isL with
 | true=>rw [hL] at sq;exact Calls.call_len_list sq hfit' hq
 | false=>rw [hL] at sq;exact PyProof.Rows.len_tuple sq hfit' hq
noncomputable def idx (k:Int)(n:Nat):Nat:=if k<0 then (k+n).toNat else k.toNat
noncomputable def WSb (c:Cx)(A:Around)(fr:List Addr)(σ:Sto)(value slice:Expr)(d1 d2:D)(Q:D->Sto->Prop)(X:Addr->Sto->Prop):Prop:=
 ∀v1 v2 s,Ok c A fr σ s.heap->V (keys σ++fr) s.heap d1 v1->V (keys σ++fr) s.heap d2 v2->W c A none fr σ (subscriptTail value slice v1 v2) V Q X s
theorem WE.sub {value slice:Expr}{pos:Pos}(h:WE c A fr env m σ value (fun d1 σ1=>WE c A fr env m σ1 slice (fun d2 σ2=>WSb c A fr σ2 value slice d1 d2 Q X) X) X):WE c A fr env m σ (.Subscript value slice pos) Q X:=fun s ok fm=>by
 refine Subscript_ (wpAny_mono (h s ok fm) (fun v1 s1 hz=> ?_) fun _ _ x=>x)
 obtain ⟨d1,σ1,p1,ok1,x1,q1⟩:=hz
 refine wpAny_mono (q1 s1 ok1 (fm.move p1)) (fun v2 s2 hz=> ?_) fun _ _ x=>Ex.back p1 x fun _ _ y=>y
 obtain ⟨d2,σ2,p2,ok2,x2,q2⟩:=hz
 exact wpAny_mono (q2 v1 v2 s2 ok2 (p2.v x1) x2) (fun _ _ z=>z.back (p1.trans p2)) fun _ _ x=>Ex.back (p1.trans p2) x fun _ _ y=>y
theorem WSb.item {value slice:Expr}{sd:SD}{k:Int}{d:D}(inv:sd.inv σ)(h0: -(2^63)<=k)(h1:k<2^63)(hk: -(sd.ds.length:Int)<=k)(hi:sd.ds[idx k sd.ds.length]? =some d)(h:Q d σ)
  (hs:∀l u,subscripted slice false (.ref l) (.int k u)=operate [.ref l,.int k u] (getItem (.ref l) (.int k u)):=by intro _ _;with_unfolding_all rfl):WSb c A fr σ value slice sd.d (.int k) Q X:=fun v1 v2 s ok x1 x2=>by
 obtain ⟨l,rfl,z⟩:=SD.of_v x1
 obtain ⟨u,rfl⟩:=x2.toInt
 obtain ⟨vs,sq,hvs⟩:=z.get ok inv
 have hl:=hvs.length
 obtain ⟨v,e,hV⟩:=hvs.got hi
 have hq:Po c A none fr σ s V Q v s:=⟨d,σ,Post.refl ..,ok,hV,h⟩
 unfold idx at e
 cases hL:sd.isL with
 | true=>
  rw [hL] at sq
  refine tail_any sq.typeIs slot_list_getitem.lookup ?_ (hs l u)
  by_cases hneg:k<0
  ·rw [if_pos hneg] at e
   exact wpAny_getItem_list_neg sq hneg (by rw [List.size_toArray,hl];exact hk) h0 (by rw [List.size_toArray,hl];simpa using e) hq
  ·rw [if_neg hneg] at e
   exact wpAny_getItem_list sq (z21 hneg) h1 (by simpa using e) hq
 | false=>
  rw [hL] at sq
  have hj:seqIndex? k vs.length=some (if k<0 then (k+sd.ds.length).toNat else k.toNat):=by
   rw [hl]
   by_cases hneg:k<0
   ·rw [if_pos hneg];exact seqIndex_neg hneg hk
   ·rw [if_neg hneg]
    have hlt:k.toNat<sd.ds.length:=by
     unfold idx at hi;rw [if_neg hneg] at hi
     exact (List.getElem?_eq_some_iff.mp hi).1
    have hc:(0<=k/\k<(sd.ds.length:Int)):=⟨z21 hneg,z612 hlt⟩
    simp [seqIndex?,hneg,hc.1,hc.2]
  exact item_tupleT (l:=vs) sq h0 h1 hj e hq (hs l u)
theorem WE.list {elts:List Expr}{pos:Pos}(h:WA c A fr env m σ elts (fun ds σ1=>ds.length<=sizeLine/\QL Q ds σ1) X):WE c A fr env m σ (.List elts pos) Q X:=fun s ok fm=>by
 refine wpAny_List_spliced (wpAny_mono (h pos s ok fm) (fun vs s1 ⟨ds,σ1,p1,ok1,x1,hl,q1⟩=>⟨by rw [x1.length];exact hl,?_⟩) fun _ _ x=>x)
 have hn:∀a∈[s1.heap.objs.size],s1.heap.get? a=none:=fun a ha=>by rw [List.mem_singleton.mp ha];exact none_of_ge (Nat.le_refl _)
 have k1:∀b o,s1.heap.get? b=some o->(s1.heap.push {cls:=.type "list",data:=.seq vs.toArray}).get? b=some o:=fun b o e=>Heap.get?_push_of_some _ e
 have g:(s1.heap.push {cls:=.type "list",data:=.seq vs.toArray}).get? s1.heap.objs.size=some (lstObj vs 0):=Heap.get?_push_size _ rfl
 have oka:Ok c A ([s1.heap.objs.size]++fr) σ1 (s1.heap.push {cls:=.type "list",data:=.seq vs.toArray}):=ok1.more k1 hn (fun a ha=>by exact (List.mem_singleton.mp ha)▸⟨_,g⟩) (by simp)
 have pf:Post [] fr σ s {s1 with heap:=s1.heap.push {cls:=.type "list",data:=.seq vs.toArray},toks:=s1.toks} σ1:=p1.trans (Post.keeps k1)
 exact QL.use (G:=none) (s':={s1 with heap:=s1.heap.push {cls:=.type "list",data:=.seq vs.toArray},toks:=s1.toks}) q1 pf oka ok1.frames_in g (Vs.move (K:=keys σ1++fr) (fun b o _ e=>k1 b o e) (less_add hn) _ _ x1) (none_back p1 (hn _ (by exact .head _)))
theorem WE.tuple {elts:List Expr}{k:Nat}{pos:Pos}(h:WA c A fr env m σ elts (fun ds σ1=>ds.length<=sizeLine/\Q (.tup ds) σ1) X):WE c A fr env m σ (.Tuple elts k pos) Q X:=fun s ok fm=>by
 refine wpAny_Tuple_spliced (wpAny_mono (h pos s ok fm) (fun vs s1 ⟨ds,σ1,p1,ok1,x1,hl,q1⟩=>⟨by rw [x1.length];exact hl,?_⟩) fun _ _ x=>x)
 have k1:∀b o,s1.heap.get? b=some o->(s1.heap.push {cls:=.type "tuple",data:=.seq vs.toArray}).get? b=some o:=fun b o e=>Heap.get?_push_of_some _ e
 refine ⟨.tup ds,σ1,p1.trans (Post.keeps (tk:=s1.toks) k1),ok1.keeps k1,?_,q1⟩
 refine ⟨_,vs,0,rfl,fun z=> ?_,Heap.get?_push_size _ rfl,Vs.move (K:=keys σ1++fr) (fun b o _ e=>k1 b o e) (fun a ha=>.inl ha) _ _ x1⟩
 exact Nat.lt_irrefl _ (ok1.lt z)
theorem call_tuple {sd:SD}{s:Shared}{v:Value}(inv:sd.inv σ)(ok:Ok c A fr σ s.heap)(hv:V (keys σ++fr) s.heap sd.d v)(hsz:sd.ds.length<=sizeLine)(h:Q (.tup sd.ds) σ):W c A none fr σ (call (.type "tuple") [v]) V Q X s:=by
 obtain ⟨l,rfl,z⟩:=SD.of_v hv
 cases hL:sd.isL with
 | true=>
  obtain ⟨vs,sq,hvs⟩:=z.get ok inv
  rw [hL] at sq
  refine call_tuple_list sq (fun h' hk=> ?_) (by simpa [hvs.length] using hsz)
  have k1:∀b o,s.heap.get? b=some o->(h'.push {cls:=.type "tuple",data:=.seq vs.toArray}).get? b=some o:=fun b o e=>Heap.get?_push_of_some _ (hk b o e)
  refine ⟨.tup sd.ds,σ,Post.keeps (tk:=s.toks) k1,ok.keeps k1,?_,h⟩
  refine ⟨_,vs,0,rfl,fun z=> ?_,Heap.get?_push_size _ rfl,Vs.move (K:=keys σ++fr) (fun b o _ e=>k1 b o e) (fun a ha=>.inl ha) _ _ hvs⟩
  obtain ⟨o,e⟩:=ok.there z
  exact Nat.lt_irrefl _ (Heap.lt_size (hk _ _ e))
 | false=>
  cases sd with
  | tup ds=>
   simp only [SD.d] at hv
   have hv':=hv
   obtain ⟨a,vs,n,e,hk,g,r⟩:=hv'
   injection e with e;subst e
   exact call_tuple_same ⟨_,g,rfl,n,rfl⟩ ⟨_,σ,Post.refl ..,ok,hv,h⟩
  | lst ds=>contradiction
  | ref a ds=>contradiction
theorem call_list {sd:SD}{s:Shared}{v:Value}(inv:sd.inv σ)(ok:Ok c A fr σ s.heap)(hv:V (keys σ++fr) s.heap sd.d v)(hsz:sd.ds.length<=sizeLine)(h:QL Q sd.ds σ):W c A none fr σ (call (.type "list") [v]) V Q X s:=by
 obtain ⟨l,rfl,z⟩:=SD.of_v hv
 obtain ⟨vs,sq,hvs⟩:=z.get ok inv
 have hn:∀a∈[s.heap.objs.size],s.heap.get? a=none:=fun a ha=>by exact (congrArg _ (List.mem_singleton.mp ha ..)).trans (none_of_ge (Nat.le_refl _))
 have fin:∀h' c',(∀b o',s.heap.get? b=some o'->h'.get? b=some o')->h'.get? s.heap.objs.size=some {cls:=.type "list",dict:=none,data:=.seq vs.toArray c',slots:= #[]}->
   Po c A none fr σ s V Q (.ref s.heap.objs.size) {s with heap:=h'}:=fun h' c' k1 g=>by
  exact QL.use (G:=none) (s':={s with heap:=h',toks:=s.toks}) h (Post.keeps k1) (ok.more k1 hn (fun a ha=>by exact (List.mem_singleton.mp ha)▸⟨_,g⟩) (by simp):Ok c A ([s.heap.objs.size]++fr) σ h') ok.frames_in g (Vs.move (K:=keys σ++fr) (fun b o _ e=>k1 b o e) (less_add hn) _ _ hvs) (hn _ (by exact .head _))
 have hsz':vs.toArray.size<=sizeLine:=by simpa [hvs.length] using hsz
 cases hL:sd.isL with
 | true=>rw [hL] at sq;obtain ⟨o,g,hc,n,hd⟩:=sq;exact call_list_seq l (.inl rfl) g hc hd fin hsz'
 | false=>rw [hL] at sq;obtain ⟨o,g,hc,n,hd⟩:=sq;exact call_list_seq l (.inr rfl) g hc hd fin hsz'
end
theorem Room.mono {n k:Nat}{A:Around}(r:Room n A)(h:k<=n):Room k A:=by
 obtain ⟨j,rfl⟩:=Nat.exists_eq_add_of_le h
 exact r.less
theorem kindOf_of {env:Env}{sc:Scope}{x:Str}{k:NameKind}(h:env.scope=sc)(e:sc.names.lookup x=some k):env.kindOf x=some k:=by
 unfold Env.kindOf;exact h▸e
noncomputable def recOf:Stmt->Option PySem.DefRec
 | .FunctionDef name params body _ _ _ scope _ _ pos=>some ⟨name,params,body,scope,pos⟩
 | _=>none
structure Tp (c:Cx)(B:List Stmt)(bs:List (Str × Value)):Prop where
 good:c.Good
 nolimit:c.h0.NoLimit
 fn:∀d∈B.filterMap recOf,∃a o pm code doc,c.mg d.name=some (.ref a)/\c.h0.get? a=some o/\o.data=.func (docDef d.name d.params d.body d.scope pm code doc)/\c.h0.CodeRec code d.name
 bn:∀x v,bs.lookup x=some v->c.mg x=none/\c.mb x=some v
noncomputable def WF (c:Cx)(P:Around->Prop)(f:Str)(ds:List D)(σ:Sto)(Q:D->Sto->Prop)(X:Addr->Sto->Prop):Prop:=
 ∀a,c.mg f=some (.ref a)->WC c P (.ref a) ds σ Q X
noncomputable def Dfn (c:Cx)(f:Str):Prop:=∃a o fd,c.mg f=some (.ref a)/\c.h0.get? a=some o/\o.data=.func fd
noncomputable def fnOk (scope:Scope)(ps:List Str):Bool:=
 decide ps.Nodup&&ps.all (fun x=>scope.names.lookup x==some .local|| scope.names.lookup x==some .cell)&&decide ((cellsFrom 0 scope.names []).map (·.1)).Nodup&&
  scope.names.all (fun y=>y.2 !=.free)&&scope.kind==.function&& !scope.isCoroutine&& !scope.isGenerator
theorem lookup_mem' {x:Str}{k:NameKind}:∀{l:List (Str × NameKind)},l.lookup x=some k->∃y,(y,k)∈l
 | [],h=>by contradiction
 | (y,j)::r,h=>by
  simp only [List.lookup_cons] at h
  split at h
  ·injection h with h;subst h;exact ⟨y,.head _⟩
  ·obtain ⟨z,hz⟩:=lookup_mem' h;exact ⟨z,.tail _ hz⟩
section
variable {c:Cx} {A:Around} {fr:List Addr} {σ:Sto} {X:Addr->Sto->Prop} {Q:D->Sto->Prop} {env:Env} {m:Vars} {B:List Stmt} {bs:List (Str × Value)}
theorem WF.of {d:PySem.DefRec}{ps:List Str}{n:Nat}{f:Str}{ds:List D}(T:Tp c B bs)(hd:d∈B.filterMap recOf)(hf:d.name=f)
  (hb:∀pm code doc vals,vals.length=ps.length->bindArgs (docDef d.name d.params d.body d.scope pm code doc) ⟨vals,[]⟩=pure (ps.zip vals)) (hok:fnOk d.scope ps=true) (hl:ds.length=ps.length)
  (h:∀A fr env,Room n A->env.scope=d.scope->Fe A env d.scope->WS c A (Fa env++fr) env (ps.zip ds) σ d.body (fun _ σ'=>Q .none σ') Q X):WF c (Room (n+1)) f ds σ Q X:=fun a ha=>by
 subst hf
 obtain ⟨a',o,pm,code,doc,h1,h2,h3,h4⟩:=T.fn d hd
 obtain rfl:a'=a:=by rw [h1] at ha;injection ha with ha;injection ha
 simp only [fnOk,Bool.and_eq_true,decide_eq_true_eq,List.all_eq_true,Bool.or_eq_true,beq_iff_eq,bne_iff_ne,Bool.not_eq_true'] at hok
 obtain ⟨⟨⟨⟨⟨⟨k1,k2⟩,k3⟩,k4⟩,k5⟩,k6⟩,k7⟩:=hok
 refine WC.of (P':=Room n) (ps:=ps) (body:=d.body) (scope:=d.scope) ⟨⟨o,_,h2,h3,rfl,rfl,rfl,rfl,rfl,h4,hb pm code doc⟩,T.nolimit,k1,k2,k3,fun x e=> ?_,k5,k6,k7⟩ (fun A env r=>⟨?_,r.deeper⟩) hl fun A fr env r fe=>h A fr env r fe.scope fe
 ·obtain ⟨y,hy⟩:=lookup_mem' e
  exact k4 _ hy rfl
 ·exact z870 (r.1.1) (rfl)
theorem rec_mem {B:List Stmt}{i:Nat}{d:PySem.DefRec}(h:(B[i]?).bind recOf=some d):d∈B.filterMap recOf:=by
 obtain ⟨st,h1,h2⟩:=Option.bind_eq_some_iff.mp h
 exact List.mem_filterMap.mpr ⟨st,List.mem_of_getElem? h1,h2⟩
theorem bind1 {name x:Str}{params:Arguments}{body:List Stmt}{scope:Scope}(h:∀pm code doc a,bindArgs (docDef name params body scope pm code doc) ⟨[a],[]⟩=pure ([x].zip [a])):∀pm code doc vals,vals.length=[x].length->bindArgs (docDef name params body scope pm code doc) ⟨vals,[]⟩=pure ([x].zip vals):=fun pm code doc vals e=>by
 obtain ⟨a,rfl⟩:=List.length_eq_one_iff.mp e
 exact h pm code doc a
theorem bind2 {name x y:Str}{params:Arguments}{body:List Stmt}{scope:Scope}(h:∀pm code doc a b,bindArgs (docDef name params body scope pm code doc) ⟨[a,b],[]⟩=pure ([x,y].zip [a,b])):∀pm code doc vals,vals.length=[x,y].length->bindArgs (docDef name params body scope pm code doc) ⟨vals,[]⟩=pure ([x,y].zip vals):=fun pm code doc vals e=>by
 obtain ⟨a,b,rfl⟩:=len2 e
 exact h pm code doc a b
theorem bind3 {name x y z:Str}{params:Arguments}{body:List Stmt}{scope:Scope}(h:∀pm code doc a b e,bindArgs (docDef name params body scope pm code doc) ⟨[a,b,e],[]⟩=pure ([x,y,z].zip [a,b,e])):∀pm code doc vals,vals.length=[x,y,z].length->bindArgs (docDef name params body scope pm code doc) ⟨vals,[]⟩=pure ([x,y,z].zip vals):=fun pm code doc vals e=>by
 obtain ⟨a,b,w,rfl⟩:=len3 e
 exact h pm code doc a b w
theorem Dfn.of {d:PySem.DefRec}{f:Str}(T:Tp c B bs)(hd:d∈B.filterMap recOf)(hf:d.name=f):Dfn c f:=by
 subst hf
 obtain ⟨a,o,pm,code,doc,h1,h2,h3,h4⟩:=T.fn d hd
 exact ⟨a,o,_,h1,h2,h3⟩
theorem WF.at {k n:Nat}{f:Str}{ds:List D}(h:WF c (Room k) f ds σ Q X)(hk:k<=n):WF c (Room n) f ds σ Q X:=fun a ha A fr s vals hA ok hv=>h a ha A fr s vals (hA.mono hk) ok hv
theorem WE.callN (T:Tp c B bs){f:Str}{fp pos:Pos}{args:List Expr}{n:Nat}(r:Room n A)(hk:env.kindOf f=some .globalImplicit)(hf:Dfn c f)
  (h:WA c A fr env m σ args (fun ds σ1=>WF c (Room n) f ds σ1 Q X) X) (hp:plainArgs args=true:=by rfl) (hdb:(f==("__debug__":Str))=false:=by decide):WE c A fr env m σ (.Call (.Name f fp) args [] pos) Q X:=by
 obtain ⟨a,o,fd,h1,h2,h3⟩:=hf
 exact WE.callF T.good (P:=Room n) r hk h1 h2 h3 (fun p s ok fm=>(h p s ok fm).mono (fun ds σ1 w=>w a h1) fun _ _ x=>x) hp hdb
noncomputable def At1 (c:Cx)(A:Around)(fr:List Addr)(σ:Sto)(f:Value)(ds:List D)(Q:D->Sto->Prop)(X:Addr->Sto->Prop):Prop:=
 ∀s vals,Ok c A fr σ s.heap->Vs (keys σ++fr) s.heap ds vals->W c A none fr σ (call f vals) V Q X s
theorem WE.callI (T:Tp c B bs){f:Str}{fp pos:Pos}{args:List Expr}{id:String}(hk:env.kindOf f=some .globalImplicit)(hb:bs.lookup f=some (.builtin id))
  (h:WA c A fr env m σ args (fun ds σ1=>At1 c A fr σ1 (.builtin id) ds Q X) X) (hp:plainArgs args=true:=by rfl) (hdb:(f==("__debug__":Str))=false:=by decide):WE c A fr env m σ (.Call (.Name f fp) args [] pos) Q X:=
 WE.callB T.good hk (T.bn _ _ hb).1 (T.bn _ _ hb).2 h hp hdb
theorem WE.callY (T:Tp c B bs){f:Str}{fp pos:Pos}{args:List Expr}{id:String}(hk:env.kindOf f=some .globalImplicit)(hb:bs.lookup f=some (.type id))
  (h:WA c A fr env m σ args (fun ds σ1=>At1 c A fr σ1 (.type id) ds Q X) X) (hp:plainArgs args=true:=by rfl) (hdb:(f==("__debug__":Str))=false:=by decide):WE c A fr env m σ (.Call (.Name f fp) args [] pos) Q X:=
 WE.callT T.good hk (T.bn _ _ hb).1 (T.bn _ _ hb).2 h hp hdb
theorem At1.one {f:Value}{d:D}(h:∀s v,Ok c A fr σ s.heap->V (keys σ++fr) s.heap d v->W c A none fr σ (call f [v]) V Q X s):At1 c A fr σ f [d] Q X:=fun s vals ok hv=>by
 obtain ⟨v,vs,rfl,h1,h2⟩:=hv
 subst h2
 exact h s v ok h1
theorem At1.two {f:Value}{d e:D}(h:∀s v u,Ok c A fr σ s.heap->V (keys σ++fr) s.heap d v->V (keys σ++fr) s.heap e u->W c A none fr σ (call f [v,u]) V Q X s):At1 c A fr σ f [d,e] Q X:=fun s vals ok hv=>by
 obtain ⟨v,vs,rfl,h1,h2⟩:=hv
 obtain ⟨u,us,rfl,h3,h4⟩:=h2
 subst h4
 exact h s v u ok h1 h3
theorem At1.all {sd:SD}{l:List Bool}(hh:A.handled=none)(hd:sd.ds=l.map D.bool)(inv:sd.inv σ)(h:Q (.bool (l.all id)) σ):At1 c A fr σ (.builtin "all") [sd.d] Q X:=.one fun s v ok hv=>call_all hh hd inv ok hv h
theorem At1.any {sd:SD}{l:List Bool}(hh:A.handled=none)(hd:sd.ds=l.map D.bool)(inv:sd.inv σ)(h:Q (.bool (l.any id)) σ):At1 c A fr σ (.builtin "any") [sd.d] Q X:=.one fun s v ok hv=>call_any hh hd inv ok hv h
theorem At1.sum {sd:SD}{l:List Int}(hh:A.handled=none)(hd:sd.ds=l.map D.int)(inv:sd.inv σ)(h:Q (.int l.sum) σ):At1 c A fr σ (.builtin "sum") [sd.d] Q X:=.one fun s v ok hv=>call_sum hh hd inv ok hv h
theorem At1.min {sd:SD}{l:List Int}(hh:A.handled=none)(hd:sd.ds=l.map D.int)(hne:l≠[])(inv:sd.inv σ)(h:Q (.int (minL l)) σ):At1 c A fr σ (.builtin "min") [sd.d] Q X:=.one fun s v ok hv=>call_min hh hd hne inv ok hv h
theorem At1.max {sd:SD}{l:List Int}(hh:A.handled=none)(hd:sd.ds=l.map D.int)(hne:l≠[])(inv:sd.inv σ)(h:Q (.int (maxL l)) σ):At1 c A fr σ (.builtin "max") [sd.d] Q X:=.one fun s v ok hv=>call_max hh hd hne inv ok hv h
theorem At1.len {sd:SD}(inv:sd.inv σ)(hfit:sd.ds.length<2^62)(h:Q (.int sd.ds.length) σ):At1 c A fr σ (.builtin "len") [sd.d] Q X:=.one fun s v ok hv=>call_len inv ok hv hfit h
theorem At1.tuple {sd:SD}(inv:sd.inv σ)(hsz:sd.ds.length<=sizeLine)(h:Q (.tup sd.ds) σ):At1 c A fr σ (.type "tuple") [sd.d] Q X:=.one fun s v ok hv=>call_tuple inv ok hv hsz h
theorem At1.list {sd:SD}(inv:sd.inv σ)(hsz:sd.ds.length<=sizeLine)(h:QL Q sd.ds σ):At1 c A fr σ (.type "list") [sd.d] Q X:=.one fun s v ok hv=>call_list inv ok hv hsz h
theorem At1.isi {d:D}{T:String}{b:Bool}(hT:T∈isiTypes)(hb:isT σ T d=some b)(h:Q (.bool b) σ):At1 c A fr σ (.builtin "isinstance") [d,.typ T] Q X:=.two fun s v u ok hv hu=>by
 subst hu
 exact call_isi hT hb ok hv h
end
section
variable {c:Cx} {A:Around} {fr:List Addr} {σ:Sto} {X:Addr->Sto->Prop} {Q:D->Sto->Prop} {env:Env} {m:Vars} {B:List Stmt} {bs:List (Str × Value)}
theorem filterMap_take_succ {α β:Type}{F:α->Option β}{l:List α}{k:Nat}{x:α}(h:l[k]? =some x):(l.take (k+1)).filterMap F=(l.take k).filterMap F++(F x).toList:=by
 obtain ⟨hk,rfl⟩:=List.getElem?_eq_some_iff.mp h
 simp only [List.take_succ_eq_append_getElem hk,List.filterMap_append]
 cases hF:F l[k]<;>simp [hF]
theorem Turns.of {α:Type}{l:List α}{g:α->Vars}{Inv:Sto->Prop}{scope:Scope}{ifs:List Expr}{elt:Expr}{Z:List D->Sto->Prop}(F:α->Option D)(hloc:∀x∈l,∀y∈g x,lk (scope.names.lookup y.1)=true)(hinv:Inv σ)(hsz:l.length<=sizeLine)
  (step:∀x∈l,∀fr' cenv,cenv.scope=relab scope env.scope->WIfs c A fr' cenv (g x++capt scope m) σ ifs (fun b σ2=>if b=true then WE c A fr' cenv (g x++capt scope m) σ2 elt (fun d σ3=>σ3=σ/\F x=some d) NoX else σ2=σ/\F x=none) NoX)
  (h:Z (l.filterMap F) σ):Turns c A env m scope ifs elt Z (l.map g) Inv σ:=by
 refine ⟨fun x hx y hy=> ?_,fun k ds σ'=>σ'=σ/\ds=(l.take k).filterMap F,⟨rfl,by rfl⟩,fun k ds σ' hL=> ?_,fun k x ds σ' hk hL fr' cenv hc=> ?_,fun ds σ' hL=> ?_⟩
 ·obtain ⟨z,hz,rfl⟩:=List.mem_map.mp hx
  exact hloc z hz y hy
 ·obtain ⟨rfl,rfl⟩:=hL
  refine ⟨hinv,Nat.le_trans (List.length_filterMap_le _ _) (Nat.le_trans ?_ hsz)⟩
  rw [List.length_take];exact Nat.min_le_right _ _
 ·obtain ⟨rfl,rfl⟩:=hL
  rw [List.getElem?_map] at hk
  obtain ⟨z,hz,rfl⟩:=Option.map_eq_some_iff.mp hk
  refine fun s ok fm=>((step z (List.mem_of_getElem? hz) fr' cenv hc) s ok fm).mono (fun b σ2 hb=> ?_) fun _ _ x=>x
  cases b with
  | true=>
   exact hb.mono (fun d σ3 ⟨e1,e2⟩=>⟨e1,by rw [filterMap_take_succ hz,e2];rfl⟩) fun _ _ x=>x
  | false=>
   exact ⟨hb.1,by rw [filterMap_take_succ hz,hb.2];simp⟩
 ·obtain ⟨rfl,rfl⟩:=hL
  rw [List.length_map,List.take_length]
  exact h
theorem loc1 {scope:Scope}{x:Str}{d:D}(h:lk (scope.names.lookup x)=true):∀y∈[(x,d)],lk (scope.names.lookup y.1)=true:=fun y hy=>by
 rw [List.mem_singleton] at hy;subst hy;exact h
theorem loc2 {scope:Scope}{x z:Str}{d e:D}(h:lk (scope.names.lookup x)=true)(h2:lk (scope.names.lookup z)=true):∀y∈[(x,d),(z,e)],lk (scope.names.lookup y.1)=true:=fun y hy=>by
 rcases List.mem_cons.mp hy with rfl| hy
 ·exact h
 ·exact loc1 h2 y hy
theorem Turns.map {α:Type}{l:List α}{g:α->Vars}{Inv:Sto->Prop}{scope:Scope}{elt:Expr}{Z:List D->Sto->Prop}(F:α->D)(hloc:∀x∈l,∀y∈g x,lk (scope.names.lookup y.1)=true)(hinv:Inv σ)(hsz:l.length<=sizeLine)
  (step:∀x∈l,∀fr' cenv,cenv.scope=relab scope env.scope->WE c A fr' cenv (g x++capt scope m) σ elt (fun d σ3=>σ3=σ/\d=F x) NoX)
  (h:Z (l.map F) σ):Turns c A env m scope [] elt Z (l.map g) Inv σ:=by
 refine Turns.of (fun x=>some (F x)) hloc hinv hsz (fun x hx fr' cenv hc=>WIfs.nil ?_) ?_
 ·exact (step x hx fr' cenv hc).mono (fun d σ3 ⟨e1,e2⟩=>⟨e1,by rw [e2]⟩) fun _ _ x=>x
 ·rw [(List.filterMap_eq_map (f:=F)▸rfl:l.filterMap (fun x=>some (F x))=l.map F)];exact h
theorem WIt.range (T:Tp c B bs)(hh:A.handled=none){f:Str}{fp pos px:Pos}{e:Expr}{x:Str}{Q:List Vars->(Sto->Prop)->Sto->Prop}(hk:env.kindOf f=some .globalImplicit)(hb:bs.lookup f=some (.type "range"))
  (h:WE c A fr env m σ e (fun d σ1=>∃n:Int,d=.int n/\-(2^62)<=n/\n<2^62/\Q ((List.range n.toNat).map fun (i:Nat)=>[(x,D.int (i:Int))]) (fun _=>True) σ1) X) (hp:plainArgs [e]=true:=by rfl) (hdb:(f==("__debug__":Str))=false:=by decide):
  WIt c A fr env m σ (.Call (.Name f fp) [e] [] pos) (.Name x px) Q X:=WIt.range1 T.good hh hk (T.bn _ _ hb).1 (T.bn _ _ hb).2 h hp hdb
theorem WIv.seq {α:Type}{sd:SD}{l:List α}{x:Str}{px:Pos}{Q:List Vars->(Sto->Prop)->Sto->Prop}(F:α->D)(hh:A.handled=none)(hd:sd.ds=l.map F)(hi:sd.inv σ)(h:Q (l.map fun i=>[(x,F i)]) sd.inv σ):WIv c A fr env m σ sd.d (.Name x px) Q:=by
 have e:sd.ds.map (fun d=>[(x,d)])=l.map fun i=>[(x,F i)]:=by simp only [hd,List.map_map];rfl
 cases sd with
 | lst ds=>exact WIv.lst hh (by have e':ds.map (fun d=>[(x,d)])=_:=e;rw [e'];exact h)
 | tup ds=>exact WIv.tup hh (by have e':ds.map (fun d=>[(x,d)])=_:=e;rw [e'];exact h)
 | ref a ds=>exact WIv.ref hh hi (by have e':ds.map (fun d=>[(x,d)])=_:=e;rw [e'];exact h)
end
mutual
noncomputable def D.py:D->Option PyData
 | .none=>some .none
 | .bool b=>some (.bool b)
 | .int i=>some (.int i)
 | .str x=>some (.str x)
 | .tup ds=>(pyAll ds).map .tuple
 | .lst ds=>(pyAll ds).map .list
 | _=>none
noncomputable def pyAll:List D->Option (List PyData)
 | []=>some []
 | d::r=>(D.py d).bind fun p=>(pyAll r).map fun q=>p::q
end
mutual
theorem V.reads {K:List Addr}{h:Heap}:∀(d:D) (v:Value) (p:PyData),V K h d v->d.py=some p->∃as,Reads h v p as
 | .none,v,p,x,e=>by simp only [D.py,Option.some.injEq] at e;unfold V at x;subst x;subst e;exact ⟨_,.none⟩
 | .bool b,v,p,x,e=>by simp only [D.py,Option.some.injEq] at e;unfold V at x;subst x;subst e;exact ⟨_,.bool b⟩
 | .int i,v,p,x,e=>by simp only [D.py,Option.some.injEq] at e;unfold V at x;obtain ⟨t,rfl⟩:=x;subst e;exact ⟨_,.int i t⟩
 | .str y,v,p,x,e=>by simp only [D.py,Option.some.injEq] at e;unfold V at x;obtain ⟨t,rfl⟩:=x;subst e;exact ⟨_,.str y t⟩
 | .tup ds,v,p,x,e=>by
  simp only [D.py] at e
  obtain ⟨ps,hp,rfl⟩:=Option.map_eq_some_iff.mp e
  unfold V at x
  obtain ⟨a,vs,n,rfl,nk,g,r⟩:=x
  obtain ⟨as,ra⟩:=Vs.reads ds vs ps r hp
  exact ⟨as,.tuple g rfl rfl (by rw [List.toList_toArray];exact ra)⟩
 | .lst ds,v,p,x,e=>by
  simp only [D.py] at e
  obtain ⟨ps,hp,rfl⟩:=Option.map_eq_some_iff.mp e
  unfold V at x
  obtain ⟨a,vs,n,rfl,nk,g,r⟩:=x
  obtain ⟨as,ra⟩:=Vs.reads ds vs ps r hp
  exact ⟨a::as,.list g rfl rfl (by rw [List.toList_toArray];exact ra)⟩
 | .sys C sz ru,v,p,x,e=>by simp [D.py] at e
 | .own C dx,v,p,x,e=>by simp [D.py] at e
 | .exc C,v,p,x,e=>by simp [D.py] at e
 | .typ T,v,p,x,e=>by simp [D.py] at e
 | .ref a,v,p,x,e=>by simp [D.py] at e
theorem Vs.reads {K:List Addr}{h:Heap}:∀(ds:List D) (vs:List Value) (ps:List PyData),Vs K h ds vs->pyAll ds=some ps->∃as,ReadsAll h vs ps as
 | [],vs,ps,x,e=>by simp only [pyAll,Option.some.injEq] at e;unfold Vs at x;subst x;subst e;exact ⟨_,.nil⟩
 | d::ds,vs,ps,x,e=>by
  simp only [pyAll] at e
  obtain ⟨p,hp,e⟩:=Option.bind_eq_some_iff.mp e
  obtain ⟨q,hq,rfl⟩:=Option.map_eq_some_iff.mp e
  unfold Vs at x
  obtain ⟨v,r,rfl,x1,x2⟩:=x
  obtain ⟨a1,r1⟩:=V.reads d v p x1 hp
  obtain ⟨a2,r2⟩:=Vs.reads ds r q x2 hq
  exact ⟨_,.cons r1 r2⟩
end
structure Py (n:Nat)(d:D)(p:PyData):Prop where
 py:d.py=some p
 can:p.canLay0=true
 dep:p.depth<=n
structure PyAll (n:Nat)(ds:List D)(ps:List PyData):Prop where
 py:pyAll ds=some ps
 can:PyData.canLayAll0 ps=true
 dep:PyData.depthAll ps<=n
theorem Py.bool {n:Nat}{b:Bool}:Py (n+1) (.bool b) (.bool b):=⟨rfl,rfl,by simp [PyData.depth]⟩
theorem Py.int {n:Nat}{i:Int}:Py (n+1) (.int i) (.int i):=⟨rfl,rfl,by simp [PyData.depth]⟩
theorem Py.tup {n:Nat}{ds:List D}{ps:List PyData}(x:PyAll n ds ps):Py (n+1) (.tup ds) (.tuple ps):=⟨by simp [D.py,x.py],x.can,by exact Nat.succ_le_succ x.dep⟩
theorem Py.lst {n:Nat}{ds:List D}{ps:List PyData}(x:PyAll n ds ps):Py (n+1) (.lst ds) (.list ps):=⟨by simp [D.py,x.py],x.can,by exact Nat.succ_le_succ x.dep⟩
theorem PyAll.nil {n:Nat}:PyAll n [] []:=⟨rfl,rfl,by simp [PyData.depthAll]⟩
theorem PyAll.cons {n:Nat}{d:D}{p:PyData}{ds:List D}{ps:List PyData}(x:Py n d p)(y:PyAll n ds ps):PyAll n (d::ds) (p::ps):=⟨by simp [pyAll,x.py,y.py],by simp [PyData.canLayAll0,x.can,y.can],by exact Nat.max_le.mpr ⟨x.dep,y.dep⟩⟩
theorem PyAll.map {α:Type}{n:Nat}{F:α->D}{G:α->PyData}:∀{l:List α},(∀x∈l,Py n (F x) (G x))->PyAll n (l.map F) (l.map G)
 | [],_=>.nil
 | a::r,h=>.cons (h a (.head _)) (PyAll.map fun x hx=>h x (.tail _ hx))
inductive PyT (σ:Sto):Nat->D->PyData->Prop
 | of {n:Nat} {d:D} {p:PyData} (x:Py n d p):PyT σ n d p
 | ref {n:Nat} {a:Addr} {ds:List D} {ps:List PyData} (m:(a,O.lst ds)∈σ) (x:PyAll n ds ps):PyT σ (n+1) (.ref a) (.list ps)
theorem PyT.reads {c:Cx}{A:Around}{fr:List Addr}{σ:Sto}{n:Nat}{d:D}{p:PyData}{h:Heap}{v:Value}(x:PyT σ n d p)(ok:Ok c A fr σ h)(hv:V (keys σ++fr) h d v):(∃as,Reads h v p as)/\p.canLay0=true/\p.depth<=n:=by
 cases x with
 | of x=>exact ⟨V.reads d v p hv x.py,x.can,x.dep⟩
 | ref m x=>
  subst hv
  obtain ⟨vs,k,g,r⟩:=ok.sto _ m
  obtain ⟨as,ra⟩:=Vs.reads _ vs _ r x.py
  exact ⟨⟨_,.list g rfl rfl (by exact ra)⟩,x.can,by exact Nat.succ_le_succ x.dep⟩
section
variable {c:Cx} {A:Around} {fr:List Addr} {σ:Sto} {X:Addr->Sto->Prop} {Q:D->Sto->Prop} {env:Env} {m:Vars}
theorem Room.units {n k:Nat}(r:Room n A)(h:k<=90):A.units+1+k<cLine:=by
 exact z871 (r.1.2) (rfl) h
theorem WB.eqD {n k j:Nat}{d e:D}{p q:PyData}(r:Room j A)(x:PyT σ n d p)(y:PyT σ k e q)(h:Q (.bool (PyData.eqv p q)) σ)(hn:n<=90:=by first| decide| assumption):WB c A fr σ (compareOp .Eq) d e Q X:=fun v1 v2 s ok x1 x2=>by
 obtain ⟨⟨as,ra⟩,c1,d1⟩:=x.reads ok x1
 obtain ⟨⟨bs,rb⟩,c2,d2⟩:=y.reads ok x2
 exact SeqAt.compareEq_reads ra rb c1 c2 (by have:=r.units hn;exact z872 ‹_› d1) ⟨_,σ,Post.refl ..,ok,V.ofBool,h⟩
theorem WB.neD {n k j:Nat}{d e:D}{p q:PyData}(r:Room j A)(x:PyT σ n d p)(y:PyT σ k e q)(h:Q (.bool (!PyData.eqv p q)) σ)(hn:n<=90:=by first| decide| assumption):WB c A fr σ (compareOp .NotEq) d e Q X:=fun v1 v2 s ok x1 x2=>by
 obtain ⟨⟨as,ra⟩,c1,d1⟩:=x.reads ok x1
 obtain ⟨⟨bs,rb⟩,c2,d2⟩:=y.reads ok x2
 exact SeqAt.compareNe_reads ra rb c1 c2 (by have:=r.units hn;exact z872 ‹_› d1) ⟨_,σ,Post.refl ..,ok,V.ofBool,h⟩
theorem WB.notInL {n k j:Nat}{d e:D}{p:PyData}{qs:List PyData}(r:Room j A)(x:PyT σ n d p)(y:PyT σ k e (.list qs))(h:Q (.bool (!qs.any fun y=>PyData.eqv y p)) σ)(hn:n<=90:=by first| decide| assumption):WB c A fr σ (compareOp .NotIn) d e Q X:=fun v1 v2 s ok x1 x2=>by
 obtain ⟨⟨as,ra⟩,c1,d1⟩:=x.reads ok x1
 obtain ⟨⟨bs,rb⟩,c2,d2⟩:=y.reads ok x2
 exact SeqAt.notIn_list_reads rb ra c2 c1 (by have:=r.units hn;exact z873 ‹_› d1) ⟨_,σ,Post.refl ..,ok,V.ofBool,h⟩
theorem At1.intB {b:Bool}(h:Q (.int (if b then 1 else 0)) σ):At1 c A fr σ (.type "int") [.bool b] Q X:=.one fun s v ok hv=>by
 subst hv
 exact call_int_bool ⟨_,σ,Post.tok ..,ok,V.ofInt,h⟩
end
section
variable {c:Cx} {A:Around} {fr:List Addr} {σ σ1 σ2:Sto} {X:Addr->Sto->Prop} {Q:D->Sto->Prop} {env:Env} {m:Vars}
theorem Ok.put {a:Addr}{o o':O}{h h':Heap}(ok:Ok c A fr (σ1++(a,o)::σ2) h)(k:∀b ob,b≠a->h.get? b=some ob->h'.get? b=some ob)(x:IsO c.prog c.w (keys (σ1++(a,o)::σ2)++fr) h' a o'):Ok c A fr (σ1++(a,o')::σ2) h':=by
 have ek:keys (σ1++(a,o')::σ2)=keys (σ1++(a,o)::σ2):=by simp [keys]
 have ha:a∈keys (σ1++(a,o)::σ2):=by simp [keys]
 have nd:=ok.nd
 rw [List.nodup_append] at nd
 have nfr:∀b∈fr,b≠a:=fun b hb e=>nd.2.2 a ha b hb e.symm
 refine ⟨fun b ob e=>k b ob (fun z=>by subst z;replace e:=(ok.new b (List.mem_append_left _ ha) ..).symm.trans e;contradiction) (ok.base b ob e),fun p hp=> ?_,by rw [ek];exact ok.nd,by exact ek▸ok.new,fun b hb=> ?_,?_⟩
 ·rw [ek]
  have mv:=fun q hq hne=>
   IsO.move (fun b ob n e=>k b ob (fun z=>by cases z;exact n (List.mem_append_left _ ha)) e) (fun _ m=>.inl m) (fun ob e=>k _ _ hne e) (ok.sto q hq)
  have hnd':(σ1.map (·.1)).Nodup/\(a::σ2.map (·.1)).Nodup/\∀y∈σ1.map (·.1),∀z∈a::σ2.map (·.1),y≠z:=by
   have:(σ1.map (·.1)++a::σ2.map (·.1)).Nodup:=by simpa [keys] using (nd.1)
   exact List.nodup_append.mp this
  rcases List.mem_append.mp hp with hp| hp
  ·exact mv p (List.mem_append_left _ hp) fun e=>hnd'.2.2 p.1 (List.mem_map_of_mem hp) a (.head _) e
  ·rcases List.mem_cons.mp hp with rfl| hp
   ·exact x
   ·exact mv p (List.mem_append_right _ (.tail _ hp)) fun e=>(List.nodup_cons.mp hnd'.2.1).1 (e▸List.mem_map_of_mem hp)
 ·obtain ⟨ob,e⟩:=ok.live b hb
  exact ⟨ob,k b ob (nfr b hb) e⟩
 ·obtain ⟨l,hl,b,d,f⟩:=ok.stack
  have nw:=fun x hx=>nfr x (d x hx)
  refine ⟨l,hl,?_,d,fun x hx=> ?_⟩
  ·exact FunFrames.turn (fr:=l.filterMap (·.frame)) (fun x o hx g k'=>⟨o,k _ _ (nw x hx) g,k'⟩) b fun x hx=>hx
  ·obtain ⟨o,es,n,g,r⟩:=f x hx;exact ⟨o,es,n,k _ _ (nw x hx) g,r⟩
theorem Post.put {F:List Addr}{a:Addr}{o o':O}{s:Shared}{h':Heap}{tk:Nat}(hn:a∉fr)(k:∀b ob,b≠a->s.heap.get? b=some ob->h'.get? b=some ob)(l:∃ob,h'.get? a=some ob):Post F fr (σ1++(a,o)::σ2) s {s with heap:=h',toks:=tk} (σ1++(a,o')::σ2):=by
 exact {
  shape:=⟨h',tk,rfl⟩
  kept:=fun b ob n e=>k b ob (fun z=>n (by exact z▸List.mem_append_left _ (by simp [keys]))) e
  slots:=fun b ob m n e=>⟨ob.slots,k b ob (fun z=>hn (z▸m)) e,fun _=>rfl⟩
  alive:=fun b ob e=>by
   by_cases z:b=a
   ·subst z;exact l
   ·exact ⟨ob,k _ _ z e⟩
  grow:=fun _ m=>.inl ((by simp [keys]:keys (σ1++(a,o')::σ2)=keys (σ1++(a,o)::σ2))▸m)}
theorem newL {ds:List D}{vs:List Value}{s:Shared}{tk:Nat}(ok:Ok c A fr σ s.heap)(hvs:Vs (keys σ++fr) s.heap ds vs)(q:QL Q ds σ):Po c A none fr σ s V Q (.ref s.heap.objs.size) {s with heap:=s.heap.push (lstObj vs 0),toks:=tk}:=by
 have hn:∀a∈[s.heap.objs.size],s.heap.get? a=none:=fun a ha=>by rw [List.mem_singleton.mp ha];exact none_of_ge (Nat.le_refl _)
 have k1:∀b o,s.heap.get? b=some o->(s.heap.push (lstObj vs 0)).get? b=some o:=fun b o e=>Heap.get?_push_of_some _ e
 have g:(s.heap.push (lstObj vs 0)).get? s.heap.objs.size=some (lstObj vs 0):=Heap.get?_push_size _ rfl
 have oka:=ok.more k1 hn (fun a ha=>by rw [List.mem_singleton.mp ha];exact ⟨_,g⟩) (by simp)
 exact QL.use (G:=none) (s':={s with heap:=s.heap.push (lstObj vs 0),toks:=tk}) q (Post.keeps k1) oka ok.frames_in g (Vs.move (K:=keys σ++fr) (fun b o _ e=>k1 b o e) (less_add hn) _ _ hvs) (hn _ (by exact .head _))
theorem newT {ds:List D}{vs:List Value}{s:Shared}{tk:Nat}(ok:Ok c A fr σ s.heap)(hvs:Vs (keys σ++fr) s.heap ds vs)(q:Q (.tup ds) σ):Po c A none fr σ s V Q (.ref s.heap.objs.size) {s with heap:=s.heap.push (tupObj vs 0),toks:=tk}:=by
 have k1:∀b o,s.heap.get? b=some o->(s.heap.push (tupObj vs 0)).get? b=some o:=fun b o e=>Heap.get?_push_of_some _ e
 refine ⟨.tup ds,σ,Post.keeps (tk:=tk) k1,ok.keeps k1,?_,q⟩
 refine ⟨_,vs,0,rfl,fun z=> ?_,Heap.get?_push_size _ rfl,Vs.move (K:=keys σ++fr) (fun b o _ e=>k1 b o e) (fun a ha=>.inl ha) _ _ hvs⟩
 exact Nat.lt_irrefl _ (ok.lt z)
theorem SD.Fz.list {sd:SD}{h:Heap}{l:Addr}(x:sd.Fz (keys σ++fr) h l)(ok:Ok c A fr σ h)(inv:sd.inv σ)(hL:sd.isL=true):∃vs n,h.get? l=some (lstObj vs n)/\Vs (keys σ++fr) h sd.ds vs:=by
 cases sd with
 | lst ds=>obtain ⟨a,vs,n,g,r⟩:=x;exact ⟨vs,n,g,r⟩
 | tup ds=>contradiction
 | ref a ds=>
  obtain ⟨vs,n,g,r⟩:=ok.sto _ inv
  obtain rfl:l=a:=x
  exact ⟨vs,n,g,r⟩
theorem SD.Fz.tuple {sd:SD}{h:Heap}{l:Addr}(x:sd.Fz (keys σ++fr) h l)(hL:sd.isL=false):∃vs n,h.get? l=some (tupObj vs n)/\Vs (keys σ++fr) h sd.ds vs:=by
 cases sd with
 | lst ds=>contradiction
 | tup ds=>obtain ⟨a,vs,n,g,r⟩:=x;exact ⟨vs,n,g,r⟩
 | ref a ds=>contradiction
theorem WB.addL {sd1 sd2:SD}(h1:sd1.isL=true)(h2:sd2.isL=true)(i1:sd1.inv σ)(i2:sd2.inv σ)(hsz:sd1.ds.length+sd2.ds.length<=sizeLine)(h:QL Q (sd1.ds++sd2.ds) σ):WB c A fr σ (binaryOp .Add) sd1.d sd2.d Q X:=fun v1 v2 s ok x1 x2=>by
 obtain ⟨l,rfl,z⟩:=SD.of_v x1
 obtain ⟨b,rfl,y⟩:=SD.of_v x2
 obtain ⟨vs,n,g,r⟩:=z.list ok i1 h1
 obtain ⟨us,k,g',r'⟩:=y.list ok i2 h2
 refine P.add_list g g' ?_ (by simp [r.length,r'.length];exact hsz)
 exact (by simp:(vs.toArray++us.toArray)=(vs++us).toArray)▸newL (tk:=s.toks) ok (r.append r') h
theorem WB.addT {ds es:List D}(h1:ds≠[])(h2:es≠[])(hsz:ds.length+es.length<=sizeLine)(h:Q (.tup (ds++es)) σ):WB c A fr σ (binaryOp .Add) (.tup ds) (.tup es) Q X:=fun v1 v2 s ok x1 x2=>by
 obtain ⟨l,rfl,z⟩:=SD.of_v (sd:=.tup ds) x1
 obtain ⟨b,rfl,y⟩:=SD.of_v (sd:=.tup es) x2
 obtain ⟨vs,n,g,r⟩:=z.tuple rfl
 obtain ⟨us,k,g',r'⟩:=y.tuple rfl
 have e1:vs≠[]:=fun e=>h1 (by have:=r.length;subst e;exact List.eq_nil_of_length_eq_zero this.symm)
 refine P.add_tuple g g' (by simpa using e1) (by simpa using (fun e=>h2 (by subst e;exact List.eq_nil_of_length_eq_zero (r'.length).symm))) ?_ (by simp [r.length,r'.length];exact hsz)
 exact (by simp:(vs.toArray++us.toArray)=(vs++us).toArray)▸newT (tk:=s.toks) ok (r.append r') h
theorem foldl_rep (x:List Value):∀(n:Nat) (acc:Array Value),List.foldl (fun x1 x2=>x1++x2) acc (List.replicate n x.toArray)=acc++(List.replicate n x).flatten.toArray
 | 0,acc=>by rfl
 | n+1,acc=>by simp only [List.replicate_succ,List.foldl_cons,foldl_rep x n];simp
theorem Vs.rep {K:List Addr}{h:Heap}{ds:List D}{vs:List Value}(x:Vs K h ds vs):∀n,Vs K h (List.replicate n ds).flatten (List.replicate n vs).flatten
 | 0=>Vs.nil
 | n+1=>by exact x.append (Vs.rep x n)
theorem WB.mulL {sd:SD}{k:Int}(h1:sd.isL=true)(i1:sd.inv σ)(hlo: -(2^63)<=k)(hhi:k<2^63)(hsz:sd.ds.length*k.toNat<=2^24)(h:QL Q (List.replicate k.toNat sd.ds).flatten σ):WB c A fr σ (binaryOp .Mult) sd.d (.int k) Q X:=fun v1 v2 s ok x1 x2=>by
 obtain ⟨l,rfl,z⟩:=SD.of_v x1
 obtain ⟨u,rfl⟩:=x2.toInt
 obtain ⟨vs,n,hl,r⟩:=z.list ok i1 h1
 have hz:vs.toArray.size*k.toNat<=2^24:=by rw [List.size_toArray,r.length];exact hsz
 refine wpAny_binaryOp_repeat_ref (T:="list") (U:="int") (by decide) ⟨_,hl,rfl⟩ (fun s'=>typeIs_int s' k u) noFill_list_mul F.fills_int_mul F.slot_int_rmul repeat_list F.slot_int_index.lookup
  (call_meets F.slot_int_rmul (typeIs_int s k u) F.entry_int_rmul (F.args_int_rmul_2 _ _) (int___rmul___int_list k u l vs.toArray n)
   ⟨hl,rfl,⟨_,hl,rfl⟩,call_meets F.slot_list_mul ⟨_,hl,rfl⟩ F.entry_list_mul (F.args_list_mul_2 _ _)
    (AutoListH.list___mul___list_int_3 l vs.toArray n k u (by simp [Builtin.List.listFitsIndex];exact z875 hlo hhi) (z876 hz) (by simp [Builtin.List.listTooLong];exact z874 (by trivial)))
    ⟨hl,?_⟩⟩)
 have e:List.foldl (fun x1 x2=>x1++x2) #[] (List.replicate (if vs.toArray.isEmpty=true then 0 else k.toNat) vs.toArray)=(List.replicate k.toNat vs).flatten.toArray:=by
  rw [foldl_rep]
  by_cases hv:vs=[]
  ·subst hv;simp
  ·simp [hv]
 rw [e]
 exact newL (tk:=s.toks) ok (r.rep _) h
theorem WE.methL {o:Expr}{name:Str}{id:String}{apos pos:Pos}{args:List Expr}(slot:Slot "list" name id)(hty:typeOf (.builtin id)=pure (.type "method_descriptor"))
  (h:WE c A fr env m σ o (fun d σ1=>∃sd:SD,d=sd.d/\sd.isL=true/\sd.inv σ1/\WA c A fr env m σ1 args (fun ds σ2=>At1 c A fr σ2 (.builtin id) (d::ds) Q X) X) X)
  (hp:plainArgs args=true:=by rfl) (hb:∀w,attributeBase o name env w=w:=by intro _;rfl) (hl:(apos.endLine==pos.line)=true:=by rfl) (hn:decide (args.length<30)=true:=by rfl):
  WE c A fr env m σ (.Call (.Attribute o name apos) args [] pos) Q X:=fun s ok fm=>by
 have hst:=plainArgs_starEach (env:=env) (pos:=pos) hp
 show wpAny _ A (do let ov<-attributeBase o name env (eval o env);standAt apos.atName;methodCall o name apos pos env ov (args.length+([]:List Keyword).length) (backTo pos (starEach args env)) (backToKw pos (keywordEach [] env))) _ _ s
 rw [hb]
 refine wpAny_bind (wpAny_mono (h s ok fm) (fun ov s1 hz=> ?_) fun _ _ x=>x)
 obtain ⟨d,σ1,p1,ok1,x1,sd,hsd,hL,inv,q1⟩:=hz
 subst hsd
 refine wpAny_bind (wpAny_standAt ?_)
 obtain ⟨l,rfl,z⟩:=SD.of_v x1
 obtain ⟨vs,n,g,r⟩:=z.list ok1 inv hL
 have few:methodCallForm (args.length+([]:List Keyword).length) (backTo pos (starEach args env)) (backToKw pos (keywordEach [] env))=true:=by
  unfold methodCallForm
  have a3:backToKw pos (keywordEach [] env)=[]:=rfl
  rw [(List.all_eq_true.mpr fun x hx=>by rw [hst x hx];rfl),a3]
  trivial
 unfold methodCall
 rw [few]
 refine wpAny_bind (wpAny_holding ?_)
 unfold calleeOf
 refine getMethod_builtin ⟨_,g,rfl⟩ F.plainAttrs_list slot hty (fun a e=>by injection e with e;subst e;exact ⟨_,g,rfl⟩) ?_
 rw [show methodCallPos true o env apos pos=pure pos from if_pos (by rw [hl];rfl)]
 refine wpAny_bind (wpAny_pure ?_)
 refine callWith_builtin (by rw [List.any_eq_false];intro x hx;simp [hst x hx]) (wpAny_evalArgs hst (wpAny_mono (q1 pos s1 ok1 (fm.move p1)) (fun us s2 hz=> ?_) fun _ _ x=>Ex.back p1 x fun _ _ y=>y))
 obtain ⟨ds,σ2,p2,ok2,x2,q2⟩:=hz
 refine wpAny_mono (q2 s2 _ ok2 (Vs.cons (p2.v x1) x2)) (fun _ _ z=>z.back (p1.trans p2)) fun _ _ x=>Ex.back (p1.trans p2) x fun _ _ y=>y
end
section
variable {c:Cx} {A:Around} {fr:List Addr} {σ σ1 σ2:Sto} {X:Addr->Sto->Prop} {Q:D->Sto->Prop} {env:Env} {m:Vars} {N:Vars->Sto->Prop} {R:D->Sto->Prop}
theorem At1.append {a:Addr}{ds:List D}{d:D}(hsz:ds.length<=sizeLine)(h:Q .none (σ1++(a,.lst (ds++[d]))::σ2)):At1 c A fr (σ1++(a,.lst ds)::σ2) (.builtin "list.append") [.ref a,d] Q X:=.two fun s v u ok hv hu=>by
 subst hv
 obtain ⟨vs,n,g,r⟩:=ok.sto _ (by simp:(a,O.lst ds)∈σ1++(a,.lst ds)::σ2)
 have ha:a∈keys (σ1++(a,O.lst ds)::σ2):=by simp [keys]
 refine call_meets F.slot_list_append ⟨_,g,rfl⟩ F.entry_list_append (F.args_list_append_2 _ _) (list_append a vs.toArray n u (by simpa [r.length] using hsz)) ⟨g,?_⟩
 have k1:∀b ob,b≠a->s.heap.get? b=some ob->(s.heap.update a (Obj.mapSeq fun xs=>xs.push u)).get? b=some ob:=fun b ob hne e=>by exact (Heap.get?_update_ne _ _ _ _ hne ..).trans (e)
 obtain ⟨n',g'⟩:∃n',(s.heap.update a (Obj.mapSeq fun xs=>xs.push u)).get? a=some (lstObj (vs++[u]) n'):=by
  have e:=IsL.update (h:=s.heap) (l:=a) (items:=vs.toArray) (n:=n) g fun xs=>xs.push u
  exact ⟨_,((by simp:vs.toArray.push u=(vs++[u]).toArray)▸e)⟩
 refine ⟨.none,_,Post.put (tk:=s.toks) (o':=.lst (ds++[d])) (fun z=>(List.nodup_append.mp ok.nd).2.2 a ha a z rfl) k1 ⟨_,g'⟩,Ok.put ok k1 ⟨vs++[u],n',g',?_⟩,by rfl,h⟩
 exact Vs.move (fun b ob nb e=>k1 b ob (fun z=>nb (by simp only [z];exact List.mem_append_left _ ha)) e) (fun _ m=>.inl m) _ _ (r.snoc hu)
theorem W1.expr {e:Expr}{pos:Pos}(h:WE c A fr env m σ e (fun _ σ'=>N m σ') X)(hs:swapsWith e none pos.line env=pure false):W1 c A fr env m σ (.Expr e pos) N R X:=fun s ok fm=>by
 refine wpAny_Expr_any (wpAny_mono (h s ok fm) (fun v s1 hz=> ?_) fun _ _ x=>x.wide fm) (by unfold interactive;rw [fm.kind];rfl) hs
 obtain ⟨d,σ1,p1,ok1,x1,q1⟩:=hz
 exact ⟨.next m,σ1,p1.wide (by exact List.nil_subset _),ok1,⟨rfl,fm.move p1⟩,q1⟩
end
section
variable {c:Cx} {A:Around} {fr:List Addr} {σ σ1 σ2:Sto} {X:Addr->Sto->Prop} {Q:D->Sto->Prop} {env:Env} {m:Vars} {N:Vars->Sto->Prop} {R:D->Sto->Prop}
noncomputable def WPt (c:Cx)(A:Around)(fr:List Addr)(env:Env)(m:Vars)(σ:Sto)(e:Option Expr)(Q:Option Int->Sto->Prop)(X:Addr->Sto->Prop):Prop:=
 match e with
 | none=>Q none σ
 | some e=>WE c A fr env m σ e (fun d σ1=>∃i,d=.int i/\Q (some i) σ1) X
theorem WPt.run {e:Option Expr}{Q:Option Int->Sto->Prop}(h:WPt c A fr env m σ e Q X){s:Shared}(ok:Ok c A fr σ s.heap)(fm:Fm env m fr (keys σ++fr) s.heap):wpAny (model c.prog c.w) A (evalPart e env) (fun v s'=>∃i σ',IsPart v i/\Post [] fr σ s s' σ'/\Ok c A fr σ' s'.heap/\Q i σ') (Ex c A none fr σ s false X) s:=by
 cases e with
 | none=>exact wpAny_pure ⟨none,σ,.none,Post.refl ..,ok,h⟩
 | some e=>
  refine wpAny_mono (h s ok fm) (fun v s1 hz=> ?_) fun _ _ x=>x
  obtain ⟨d,σ1,p1,ok1,x1,i,e1,q1⟩:=hz
  subst e1
  obtain ⟨t,rfl⟩:=x1.toInt
  exact ⟨some i,σ1,.int i t,p1,ok1,q1⟩
noncomputable def pick (ds:List D)(lo hi:Option Int):List D:=(ds.drop (lo.elim 0 (clipAt ds.length))).take (hi.elim ds.length (clipAt ds.length)-lo.elim 0 (clipAt ds.length))
end
end Mine
namespace Mine
open PySem PySem.Calls PyProof.Rows PySem.W
noncomputable def kRun {α:Type}(lt:Nat->Nat->Bool):KasT α->α
 | .ret a=>a
 | .ask i j k=>kRun lt (k (lt i j))
theorem kRun_bind {α β:Type}{lt:Nat->Nat->Bool}{f:α->KasT β}:∀t:KasT α,kRun lt (t.bind f)=kRun lt (f (kRun lt t))
 | .ret a=>rfl
 | .ask i j k=>by
  show kRun lt ((k (lt i j)).bind f)=_
  simp only [kRun_bind (k (lt i j))];rfl
section
variable (rk:Nat->Int)
noncomputable def kk (p:Array Nat)(i:Nat):Int:=rk (p.getD i 0)
noncomputable def Up (p:Array Nat)(n:Nat):Prop:=∀i j,i<=j->j<n->kk rk p i<=kk rk p j
noncomputable def Dn (p:Array Nat)(n:Nat):Prop:=∀i j,i<=j->j<n->kk rk p j<=kk rk p i
noncomputable abbrev ltR:Nat->Nat->Bool:=fun i j=>decide (rk i<rk j)
end
section
variable {rk:Nat->Int}
theorem kk_congr {p q:Array Nat}{i j:Nat}(h:p[i]? =q[j]?):kk rk p i=kk rk q j:=by
 unfold kk;simp only [Array.getD_eq_getD_getElem?,h]
theorem kk_rev {p:Array Nat}{i j:Nat}(hj:j<=p.size)(k:Nat):kk rk (kas_rev p i j) k=if i<=k/\k<j then kk rk p (i+j-1-k) else kk rk p k:=by
 have e:=getElem?_mirror_all (i:=i) hj k
 split
 ·rename_i h;rw [if_pos h] at e;exact kk_congr e
 ·rename_i h;rw [if_neg h] at e;exact kk_congr e
theorem kk_rev_same {p:Array Nat}{i j:Nat}(hj:j<=p.size)(he:∀k,i<=k->k<j->kk rk p k=kk rk p (j-1))(k:Nat):kk rk (kas_rev p i j) k=kk rk p k:=by
 rw [kk_rev hj]
 split
 ·rename_i h;exact (he _ (z879 h.2) (z880 h.2 h.1) ..).trans (he k h.1 h.2 ..).symm
 ·rfl
theorem kk_bubble {p:Array Nat}{src d:Nat}(hs:src<p.size)(hd:d<=src)(k:Nat):kk rk (bubble p src d) k=if k=src-d then kk rk p src else if src-d<k/\k<=src then kk rk p (k-1) else kk rk p k:=by
 have e:=getElem?_bubble hs d hd k
 split
 ·rename_i h;rw [if_pos h] at e;exact kk_congr e
 ·rename_i h
  rw [if_neg h] at e
  split
  ·rename_i h2;rw [if_pos h2] at e;exact kk_congr e
  ·rename_i h2;rw [if_neg h2] at e;exact kk_congr e
theorem rev_perm (p:Array Nat)(i j:Nat):(kas_rev p i j).Perm p:=mirror_perm _ _ _ _
theorem asc_spec {p:Array Nat}:∀(f n:Nat),1<=n->Up rk p n->n<=kRun (ltR rk) (kas_asc p f n)/\kRun (ltR rk) (kas_asc p f n)<=n+f/\Up rk p (kRun (ltR rk) (kas_asc p f n))/\(kRun (ltR rk) (kas_asc p f n)=n+f\/kk rk p (kRun (ltR rk) (kas_asc p f n))<kk rk p (kRun (ltR rk) (kas_asc p f n)-1))
 | 0,n,h1,hs=>⟨Nat.le_refl _,Nat.le_refl _,hs,.inl rfl⟩
 | f+1,n,h1,hs=>by
  have hr:kRun (ltR rk) (kas_asc p (f+1) n)=kRun (ltR rk) (if ltR rk (p.getD n 0) (p.getD (n-1) 0)=true then KasT.ret n else kas_asc p f (n+1)):=rfl
  rw [hr]
  by_cases hc:ltR rk (p.getD n 0) (p.getD (n-1) 0)=true
  ·rw [if_pos hc]
   exact ⟨Nat.le_refl _,Nat.le_add_right _ _,hs,.inr (of_decide_eq_true hc)⟩
  ·rw [if_neg hc]
   have hc':kk rk p (n-1)<=kk rk p n:=by
    have:¬(rk (p.getD n 0)<rk (p.getD (n-1) 0)):=fun z=>hc (decide_eq_true z)
    exact z21 this
   obtain ⟨a1,a2,a3,a4⟩:=asc_spec (p:=p) f (n+1) z235 (fun i j hij hj=>by
    by_cases hj':j<n
    ·exact hs i j hij hj'
    ·obtain rfl:j=n:=z26 hj hj'
     by_cases hi:i=j
     ·subst hi;exact Int.le_refl _
     ·exact Int.le_trans (hs i (j-1) (z881 hij hi) (z882 h1)) hc')
   exact ⟨z32 a1,z883 a2,a3,a4.imp (fun e=>z884 e) id⟩
theorem desc_spec:∀(f:Nat) (p:Array Nat) (n q:Nat),1<=n->n+f<=p.size->Dn rk p n->q+1<=n->(∀i,n-(q+1)<=i->i<n->kk rk p i=kk rk p (n-1))->
  let r:=kRun (ltR rk) (kas_desc f p n q)
  r.1.Perm p/\n<=r.2.1/\r.2.1<=n+f/\Dn rk r.1 r.2.1/\r.2.2+1<=r.2.1/\(∀i,r.2.1-(r.2.2+1)<=i->i<r.2.1->kk rk r.1 i=kk rk r.1 (r.2.1-1))
 | 0,p,n,q,h1,hz,hs,hq,he=>⟨.refl _,Nat.le_refl _,Nat.le_refl _,hs,hq,he⟩
 | f+1,p,n,q,h1,hz,hs,hq,he=>by
  intro r
  have hr:r=kRun (ltR rk) (kas_desc (f+1) p n q):=rfl
  unfold kas_desc at hr
  simp only [kRun] at hr
  by_cases hc:ltR rk (p.getD n 0) (p.getD (n-1) 0)=true
  ·rw [if_pos hc] at hr
   have hlt:kk rk p n<kk rk p (n-1):=of_decide_eq_true hc
   have step:∀p':Array Nat,(∀k,kk rk p' k=kk rk p k)->Dn rk p' (n+1):=fun p' hk i j hij hj=>by
    simp only [hk,hk]
    by_cases hj':j<n
    ·exact hs i j hij hj'
    ·obtain rfl:j=n:=z26 hj hj'
     by_cases hi:i=j
     ·subst hi;exact Int.le_refl _
     ·exact Int.le_trans (Int.le_of_lt hlt) (hs i (j-1) (z881 hij hi) (z882 h1))
   by_cases hq0:q>0
   ·rw [if_pos hq0] at hr
    obtain ⟨a1,a2,a3,a4,a5,a6⟩:=desc_spec f (kas_rev p (n-(q+1)) n) (n+1) 0 z235 (z885 hz ((rev_perm p _ _).size_eq)) (step _ (kk_rev_same (z32 hz) he)) z886 (fun i h1 h2=>by congr 1;exact z887 h1 h2)
    rw [hr]
    exact ⟨a1.trans (rev_perm _ _ _),z32 a2,z883 a3,a4,a5,a6⟩
   ·rw [if_neg hq0] at hr
    obtain ⟨a1,a2,a3,a4,a5,a6⟩:=desc_spec f p (n+1) 0 z235 (z888 hz) (step _ fun _=>rfl) z886 (fun i h1 h2=>by congr 1;exact z887 h1 h2)
    rw [hr]
    exact ⟨a1,z32 a2,z883 a3,a4,a5,a6⟩
  ·rw [if_neg hc] at hr
   simp only [kRun] at hr
   have hge:kk rk p (n-1)<=kk rk p n:=by
    have:¬(rk (p.getD n 0)<rk (p.getD (n-1) 0)):=fun z=>hc (decide_eq_true z)
    exact z21 this
   by_cases hd:ltR rk (p.getD (n-1) 0) (p.getD n 0)=true
   ·rw [if_pos hd] at hr
    rw [hr]
    exact ⟨.refl _,Nat.le_refl _,Nat.le_add_right _ _,hs,hq,he⟩
   ·rw [if_neg hd] at hr
    have hle:kk rk p n<=kk rk p (n-1):=by
     have:¬(rk (p.getD (n-1) 0)<rk (p.getD n 0)):=fun z=>hd (decide_eq_true z)
     exact z21 this
    have heq:=Int.le_antisymm hle hge
    obtain ⟨a1,a2,a3,a4,a5,a6⟩:=desc_spec f p (n+1) (q+1) z235 (z888 hz) (fun i j hij hj=>by
     by_cases hj':j<n
     ·exact hs i j hij hj'
     ·obtain rfl:j=n:=z26 hj hj'
      by_cases hi:i=j
      ·subst hi;exact Int.le_refl _
      ·rw [heq];exact hs i (j-1) (z881 hij hi) (z882 h1)) (z687 hq) (fun i h1 h2=>by
     rw [show n+1-1=n by exact z889]
     by_cases hi:i=n
     ·cases hi;rfl
     ·simp only [heq];exact he i (z890 h1) (z6 h2 hi))
    exact hr▸⟨a1,z32 a2,z883 a3,a4,a5,a6⟩
theorem tail3_spec {p:Array Nat}{n nrem:Nat}(h1:1<=n)(hn:n<=nrem)(hz:nrem<=p.size)(hs:Dn rk p n):
  let r:=kRun (ltR rk) (kas_tail3 n nrem p)
  r.2.Perm p/\1<=r.1/\r.1<=nrem/\Up rk r.2 r.1:=by
 intro r
 have hr:r=kRun (ltR rk) (kas_tail3 n nrem p):=rfl
 unfold kas_tail3 at hr
 rw [kRun_bind] at hr
 obtain ⟨a1,a2,a3,a4⟩:=asc_spec (p:=kas_rev p 0 n) (nrem-n) n h1 (fun i j hij hj=>by
  rw [kk_rev (z891 hn hz),kk_rev (z891 hn hz),if_pos (z892 hj hij),if_pos (z893 hj)]
  exact hs _ _ (z894 hij) (z895 h1))
 rw [hr]
 exact ⟨rev_perm _ _ _,by exact z891 h1 a1,by exact z896 hn a2,a3⟩
theorem descPart_spec {p:Array Nat}{n nrem:Nat}(hn:n+1<=nrem)(hz:nrem<=p.size)(hs:Dn rk p (n+1)):
  let r:=kRun (ltR rk) (kas_descPart n nrem p)
  r.2.Perm p/\1<=r.1/\r.1<=nrem/\Up rk r.2 r.1:=by
 intro r
 have hr:r=kRun (ltR rk) (kas_descPart n nrem p):=rfl
 unfold kas_descPart at hr
 rw [kRun_bind] at hr
 obtain ⟨a1,a2,a3,a4,a5,a6⟩:=desc_spec (rk:=rk) (nrem-(n+1)) p (n+1) 0 z235 (z897 hn hz) hs z886 (fun i h1 h2=>by congr 1;exact z887 h1 h2)
 revert hr a1 a2 a3 a4 a5 a6
 generalize kRun (ltR rk) (kas_desc (nrem-(n+1)) p (n+1) 0)=t
 intro hr a1 a2 a3 a4 a5 a6
 have hts:=a1.size_eq
 by_cases hq:t.2.2>0
 ·rw [if_pos hq] at hr
  obtain ⟨b1,b2,b3,b4⟩:=tail3_spec (rk:=rk) (nrem:=nrem) (z899 a2) (z896 hn a3) (z900 hts ((rev_perm _ _ _).size_eq) hz) (fun i j hij hj=>by
   rw [kk_rev_same (z898 hts hn hz a3) a6,kk_rev_same (z898 hts hn hz a3) a6]
   exact a4 i j hij hj)
  rw [hr]
  exact ⟨b1.trans ((rev_perm _ _ _).trans a1),b2,b3,b4⟩
 ·rw [if_neg hq] at hr
  obtain ⟨b1,b2,b3,b4⟩:=tail3_spec (rk:=rk) (nrem:=nrem) (z899 a2) (z896 hn a3) (z878 hts hz) a4
  rw [hr]
  exact ⟨b1.trans a1,b2,b3,b4⟩
theorem count_spec {p:Array Nat}{nrem:Nat}(h1:1<=nrem)(hz:nrem<=p.size):
  let r:=kRun (ltR rk) (kas_count nrem p)
  r.2.Perm p/\1<=r.1/\r.1<=nrem/\Up rk r.2 r.1:=by
 intro r
 have hr:r=kRun (ltR rk) (kas_count nrem p):=rfl
 unfold kas_count at hr
 replace hr:=hr.trans (kRun_bind ..)
 obtain ⟨a1, a2, a3, a4⟩ := asc_spec (rk := rk) (p := p) (nrem - 1) 1 (Nat.le_refl _) (fun i j hij hj => by obtain rfl : i = j := z901 hj hij
                                                                                                            exact Int.le_refl _)
 revert hr a1 a2 a3 a4
 generalize kRun (ltR rk) (kas_asc p (nrem-1) 1)=n
 intro hr a1 a2 a3 a4
 by_cases hn:n=nrem
 ·rw [if_pos (by simpa using hn)] at hr
  exact hr▸⟨.refl _,a1,by exact z28 hn,a3⟩
 ·rw [if_neg (by simpa using hn)] at hr
  have hlt:=a4.resolve_left (z902 h1 hn)
  by_cases hg:n>1
  ·rw [if_pos hg] at hr
   simp only [kRun] at hr
   by_cases hc:ltR rk (p.getD 0 0) (p.getD (n-1) 0)=true
   ·rw [if_pos hc] at hr
    exact hr▸⟨.refl _,a1,by exact z896 h1 a2,a3⟩
   ·rw [if_neg hc] at hr
    have hle:kk rk p (n-1)<=kk rk p 0:=by
     have:¬(rk (p.getD 0 0)<rk (p.getD (n-1) 0)):=fun z=>hc (decide_eq_true z)
     exact z21 this
    have hall:∀k,0<=k->k<n->kk rk p k=kk rk p (n-1):=fun k _ hk=>by
     have:=a3 0 k z597 hk
     exact z904 hle ‹_› (a3 k (n-1) (z903 hk) (z882 a1))
    obtain ⟨b1,b2,b3,b4⟩:=descPart_spec (rk:=rk) (p:=kas_rev p 0 n) (n:=n) (nrem:=nrem) (z905 h1 a2 hn) (z878 ((rev_perm _ _ _).size_eq) hz) (fun i j hij hj=>by
     simp only [kk_rev_same (z906 h1 hz a2) hall]
     by_cases hj':j<n
     ·simp only [hall i z597 (z907 hj' hij),hall j z597 hj'];exact Int.le_refl _
     ·obtain rfl:j=n:=z26 hj hj'
      by_cases hi:i=j
      ·subst hi;exact Int.le_refl _
      ·simp only [hall i z597 (z908 hij hi)];exact Int.le_of_lt hlt)
    exact hr▸⟨b1.trans (rev_perm _ _ _),b2,b3,b4⟩
  ·rw [if_neg hg] at hr
   obtain rfl:n=1:=z909 a1 hg
   obtain ⟨b1,b2,b3,b4⟩:=descPart_spec (rk:=rk) (p:=p) (n:=1) (nrem:=nrem) (z910 h1 hn) hz (fun i j hij hj=>by
    by_cases hi:i=j
    ·subst hi;exact Int.le_refl _
    ·obtain rfl:i=0:=z911 hj hij hi
     obtain rfl:j=1:=z912 hj hi
     exact Int.le_of_lt hlt)
   exact hr▸⟨b1,b2,b3,b4⟩
theorem place_spec {p:Array Nat}{k:Nat}(hs:Up rk p k):∀(f l r:Nat),l<=r->r<=k->r-l<=f->(∀i,i<l->kk rk p i<=kk rk p k)->(∀i,r<=i->i<k->kk rk p k<kk rk p i)->
  kRun (ltR rk) (kas_place p k f l r)<=k/\(∀i,i<kRun (ltR rk) (kas_place p k f l r)->kk rk p i<=kk rk p k)/\(∀i,kRun (ltR rk) (kas_place p k f l r)<=i->i<k->kk rk p k<kk rk p i)
 | 0,l,r,h1,h2,h3,hlo,hhi=>by
  obtain rfl:l=r:=z913 h3 h1
  exact ⟨h2,hlo,hhi⟩
 | f+1,l,r,h1,h2,h3,hlo,hhi=>by
  rw [show kas_place p k (f+1) l r=(if l>=r then .ret l else .ask (p.getD k 0) (p.getD ((l+r)/2) 0) fun c=>if c=true then kas_place p k f l ((l+r)/2) else kas_place p k f ((l+r)/2+1) r) from rfl]
  by_cases hge:l>=r
  ·rw [if_pos hge]
   obtain rfl:l=r:=z914 h1 hge
   exact ⟨h2,hlo,hhi⟩
  ·rw [if_neg hge]
   simp only [kRun]
   by_cases hc:ltR rk (p.getD k 0) (p.getD ((l+r)/2) 0)=true
   ·rw [if_pos hc]
    exact place_spec hs f l ((l+r)/2) (z915 h1) (z916 h1 h2) (z917 h3) hlo fun i i1 i2=>Int.lt_of_lt_of_le (of_decide_eq_true hc) (hs _ _ i1 i2)
   ·rw [if_neg hc]
    have hle:kk rk p ((l+r)/2)<=kk rk p k:=by
     have:¬(rk (p.getD k 0)<rk (p.getD ((l+r)/2) 0)):=fun z=>hc (decide_eq_true z)
     exact z21 this
    exact place_spec hs f ((l+r)/2+1) r (z918 hge) h2 (z919 h3) (fun i i1=>Int.le_trans (hs i ((l+r)/2) (z371 i1) (z920 h2 hge)) hle) hhi
theorem bin_spec:∀(f:Nat) (p:Array Nat) (k:Nat),k+f<=p.size->Up rk p k->(kRun (ltR rk) (kas_bin f p k)).Perm p/\Up rk (kRun (ltR rk) (kas_bin f p k)) (k+f)
 | 0,p,k,hz,hs=>⟨.refl _,hs⟩
 | f+1,p,k,hz,hs=>by
  rw [show kas_bin (f+1) p k=(kas_place p k k 0 k).bind fun l=>kas_bin f (bubble p k (k-l)) (k+1) from rfl]
  rw [kRun_bind]
  obtain ⟨a1,a2,a3⟩:=place_spec hs k 0 k z597 z27 z921 (fun i hi=>(z4 hi).elim) (fun i h1 h2=>(z74 h2 h1).elim)
  revert a1 a2 a3
  generalize kRun (ltR rk) (kas_place p k k 0 k)=l
  intro a1 a2 a3
  have hks:=z922 hz
  obtain ⟨b1,b2⟩:=bin_spec f (bubble p k (k-l)) (k+1) (by rw [bubble_size];exact z888 hz) (fun i j hij hj=>by
   rw [kk_bubble hks z921,kk_bubble hks (by exact z921),show k-(k-l)=l by exact z42 a1]
   repeat' split
   all_goals first
    | (exfalso;lia)
    | exact Int.le_refl _
    | exact a2 _ (by lia)
    | exact Int.le_of_lt (a3 _ (by exact z923 ‹_› hij ‹_›) (by exact z924 hj a1 ‹_›))
    | exact hs _ _ (by lia) (by lia))
  exact ⟨b1.trans (bubble_perm _ _ _),by simp only [show k+(f+1)=k+1+f by exact z930];exact b2⟩
theorem sort_spec {n:Nat}(h2:2<=n):(kRun (ltR rk) (kas_sort n)).Perm (List.range n).toArray/\Up rk (kRun (ltR rk) (kas_sort n)) n:=by
 unfold kas_sort
 rw [kRun_bind]
 obtain ⟨a1,a2,a3,a4⟩:=count_spec (rk:=rk) (p:=(List.range n).toArray) (nrem:=n) (z931 h2) (by simp)
 revert a1 a2 a3 a4
 generalize kRun (ltR rk) (kas_count n (List.range n).toArray)=r
 intro a1 a2 a3 a4
 by_cases hl:r.1<n
 ·rw [if_pos hl]
  refine And.elim (fun b1 b2=> ?_) (bin_spec (rk:=rk) (n-max r.1 1) r.2 (max r.1 1) (z932 hl (by rw [a1.size_eq];simp)) (by rw [show max r.1 1=r.1 by exact z933 a2];exact a4))
  exact ⟨b1.trans a1,by simp only [show max r.1 1+(n-max r.1 1)=n by exact z934 hl] at b2;exact b2⟩
 ·rw [if_neg hl]
  exact ⟨a1,by rw [show r.1=n by exact z599 a3 hl] at a4;exact a4⟩
end
end Mine
namespace Mine
open PySem PySem.Calls PyProof.Rows PySem.SeqAt PySem.MeetsSeq PySem.MeetsSeq2 PySem.MeetsSeq3 PySem.SeqRoads2
noncomputable def OpAt (A:Around)(s:Shared)(op:CmpOp)(y x r:Value):Prop:=
 ∀(prog:Program) (w:World) (E:Value->Shared->Prop) (Q:Value->Shared->Prop),Q r s->wpAny (model prog w) A (richCompare op y x) Q E s
theorem tuple_ltAt (l b:Addr)(items items2:Array Value)(n n2:Nat)(e:Nat->Bool)(r:Value):
  Meets (Builtin.«tuple.__lt__» ⟨[.ref l,.ref b],[]⟩)
   (fun A R s=>s.heap.get? l=some {cls:=.type "tuple",dict:=none,data:=.seq items n,slots:= #[]}/\s.heap.get? b=some {cls:=.type "tuple",dict:=none,data:=.seq items2 n2,slots:= #[]}/\
    (∀j (h1:j<items.size) (h2:j<items2.size),SeqAt.EqAt A.in1 s items[j] items2[j] (e j))/\
    (∀j (h1:j<items.size) (h2:j<items2.size),e j=false->(∀i,i<j->e i=true)->OpAt A.in1 s .Lt items[j] items2[j] r)/\
    ((∀i,i<min items.size items2.size->e i=true)->Builtin.Tuple.tupleCompareSizes .Lt items.size items2.size=r)/\
    R (.ok (.ret r)) s):=
 .of_wp fun prog w A R s h=>by
  obtain ⟨hp,g,d,tk,os⟩:=s;obtain ⟨hl,hb,he,ho,hz0,h⟩:=h
  have f2:=AutoSeq1.sub_tuple_tuple
  have hZ:(items.toList.zip items2.toList).length=min items.size items2.size:=by simp
  wp_walk using AutoSeq1.wpAny_loadPart' hl,AutoSeq1.wpAny_loadPart' hb,wpAny_forIn_list _ (fun rest b s'=>b.1=none/\s'=⟨hp,g,d,tk,os⟩/\∃i,rest=(items.toList.zip items2.toList).drop i/\∀j,j<i->e j=true) _
  case turn=>
   rintro ⟨y,x⟩ rest b s' ⟨hb',rfl,i,hz,hR⟩
   have hlt:i<(items.toList.zip items2.toList).length:=by
    rcases Nat.lt_or_ge i (items.toList.zip items2.toList).length with h'| h'
    ·exact h'
    ·rw [List.drop_of_length_le h'] at hz;cases hz
   have hm:i<min items.size items2.size:=hZ▸hlt
   have h1:i<items.size:=Nat.lt_of_lt_of_le hm (Nat.min_le_left _ _)
   have h2:i<items2.size:=Nat.lt_of_lt_of_le hm (Nat.min_le_right _ _)
   rw [List.drop_eq_getElem_cons hlt] at hz
   injection hz with hyx hrest
   have hy:y=items[i]:=by have:=congrArg Prod.fst hyx;simpa using this
   have hx:x=items2[i]:=by have:=congrArg Prod.snd hyx;simpa using this
   subst hy hx
   refine wpAny_bind (he i h1 h2 prog w _ _ ?_)
   cases hy:e i with
   | true=>
    wp_walk
    exact ⟨rfl,rfl,i+1,hrest,fun j hj=>by
     by_cases hji:j=i
     ·subst hji;exact hy
     ·exact hR j (z6 hj hji)⟩
   | false=>
    refine wpAny_bind (wpAny_rule ?_)
    refine wpAny_bind (ho i h1 h2 hy hR prog w _ _ ?_)
    wp_walk
    exact ⟨_,rfl,h⟩
  case fin=>
   rintro ⟨b1,b2⟩ s' ⟨hb',rfl,i,hz,hR⟩
   simp only at hb'
   subst hb'
   have hge:min items.size items2.size<=i:=by
    rcases Nat.lt_or_ge i (items.toList.zip items2.toList).length with h'| h'
    ·rw [List.drop_eq_getElem_cons h'] at hz;cases hz
    ·exact hZ▸h'
   have e2:=hz0 fun j hj=>hR j (z935 hj hge)
   wp_walk
   exact ⟨_,rfl,by rw [e2];exact h⟩
  case h=>
   exact ⟨rfl,rfl,0,rfl,fun j hj=>by lia⟩
theorem OpAt.tuple_lt {A:Around}{s:Shared}{l b:Addr}{vs us:List Value}{n n2:Nat}{e:Nat->Bool}{r:Bool}(hl:s.heap.get? l=some (tupObj vs n))(hb:s.heap.get? b=some (tupObj us n2))(hu:A.units<cLine)
  (he:∀j (h1:j<vs.toArray.size) (h2:j<us.toArray.size),SeqAt.EqAt A.in1 s vs.toArray[j] us.toArray[j] (e j))
  (ho:∀j (h1:j<vs.toArray.size) (h2:j<us.toArray.size),e j=false->(∀i,i<j->e i=true)->OpAt A.in1 s .Lt vs.toArray[j] us.toArray[j] (.bool r))
  (hz:(∀i,i<min vs.toArray.size us.toArray.size->e i=true)->Builtin.Tuple.tupleCompareSizes .Lt vs.toArray.size us.toArray.size=.bool r):OpAt A s .Lt (.ref l) (.ref b) (.bool r):=fun prog w E Q h=>
 richCompare_meets_room (op:=.Lt) ⟨_,hl,rfl⟩ ⟨_,hb,rfl⟩ F.slot_tuple_lt F.entry_tuple_lt (F.args_tuple_lt_2 _ _) (tuple_ltAt l b vs.toArray us.toArray n n2 e (.bool r))
  ⟨hl,hb,he,ho,hz,show Value.bool r≠Value.notImplemented/\Q (.bool r) s from ⟨(fun x=>nomatch x),h⟩⟩ hu
end Mine
namespace Mine
open PySem PySem.Calls PyProof.Rows PySem.W
noncomputable def kAll {α:Type}(n:Nat)(R:α->Prop):KasT α->Prop
 | .ret a=>R a
 | .ask i j k=>i<n/\j<n/\∀b,kAll n R (k b)
theorem kAll_bind {α β:Type}{n:Nat}{R:α->Prop}{S:β->Prop}{f:α->KasT β}(hf:∀a,R a->kAll n S (f a)):∀t:KasT α,kAll n R t->kAll n S (t.bind f)
 | .ret a,h=>hf a h
 | .ask i j k,h=>⟨h.1,h.2.1,fun b=>kAll_bind hf (k b) (h.2.2 b)⟩
theorem kasWp_all {α:Type}{cmp:Nat->Nat->(Bool->Shared->Prop)->Shared->Prop}{lt:Nat->Nat->Bool}{s:Shared}{n:Nat}{R:α->Prop}(hc:∀i j C,i<n->j<n->C (lt i j) s->cmp i j C s):∀(t:KasT α) {G:α->Shared->Prop},kAll n R t->G (kRun lt t) s->t.kasWp cmp G s
 | .ret a,G,_,h=>h
 | .ask i j k,G,a,h=>hc i j _ a.1 a.2.1 (kasWp_all hc (k (lt i j)) (a.2.2 _) h)
noncomputable def Low (n:Nat)(p:Array Nat):Prop:=∀i,p.getD i 0<n
theorem Low.perm {n:Nat}{p q:Array Nat}(hn:0<n)(h:Low n p)(e:q.Perm p):Low n q:=fun i=>by
 by_cases hi:i<q.size
 ·obtain ⟨j,hj,he⟩:=Array.mem_iff_getElem.mp (e.mem_iff.mp (Array.getElem_mem hi))
  have:=h j
  simp only [hi,hj,dif_pos] at this⊢
  simpa [(he.symm)] using this
 ·simp [Array.getD,hi];exact hn
section
variable {n:Nat} (hn:0<n)
include hn
theorem asc_all {p:Array Nat}(hp:Low n p):∀(f k:Nat),kAll n (fun _=>True) (kas_asc p f k)
 | 0,k=>trivial
 | f+1,k=>⟨hp _,hp _,fun b=>by
  cases b
  ·exact asc_all hp f (k+1)
  ·trivial⟩
theorem desc_all:∀(f:Nat) (p:Array Nat) (k q:Nat),Low n p->kAll n (fun r=>Low n r.1) (kas_desc f p k q)
 | 0,p,k,q,hp=>hp
 | f+1,p,k,q,hp=>⟨hp _,hp _,fun b=>by
  cases b
  ·refine ⟨hp _,hp _,fun d=> ?_⟩
   cases d
   ·exact desc_all f p (k+1) (q+1) hp
   ·exact hp
  ·split
   ·exact desc_all f _ (k+1) 0 (hp.perm hn (rev_perm _ _ _))
   ·exact desc_all f p (k+1) 0 hp⟩
theorem tail3_all {p:Array Nat}{k nrem:Nat}(hp:Low n p):kAll n (fun r=>Low n r.2) (kas_tail3 k nrem p):=by
 refine kAll_bind (R:=fun _=>True) (fun m _=> ?_) _ (asc_all hn (hp.perm hn (rev_perm _ _ _)) _ _)
 exact hp.perm hn (rev_perm _ _ _)
theorem descPart_all {p:Array Nat}{k nrem:Nat}(hp:Low n p):kAll n (fun r=>Low n r.2) (kas_descPart k nrem p):=
 kAll_bind (R:=fun r=>Low n r.1) (fun r hr=>by
  split
  ·exact tail3_all hn (hr.perm hn (rev_perm _ _ _))
  ·exact tail3_all hn hr) _ (desc_all hn _ _ _ _ hp)
theorem count_all {p:Array Nat}{nrem:Nat}(hp:Low n p):kAll n (fun r=>Low n r.2) (kas_count nrem p):=
 kAll_bind (R:=fun _=>True) (fun m _=>by
  split
  ·exact hp
  ·split
   ·refine ⟨hp _,hp _,fun b=> ?_⟩
    cases b
    ·exact descPart_all hn (hp.perm hn (rev_perm _ _ _))
    ·exact hp
   ·exact descPart_all hn hp) _ (asc_all hn hp _ _)
theorem place_all {p:Array Nat}{k:Nat}(hp:Low n p):∀(f l r:Nat),kAll n (fun _=>True) (kas_place p k f l r)
 | 0,l,r=>trivial
 | f+1,l,r=>by
  rw [show kas_place p k (f+1) l r=(if l>=r then .ret l else .ask (p.getD k 0) (p.getD ((l+r)/2) 0) fun c=>if c=true then kas_place p k f l ((l+r)/2) else kas_place p k f ((l+r)/2+1) r) from rfl]
  split
  ·trivial
  ·refine ⟨hp _,hp _,fun b=> ?_⟩
   cases b
   ·exact place_all hp f _ _
   ·exact place_all hp f _ _
theorem bin_all:∀(f:Nat) (p:Array Nat) (k:Nat),Low n p->kAll n (fun r=>Low n r) (kas_bin f p k)
 | 0,p,k,hp=>hp
 | f+1,p,k,hp=>kAll_bind (R:=fun _=>True) (fun l _=>bin_all f _ (k+1) (hp.perm hn (bubble_perm _ _ _))) _ (place_all hn hp _ _ _)
theorem sort_all:kAll n (fun r=>Low n r) (kas_sort n):=by
 refine kAll_bind (R:=fun r=>Low n r.2) (fun r hr=> ?_) _ (count_all hn (fun i=>by
  by_cases hi:i<n
  ·simp [Array.getD,hi]
  ·simp [Array.getD,hi];exact hn))
 split
 ·exact bin_all hn _ _ _ hr
 ·exact hr
end
noncomputable def lexLt:List Int->List Int->Bool
 | [],[]=>false
 | [],_::_=>true
 | _::_,[]=>false
 | a::r,b::t=>decide (a<b)|| (a==b&&lexLt r t)
theorem lexLt_irrefl:∀a,lexLt a a=false
 | []=>rfl
 | a::r=>by simp [lexLt,lexLt_irrefl r]
theorem lexLt_trans:∀{a b c:List Int},lexLt a b=true->lexLt b c=true->lexLt a c=true
 | [],[],_,h,_=>by simp [lexLt] at h
 | [],_::_,[],_,h=>by simp [lexLt] at h
 | [],_::_,_::_,_,_=>rfl
 | _::_,[],_,h,_=>by simp [lexLt] at h
 | _::_,_::_,[],_,h=>by simp [lexLt] at h
 | a::r,b::t,c::u,h1,h2=>by
  simp only [lexLt,Bool.or_eq_true,decide_eq_true_eq,Bool.and_eq_true,beq_iff_eq] at h1 h2⊢
  rcases h1 with h1| ⟨rfl,h1⟩
  ·rcases h2 with h2| ⟨rfl,h2⟩
   ·exact .inl (z936 h1 h2)
   ·exact .inl h1
  ·rcases h2 with h2| ⟨rfl,h2⟩
   ·exact .inl h2
   ·exact .inr ⟨rfl,lexLt_trans h1 h2⟩
theorem lexLt_total:∀{a b:List Int},lexLt a b=false->lexLt b a=false->a=b
 | [],[],_,_=>rfl
 | [],_::_,h,_=>by simp [lexLt] at h
 | _::_,[],_,h=>by simp [lexLt] at h
 | a::r,b::t,h1,h2=>by
  simp only [lexLt,Bool.or_eq_false_iff,decide_eq_false_iff_not,Bool.and_eq_false_iff] at h1 h2
  obtain rfl:a=b:=z937 h1.1 h2.1
  exact congrArg _ (lexLt_total (h1.2.resolve_left (by simp)) (h2.2.resolve_left (by simp)) ..)
theorem lexLt_first:∀{xs ys:List Int} {j:Nat} {a b:Int},(∀i,i<j->xs[i]? =ys[i]?)->xs[j]? =some a->ys[j]? =some b->a≠b->lexLt xs ys=decide (a<b)
 | [],_,j,a,b,_,h,_,_=>by contradiction
 | _::_,[],j,a,b,_,_,h,_=>by contradiction
 | x::xs,y::ys,0,a,b,_,hx,hy,hne=>by
  simp only [List.getElem?_cons_zero,Option.some.injEq] at hx hy
  subst hx;subst hy
  simp [lexLt,hne]
 | x::xs,y::ys,j+1,a,b,h,hx,hy,hne=>by
  have e:x=y:=by simpa using h 0 z446
  subst e
  simp [lexLt,(lexLt_first (xs:=xs) (ys:=ys) (j:=j) (fun i hi=>by simpa using h (i+1) (z938 hi)) (by simpa using hx) (by simpa using hy) hne)]
theorem lexLt_all:∀{xs ys:List Int},(∀i,i<min xs.length ys.length->xs[i]? =ys[i]?)->lexLt xs ys=decide (xs.length<ys.length)
 | [],[],_=>rfl
 | [],_::_,_=>by rfl
 | _::_,[],_=>by rfl
 | x::xs,y::ys,h=>by
  have e:x=y:=by simpa using h 0 (by simp)
  subst e
  simp [lexLt,(lexLt_all (xs:=xs) (ys:=ys) fun i hi=>by simpa using h (i+1) (by simp;exact hi))]
noncomputable def keyLt (a b:List Int):Bool:=decide (a.sum<b.sum)|| (a.sum==b.sum&&lexLt a b)
theorem keyLt_irrefl (a:List Int):keyLt a a=false:=by simp [keyLt,lexLt_irrefl]
theorem keyLt_trans {a b c:List Int}(h1:keyLt a b=true)(h2:keyLt b c=true):keyLt a c=true:=by
 simp only [keyLt,Bool.or_eq_true,decide_eq_true_eq,Bool.and_eq_true,beq_iff_eq] at h1 h2⊢
 rcases h1 with h1| ⟨e1,h1⟩
 ·rcases h2 with h2| ⟨e2,h2⟩<;>exact .inl (by lia)
 ·rcases h2 with h2| ⟨e2,h2⟩
  ·exact .inl (z940 h2 e1)
  ·exact .inr ⟨z941 e1 e2,lexLt_trans h1 h2⟩
theorem keyLt_total {a b:List Int}(h1:keyLt a b=false)(h2:keyLt b a=false):a=b:=by
 simp only [keyLt,Bool.or_eq_false_iff,decide_eq_false_iff_not,Bool.and_eq_false_iff] at h1 h2
 have e:=z937 h1.1 h2.1
 exact lexLt_total (h1.2.resolve_left (by simp [e])) (h2.2.resolve_left (by simp [e]))
noncomputable def keyLe (a b:List Int):Prop:=keyLt b a=false
theorem countP_lt {α:Type}{p q:α->Bool}:∀{l:List α} {x:α},x∈l->q x=true->p x=false->(∀y∈l,p y=true->q y=true)->l.countP p<l.countP q
 | [],x,hx,_,_,_=>by cases hx
 | a::r,x,hx,hq,hp,h=>by
  rcases List.mem_cons.mp hx with rfl| hx
  ·simp [hq,hp];exact z942 (List.countP_mono_left fun y hy e=>h y (.tail _ hy) e)
  ·have:=countP_lt hx hq hp fun y hy=>h y (.tail _ hy)
   have h0:=h a (.head _)
   cases hpa:p a<;>cases hqa:q a<;>simp [hpa,hqa] at h0⊢<;>lia
noncomputable def rank (rows:List (List Int))(i:Nat):Int:=(rows.countP fun r=>keyLt r (rows.getD i []):Nat)
theorem rank_lt {rows:List (List Int)}{i j:Nat}(hi:i<rows.length)(hj:j<rows.length):decide (rank rows i<rank rows j)=keyLt (rows.getD i []) (rows.getD j []):=by
 cases h:keyLt (rows.getD i []) (rows.getD j []) with
 | true=>
  have:rank rows i<rank rows j:=by
   have:=countP_lt (p:=fun r=>keyLt r (rows.getD i [])) (q:=fun r=>keyLt r (rows.getD j [])) (by rw [List.getD_eq_getElem?_getD,List.getElem?_eq_getElem hi];exact List.getElem_mem hi) h (keyLt_irrefl _) fun y _ e=>keyLt_trans e h
   exact z943 this
  simp [this]
 | false=>
  have:rank rows j<=rank rows i:=by
   have:rows.countP (fun r=>keyLt r (rows.getD j []))<=rows.countP (fun r=>keyLt r (rows.getD i [])):=List.countP_mono_left fun y _ e=>by
    cases h2:keyLt (rows.getD j []) (rows.getD i []) with
    | true=>exact keyLt_trans e h2
    | false=>rw [keyLt_total h h2];exact e
   exact z944 this
  simp;exact this
end Mine
namespace Mine
open PySem PySem.Calls PyProof.Rows PySem.W PySem.SeqAt
noncomputable abbrev row (is:List Int):D:=.tup (is.map .int)
noncomputable abbrev keyD (is:List Int):D:=.tup [.int is.sum,row is]
theorem Vs.int {K:List Addr}{h:Heap}{is:List Int}{vs:List Value}(x:Vs K h (is.map .int) vs){j:Nat}{v:Value}(e:vs[j]? =some v):∃i t,is[j]? =some i/\v=.int i t:=by
 obtain ⟨d,e1,e2⟩:=x.get e
 replace e1:=(List.getElem?_map ..).symm.trans e1
 obtain ⟨i,hi,rfl⟩:=Option.map_eq_some_iff.mp e1
 obtain ⟨t,rfl⟩:=e2.toInt
 exact ⟨i,t,hi,rfl⟩
theorem EqAt.ints {A:Around}{s:Shared}{i j:Int}{t u:Tok}(hu:A.units+5<cLine):EqAt A s (.int i t) (.int j u) (i==j):=
 eqAt_reads (.int i) (.int j) A s _ _ [] [] (.int i t) (.int j u) rfl rfl (by exact z606 hu)
theorem toArr {vs:List Value}{j:Nat}(h:j<vs.toArray.size):vs[j]? =some (vs.toArray[j]):=by
 simp
theorem OpAt.rowLt {A:Around}{s:Shared}{K:List Addr}{xs ys:List Int}{v u:Value}(hu:A.units+8<cLine)(x:V K s.heap (row xs) v)(y:V K s.heap (row ys) u):OpAt A s .Lt v u (.bool (lexLt xs ys)):=by
 obtain ⟨a,vs,n,rfl,_,g,r⟩:=x
 obtain ⟨b,us,k,rfl,_,g',r'⟩:=y
 have l1:vs.length=xs.length:=by simpa using r.length
 have l2:us.length=ys.length:=by simpa using r'.length
 refine OpAt.tuple_lt (e:=fun j=>xs[j]? ==ys[j]?) g g' (z606 hu) (fun j h1 h2=> ?_) (fun j h1 h2 hne hall=> ?_) fun hall=> ?_
 ·obtain ⟨i,t,e1,e2⟩:=r.int (toArr h1)
  obtain ⟨i',t',e1',e2'⟩:=r'.int (toArr h2)
  simp only [e2,e2',e1,e1']
  have e:(some i==some i')=(i==i'):=rfl
  exact EqAt.ints (by exact z945 hu)
 ·obtain ⟨i,t,e1,e2⟩:=r.int (toArr h1)
  obtain ⟨i',t',e1',e2'⟩:=r'.int (toArr h2)
  simp only [e2,e2']
  exact (lexLt_first (fun i hi=>by simpa using hall i hi) e1 e1' (fun e=>by simp [e1,e1',e] at hne))▸fun prog w E Q h=>PyProof.Rows.lt_int h
 ·rw [lexLt_all fun i hi=>by simpa using hall i (by simpa [l1,l2] using hi)]
  simp [Builtin.Tuple.tupleCompareSizes,l1,l2]
theorem V.key {K:List Addr}{h:Heap}{xs:List Int}{v:Value}(x:V K h (keyD xs) v):∃a n t w,v=.ref a/\h.get? a=some (tupObj [.int xs.sum t,w] n)/\V K h (row xs) w:=by
 obtain ⟨a,vs,n,rfl,_,g,r⟩:=x
 obtain ⟨v1,r1,rfl,x1,r⟩:=r
 obtain ⟨v2,r2,rfl,x2,r⟩:=r
 subst r
 obtain ⟨t,rfl⟩:=x1.toInt
 exact ⟨a,n,t,v2,rfl,g,x2⟩
theorem EqAt.rows {A:Around}{s:Shared}{K:List Addr}{xs ys:List Int}{v u:Value}(hu:A.units+8<cLine)(x:V K s.heap (row xs) v)(y:V K s.heap (row ys) u):EqAt A s v u (decide (xs=ys)):=by
 have p1:Py 2 (row xs) (.tuple (xs.map PyData.int)):=.tup (.map fun _ _=>.int)
 have p2:Py 2 (row ys) (.tuple (ys.map PyData.int)):=.tup (.map fun _ _=>.int)
 obtain ⟨as,ra⟩:=V.reads _ _ _ x p1.py
 obtain ⟨bs,rb⟩:=V.reads _ _ _ y p2.py
 exact ((ked_eqvAll xs ys)▸(eqAt_reads _ _ A s _ _ as bs ra rb p1.can p2.can (by exact z946 hu (p1.dep))))
theorem keyLt_asked {prog:Program}{w:World}{A:Around}{E:Value->Shared->Prop}{s:Shared}{K:List Addr}{xs ys:List Int}{v u:Value}{Q:Bool->Shared->Prop}(hu:A.units+12<cLine)(x:V K s.heap (keyD xs) v)(y:V K s.heap (keyD ys) u)(h:Q (keyLt xs ys) s):
  wpAny (model prog w) A (keyLt' (tuples' true) v u) Q E s:=by
 obtain ⟨a,n,t,p,rfl,g,xp⟩:=x.key
 obtain ⟨b,k,t',q,rfl,g',xq⟩:=y.key
 refine kat_lt g rfl g' rfl ?_
 refine kat_cons (EqAt.ints (z950 hu) prog w _ _ ?_)
 by_cases e:xs.sum=ys.sum
 ·have e1:(xs.sum==ys.sum)=true:=by simpa using e
  rw [e1]
  refine kat_yes (kat_cons (EqAt.rows (z951 hu) xp xq prog w _ _ ?_))
  by_cases e2:xs=ys
  ·subst e2
   simp only
   refine kat_yes (kat_nil ?_)
   rw [keyLt_irrefl] at h
   trivial
  ·simp only [decide_eq_false e2]
   refine kat_no (kat_one _ _ (OpAt.rowLt (z951 hu) xp xq prog w _ _ ?_))
   have e3:keyLt xs ys=lexLt xs ys:=by simp [keyLt,e]
   rw [e3] at h
   exact h
 ·have e1:(xs.sum==ys.sum)=false:=by simpa using e
  rw [e1]
  refine kat_no ?_
  refine oneLt_int ?_
  rw [(by simp [keyLt,e]:keyLt xs ys=decide (xs.sum<ys.sum))] at h
  exact h
end Mine
set_option maxHeartbeats 1000000
namespace Mine
open PySem PySem.Calls PyProof.Rows PySem.W PySem.SeqAt
theorem Ok.around {c:Cx}{A B:Around}{fr:List Addr}{σ:Sto}{h:Heap}(ok:Ok c A fr σ h)(e:B.frames=A.frames):Ok c B fr σ h:=⟨ok.base,ok.sto,ok.nd,ok.new,ok.live,by exact e▸ok.stack⟩
theorem Vs.at {K:List Addr}{h:Heap}{rows:List (List Int)}{F:List Int->D}{vs:List Value}(x:Vs K h (rows.map F) vs){i:Nat}(hi:i<rows.length):V K h (F (rows.getD i [])) (vs.getD i .none):=by
 obtain ⟨v,e,hV⟩:=x.got (i:=i) (d:=F (rows.getD i [])) (by simp [List.getElem?_eq_getElem hi])
 exact (by simp [e]:vs.getD i .none=v)▸hV
theorem Vs.picked {K:List Addr}{h:Heap}{rows:List (List Int)}{F:List Int->D}{vs:List Value}(x:Vs K h (rows.map F) vs):∀l:List Nat,(∀i∈l,i<rows.length)->Vs K h ((l.map fun i=>rows.getD i []).map F) (l.map fun i=>vs.getD i .none)
 | [],_=>Vs.nil
 | i::r,hl=>by
  exact Vs.cons (x.at (hl i (.head _))) (x.picked r fun j hj=>hl j (.tail _ hj))
theorem range_getD (rows:List (List Int)):(List.range rows.length).map (fun i=>rows.getD i [])=rows:=by
 refine List.ext_getElem (by simp) fun i h1 h2=> ?_
 simp [h2]
theorem KatTups.of {K:List Addr}{h:Heap}:∀{rows:List (List Int)} {ks:List Value},Vs K h (rows.map keyD) ks->∃fs,KatTups h ks fs/\fs.length=rows.length/\∀v∈fs,∃i t,v=.int i t
 | [],ks,x=>by
  simp only [List.map_nil] at x
  subst x
  exact ⟨[],trivial,rfl,fun v hv=>by contradiction⟩
 | r::rs,ks,x=>by
  obtain ⟨v,us,rfl,x1,x2⟩:=x
  obtain ⟨fs,h1,h2,h3⟩:=KatTups.of x2
  obtain ⟨a,n,t,w,rfl,g,_⟩:=x1.key
  refine ⟨.int r.sum t::fs,PySem.W.KatTups.cons g rfl rfl rfl h1,by simp [h2],fun v hv=> ?_⟩
  rcases List.mem_cons.mp hv with rfl| hv
  ·exact ⟨_,_,rfl⟩
  ·exact h3 v hv
section
variable {c:Cx} {A:Around} {fr:List Addr} {σ:Sto} {X:Addr->Sto->Prop} {Q:D->Sto->Prop}
theorem pw_small:∀{l:List (List Int)},l.length<2->l.Pairwise keyLe
 | [],_=>.nil
 | [_],_=>List.pairwise_singleton _ _
theorem sort_end {rows:List (List Int)}{ks vs:List Value}{K:List Addr}{a kS:Addr}{e1:Nat}{s:Shared}{P:PySem.Fin->Shared->Prop}{E:Value->Shared->Prop}(hu:A.units+12<cLine)(h64:rows.length<64)(hk:Vs K s.heap (rows.map keyD) ks)(hv:vs.length=rows.length)
  (h:∀st:SortSt,failedOf st=none->(∃l:List Nat,(∀i∈l,i<rows.length)/\l.length=rows.length/\(arrOf st).map (·.2)=(l.map fun i=>vs.getD i .none).toArray/\(l.map fun i=>rows.getD i []).Perm rows/\(l.map fun i=>rows.getD i []).Pairwise keyLe)->wpAny (model c.prog c.w) A (ksk_tail a false e1 (.ref kS) st) P E s):
  wpAny (model c.prog c.w) A (ksk_end a false vs.toArray e1 (.ref kS) ks.toArray) P E s:=by
 have hl:ks.length=vs.length:=by have:=hk.length;simp at this;exact z954 hv this
 unfold ksk_end
 simp only [Bool.false_eq_true,if_false]
 by_cases h2:vs.toArray.size<2
 ·rw [if_pos h2,if_pos h2]
  refine wpAny_bind (wpAny_pure ?_)
  refine wpAny_bind (Q:=_) (m:=(pure ():StateT SortSt Sem Unit).run _) ?_
  refine wpAny_pure ?_
  have h2':rows.length<2:=by simpa [hv] using h2
  refine h _ rfl ⟨List.range rows.length,fun i hi=>List.mem_range.mp hi,by simp,?_,by rw [range_getD],?_⟩
  ·apply Array.toList_inj.mp
   rw [Array.toList_map,ksk_zip]
   refine List.ext_getElem (by simp [hl,hv]) fun i i1 i2=> ?_
   simp [(by simp [hl] at i1;exact i1)]
  ·rw [range_getD]
   exact pw_small h2'
 ·rw [if_neg h2,if_neg h2]
  have h2':2<=rows.length:=by simp [hv] at h2;exact h2
  obtain ⟨fs,t1,t2,t3⟩:=KatTups.of hk
  refine wpAny_bind (kat_kind (T:=.type "int") t1 (z955 h2' t2) (fun v hv'=>by obtain ⟨i,t,rfl⟩:=t3 v hv';exact Looks.of_pure rfl) rfl ?_)
  refine wpAny_bind (wpAny_mono (kat_run (Q:=fun st' s'=>s'=s/\∃p:Array Nat,p.Perm (List.range rows.length).toArray/\Up (rank rows) p rows.length/\arrOf st'=p.map (kas_item (ks.toArray.zip vs.toArray))/\failedOf st'=none)
   (G:=fun p s'=>s'=s/\p.Perm (List.range rows.length).toArray/\Up (rank rows) p rows.length) hl (z878 hv h2') (z807 h64 hv) (fun p st' s' a1 a2 a3 a4=>⟨a4.1,p,a4.2.1,a4.2.2,a2,a3⟩) ?_) ?_ fun _ _ x=>x)
  ·rw [hv]
   obtain ⟨b1,b2⟩:=sort_spec (rk:=rank rows) h2'
   refine kasWp_all (lt:=ltR (rank rows)) (R:=fun r=>Low rows.length r) (fun i j C hi hj hC=> ?_) _ (sort_all (z956 h2')) ⟨rfl,b1,b2⟩
   refine keyLt_asked hu (hk.at hi) (hk.at hj) ?_
   rw [<-rank_lt hi hj]
   exact hC
  ·rintro ⟨⟨⟩,st'⟩ s' ⟨rfl,p,a1,a2,a3,a4⟩
   have hlow:∀i∈p.toList,i<rows.length:=fun i hi=>by
    have:=(Array.perm_iff_toList_perm.mp a1).mem_iff.mp hi
    simpa using this
   have hlen:p.toList.length=rows.length:=by
    have:=(Array.perm_iff_toList_perm.mp a1).length_eq
    simpa using this
   refine h st' a4 ⟨p.toList,hlow,hlen,kat_snds hl a3,?_,?_⟩
   ·have:=(Array.perm_iff_toList_perm.mp a1).map fun i=>rows.getD i []
    rw [range_getD] at this
    exact this
   ·rw [List.pairwise_iff_getElem]
    intro i j hi hj hij
    simp only [List.length_map] at hi hj
    have:=a2 i j (z24 hij) (z39 hj hlen)
    unfold kk at this
    have ei:p.getD i 0=p.toList[i]:=by
     have:i<p.size:=by simpa using hi
     simp [Array.getD,this]
    have ej:p.getD j 0=p.toList[j]:=by
     have:j<p.size:=by simpa using hj
     simp [Array.getD,this]
    simp only [ei,ej] at this
    simp only [List.getElem_map]
    unfold keyLe
    rw [<-rank_lt (hlow _ (List.getElem_mem hj)) (hlow _ (List.getElem_mem hi))]
    simpa using this
theorem Vs.snocMap {K:List Addr}{h:Heap}{rows:List (List Int)}{F:List Int->D}{i:Nat}{r:List Int}{vs:List Value}{v:Value}(x:Vs K h ((rows.take i).map F) vs)(e:rows[i]? =some r)(y:V K h (F r) v):Vs K h ((rows.take (i+1)).map F) (vs++[v]):=by
 obtain ⟨hi,rfl⟩:=List.getElem?_eq_some_iff.mp e
 rw [List.take_succ_eq_append_getElem hi,List.map_append]
 exact x.append (Vs.cons y Vs.nil)
theorem call_sortedK {sd:SD}{rows:List (List Int)}{f:Addr}{P:Around->Prop}{s:Shared}{v:Value}(hL:sd.isL=true)(hd:sd.ds=rows.map row)(inv:sd.inv σ)(h64:rows.length<64)(hu:A.units+20<cLine)(hP:P A.in1.in1)
  (hf:∀r∈rows,WC c P (.ref f) [row r] σ (fun d σ'=>σ'=σ/\d=keyD r) NoX) (ok:Ok c A fr σ s.heap) (hv:V (keys σ++fr) s.heap sd.d v)
  (h:∀out:List (List Int),out.Perm rows->out.Pairwise keyLe->QL Q (out.map row) σ):W c A none fr σ (call (.builtin "sorted") [v] [(Str.ofString "key",.ref f)]) V Q X s:=by
 obtain ⟨l,rfl,z⟩:=SD.of_v hv
 obtain ⟨vs,n,g,r⟩:=z.list ok inv hL
 simp only [hd] at r
 have hlen:vs.length=rows.length:=by simpa using r.length
 refine call_function_entry_kw kind_sorted plain_sorted entry_sorted (ksk_s1 _ _) ?_
 refine wpAny_bind (m:=checkCount "sorted" 1 1 _) (wpAny_pure ?_)
 refine wpAny_bind (collect_list ⟨_,g,rfl,n,rfl⟩ ?_ (by rw [sizeLine_eq];exact z957 h64 hlen))
 refine wpAny_bind (wpAny_newList ?_ (by rw [sizeLine_eq];exact z957 h64 hlen))
 have hsz:((s.heap.push (seqObj "list" #[] 0)).update s.heap.objs.size (Obj.mapSeq (· ++vs.toArray))).objs.size=s.heap.objs.size+1:=by
  exact (Heap.size_update ..).trans (size_push' ..)
 have hoL:(((s.heap.push (seqObj "list" #[] 0)).update s.heap.objs.size (Obj.mapSeq (· ++vs.toArray))).push (seqObj "list" vs.toArray 0)).get? (s.heap.objs.size+1)=some (seqObj "list" vs.toArray 0):=by
  exact (congrArg _ (hsz ..).symm).trans (Heap.get?_push_size _ rfl)
 have keep:∀b o,s.heap.get? b=some o->(((s.heap.push (seqObj "list" #[] 0)).update s.heap.objs.size (Obj.mapSeq (· ++vs.toArray))).push (seqObj "list" vs.toArray 0)).get? b=some o:=fun b o q=>by
  have hlt:=Heap.lt_size q
  rw [Heap.get?_push_ne _ _ _ (by rw [hsz];exact Nat.ne_of_lt (Nat.lt_succ_of_lt hlt)),Heap.get?_update_ne _ _ _ _ (Nat.ne_of_lt hlt),Heap.get?_push_ne _ _ _ (Nat.ne_of_lt hlt)]
  exact q
 have hsz2:(((s.heap.push (seqObj "list" #[] 0)).update s.heap.objs.size (Obj.mapSeq (· ++vs.toArray))).push (seqObj "list" vs.toArray 0)).objs.size=s.heap.objs.size+2:=by rw [size_push',hsz]
 show wpAny _ _ _ _ _ {s with heap:=((s.heap.push (seqObj "list" #[] 0)).update s.heap.objs.size (Obj.mapSeq (· ++vs.toArray))).push (seqObj "list" vs.toArray 0)}
 rw [hsz]
 revert hoL keep hsz2
 generalize ((s.heap.push (seqObj "list" #[] 0)).update s.heap.objs.size (Obj.mapSeq (· ++vs.toArray))).push (seqObj "list" vs.toArray 0)=H1
 intro hoL keep hsz2
 refine wpAny_bind (wpAny_holding (wpAny_call_entry_kw slot_list_sort ⟨_,hoL,rfl⟩ entry_list_sort ?body (ksk_l1 _ _)))
 show wpAny (model c.prog c.w) A.in1.in1 (Builtin.«list.sort» ⟨[.ref (s.heap.objs.size+1)],[(Str.ofString "key",.ref f)]⟩) _ _ _
 rw [ksk_t1]
 have hnone:∀b,s.heap.objs.size<=b->s.heap.get? b=none:=fun b hb=>none_of_ge hb
 unfold ksk_tree
 refine wpAny_bind (listItems_at hoL rfl ?_)
 obtain ⟨e1,ho1⟩:∃e1,(H1.update (s.heap.objs.size+1) (Obj.mapSeq fun _=>(#[]:Array Value))).get? (s.heap.objs.size+1)=some (seqObj "list" #[] e1):=⟨_,get?_update_seq hoL fun _=> #[]⟩
 refine wpAny_bind (listUpdate_at hoL rfl ?_ (by rw [List.size_toArray,sizeLine_eq];exact z957 h64 hlen) (Nat.zero_le _))
 refine wpAny_bind (seqEpoch_at ho1 rfl ?_)
 refine wpAny_bind (wpAny_newTuple ?_ (by show vs.length<=_;rw [sizeLine_eq];exact z957 h64 hlen))
 refine wpAny_bind (wpAny_newList ?_ (Nat.zero_le _))
 refine wpAny_holding ?_
 have hszk:((H1.update (s.heap.objs.size+1) (Obj.mapSeq fun _=>(#[]:Array Value))).push (seqObj "tuple" vs.toArray 0)).objs.size=s.heap.objs.size+3:=by rw [size_push',Heap.size_update,hsz2]
 show wpAny (model c.prog c.w) A.in1.in1 (ksk_rest (s.heap.objs.size+1) (.ref f) false vs.toArray e1 (.ref ((H1.update (s.heap.objs.size+1) (Obj.mapSeq fun _=>(#[]:Array Value))).push (seqObj "tuple" vs.toArray 0)).objs.size)) _ _ {s with heap:=((H1.update (s.heap.objs.size+1) (Obj.mapSeq fun _=>(#[]:Array Value))).push (seqObj "tuple" vs.toArray 0)).push (seqObj "list" #[] 0)}
 have gk:(((H1.update (s.heap.objs.size+1) (Obj.mapSeq fun _=>(#[]:Array Value))).push (seqObj "tuple" vs.toArray 0)).push (seqObj "list" #[] 0)).get? (s.heap.objs.size+3)=some (lstObj [] 0):=by rw [<-hszk];exact Heap.get?_push_size _ rfl
 have ga:(((H1.update (s.heap.objs.size+1) (Obj.mapSeq fun _=>(#[]:Array Value))).push (seqObj "tuple" vs.toArray 0)).push (seqObj "list" #[] 0)).get? (s.heap.objs.size+1)=some (lstObj [] e1):=Heap.get?_push_of_some _ (Heap.get?_push_of_some _ ho1)
 have keep4:∀b o,s.heap.get? b=some o->(((H1.update (s.heap.objs.size+1) (Obj.mapSeq fun _=>(#[]:Array Value))).push (seqObj "tuple" vs.toArray 0)).push (seqObj "list" #[] 0)).get? b=some o:=fun b o q=>by
  have hlt:b<s.heap.objs.size:=Heap.lt_size q
  refine Heap.get?_push_of_some _ (Heap.get?_push_of_some _ ?_)
  rw [Heap.get?_update_ne _ _ _ _ (Nat.ne_of_lt (Nat.lt_succ_of_lt hlt))]
  exact keep b o q
 rw [hszk]
 revert gk ga keep4
 generalize ((H1.update (s.heap.objs.size+1) (Obj.mapSeq fun _=>(#[]:Array Value))).push (seqObj "tuple" vs.toArray 0)).push (seqObj "list" #[] 0)=H4
 intro gk ga keep4
 have hn:∀b∈[s.heap.objs.size+1,s.heap.objs.size+3],s.heap.get? b=none:=fun b hb=>by
  simp only [List.mem_cons,List.not_mem_nil,or_false] at hb
  rcases hb with rfl| rfl
  ·exact hnone _ (Nat.le_add_right _ _)
  ·exact hnone _ (Nat.le_add_right _ _)
 have hne13:s.heap.objs.size+1≠s.heap.objs.size+3:=fun e=>by
  have:=Nat.add_left_cancel e
  cases this
 have ok4:Ok c A.in1.in1 ([s.heap.objs.size+1,s.heap.objs.size+3]++fr) σ H4:=(ok.more keep4 hn (fun b hb=>by
  simp only [List.mem_cons,List.not_mem_nil,or_false] at hb
  rcases hb with rfl| rfl
  ·exact ⟨_,ga⟩
  ·exact ⟨_,gk⟩) (by simp only [List.nodup_cons,List.mem_singleton,List.not_mem_nil,not_false_eq_true,List.nodup_nil,and_true];exact hne13)).around rfl
 have p4:Post [] fr σ s {s with heap:=H4,toks:=s.toks} σ:=Post.keeps keep4
 have r4:Vs (keys σ++([s.heap.objs.size+1,s.heap.objs.size+3]++fr)) H4 (rows.map row) vs:=Vs.move (K:=keys σ++fr) (fun b o _ e=>keep4 b o e) (less_add hn) _ _ r
 unfold ksk_rest
 refine wpAny_bind (wpAny_rule ?_)
 rw [List.forIn_toArray]
 generalize hA:s.heap.objs.size+1=a at*
 generalize hK:s.heap.objs.size+3=kS at*
 have hin:=ok.frames_in
 have mem_a:a∈[a,kS]++fr:=by simp
 have mem_k:kS∈[a,kS]++fr:=by simp
 let J:Nat->Shared->Prop:=fun i s'=>Post [a,kS] ([a,kS]++fr) σ {s with heap:=H4,toks:=s.toks} s' σ/\Ok c A.in1.in1 ([a,kS]++fr) σ s'.heap/\s'.heap.get? a=some (lstObj [] e1)/\
  (∃ks e,s'.heap.get? kS=some (lstObj ks e)/\Vs (keys σ++([a,kS]++fr)) s'.heap ((rows.take i).map keyD) ks)/\Vs (keys σ++([a,kS]++fr)) s'.heap (rows.map row) vs
 refine wpAny_bind (ksk_fold J vs 0 _ ⟨Post.refl ..,ok4,ga,⟨[],0,gk,Vs.nil⟩,r4⟩ (fun j x s' hx hJ=> ?_) fun s' hJ=> ?_)
 ·obtain ⟨q1,okj,gaj,⟨ks,e,gkj,hks⟩,hvs⟩:=hJ
  rw [Nat.zero_add] at hks⊢
  obtain ⟨d,hd1,hx1⟩:=hvs.get hx
  rw [List.getElem?_map] at hd1
  obtain ⟨rw_,hr1,rfl⟩:=Option.map_eq_some_iff.mp hd1
  have hksl:ks.length<=63:=by have:=hks.length;simp at this;exact z958 h64 this
  refine wpAny_bind (wpAny_attempt ?_)
  refine wpAny_mono (hf rw_ (List.mem_of_getElem? hr1) A.in1.in1 ([a,kS]++fr) s' [x] hP okj (Vs.cons hx1 Vs.nil)) (fun k s'' hz=> ?_) fun _ _ x=>(Ex.no x).elim
  obtain ⟨dk,σ',pk,okk,xk,e2,e3⟩:=hz
  have e2':=e2.symm
  subst e2';subst e3
  obtain ⟨sl,gk2,hs2⟩:=pk.slots kS _ mem_k (by simp) gkj
  have gk3:s''.heap.get? kS=some (lstObj ks e):=by rw [hs2 (by intro es n z;cases z)] at gk2;exact gk2
  obtain ⟨sl',ga2,hs2'⟩:=pk.slots a _ mem_a (by simp) gaj
  have ga3:s''.heap.get? a=some (lstObj [] e1):=by rw [hs2' (by intro es n z;cases z)] at ga2;exact ga2
  dsimp only
  refine wpAny_bind (listUpdate_at gk3 rfl ?_ (by rw [List.size_toArray,sizeLine_eq];exact z959 hksl) (Nat.le_trans (Nat.le_of_eq (Array.size_push ..)) (by rw [List.size_toArray,sizeLine_eq];exact z960 hksl)))
  refine wpAny_pure ⟨rfl,?_⟩
  have ea:ks.toArray.push k=(ks++[k]).toArray:=by simp
  obtain ⟨c2,hc2⟩:∃c2,(s''.heap.update kS (Obj.mapSeq (·.push k))).get? kS=some (lstObj (ks++[k]) c2):=⟨_,by have:=get?_update_seq gk3 (·.push k);rw [ea] at this;exact this⟩
  have kp:∀b o,b≠kS->s''.heap.get? b=some o->(s''.heap.update kS (Obj.mapSeq (·.push k))).get? b=some o:=fun b o hb q=>by rw [Heap.get?_update_ne _ _ _ _ hb];exact q
  have ow:Ow [a,kS] s''.heap (s''.heap.update kS (Obj.mapSeq (·.push k))):=⟨fun b o hb q=>kp b o (fun e=>hb (by rw [e];simp)) q,fun b hb=>by
   simp only [List.mem_cons,List.not_mem_nil,or_false] at hb
   rcases hb with rfl| rfl
   ·exact ⟨_,kp _ _ hne13 ga3⟩
   ·exact ⟨_,hc2⟩⟩
  have pw:Post [a,kS] ([a,kS]++fr) σ s'' {s'' with heap:=s''.heap.update kS (Obj.mapSeq (·.push k)),toks:=s''.toks} σ:=Post.ow (F:=[]) (tk:=s''.toks) ow
  have stw:Stay (keys σ++([a,kS]++fr)) s''.heap (s''.heap.update kS (Obj.mapSeq (·.push k))):=pw.stay
  refine ⟨(q1.trans (pk.wide (by simp))).trans pw,okk.ow (fun b hb o q es n=> ?_) ow,kp _ _ hne13 ga3,⟨_,c2,hc2,?_⟩,pw.vs (pk.vs hvs)⟩
  ·simp only [List.mem_cons,List.not_mem_nil,or_false] at hb
   rcases hb with rfl| rfl
   ·rw [ga3] at q;cases q;exact fun z=>by cases z
   ·rw [gk3] at q;cases q;exact fun z=>by cases z
  ·exact Vs.snocMap (pw.vs (pk.vs hks)) hr1 (pw.v xk)
 ·obtain ⟨q1,okj,gaj,⟨ks,e,gkj,hks⟩,hvs⟩:=hJ
  rw [Nat.zero_add,hlen,List.take_length] at hks
  have hksl:ks.length=rows.length:=by have:=hks.length;simpa using this
  refine wpAny_bind (listItems_at gkj rfl ?_)
  refine sort_end (by show A.units+1+1+12<cLine;exact z961 hu) h64 hks hlen fun st hst ⟨l,l1,l2,l3,l4,l5⟩=> ?_
  unfold ksk_tail
  dsimp only
  rw [l3]
  refine wpAny_bind (listUpdate_at gkj rfl ?_ (by rw [List.size_toArray,sizeLine_eq];exact z957 h64 hksl) (Nat.zero_le _))
  refine wpAny_bind (wpAny_letGo ?_)
  have kp:∀b o,b≠kS->s'.heap.get? b=some o->(s'.heap.update kS (Obj.mapSeq fun _=> #[])).get? b=some o:=fun b o hb q=>by rw [Heap.get?_update_ne _ _ _ _ hb];exact q
  obtain ⟨ck,hck⟩:∃ck,(s'.heap.update kS (Obj.mapSeq fun _=>(#[]:Array Value))).get? kS=some (lstObj [] ck):=⟨_,get?_update_seq gkj fun _=> #[]⟩
  have ga5:=kp _ _ hne13 gaj
  refine wpAny_bind (seqEpoch_at ga5 rfl ?_)
  refine wpAny_bind (listUpdate_at ga5 rfl ?_ (Nat.zero_le _) (Nat.le_trans (Nat.le_of_eq (by simp [l2])) (by rw [sizeLine_eq];exact z962 h64:rows.length<=sizeLine+1)))
  rw [hst]
  simp only [bne_self_eq_false,Bool.false_eq_true,if_false]
  refine wpAny_pure ⟨_,rfl,wpAny_pure ⟨_,rfl,?_⟩⟩
  obtain ⟨cz,hcz⟩:∃cz,((s'.heap.update kS (Obj.mapSeq fun _=>(#[]:Array Value))).update a (Obj.mapSeq fun _=>(l.map fun i=>vs.getD i Value.none).toArray)).get? a=some (lstObj (l.map fun i=>vs.getD i Value.none) cz):=⟨_,get?_update_seq ga5 fun _=>(l.map fun i=>vs.getD i Value.none).toArray⟩
  have kp2:∀b o,b∉[a,kS]->s'.heap.get? b=some o->((s'.heap.update kS (Obj.mapSeq fun _=>(#[]:Array Value))).update a (Obj.mapSeq fun _=>(l.map fun i=>vs.getD i Value.none).toArray)).get? b=some o:=fun b o hb q=>by
   simp only [List.mem_cons,List.not_mem_nil,or_false,not_or] at hb
   rw [Heap.get?_update_ne _ _ _ _ hb.1]
   exact kp b o hb.2 q
  have ow:Ow [a,kS] s'.heap ((s'.heap.update kS (Obj.mapSeq fun _=>(#[]:Array Value))).update a (Obj.mapSeq fun _=>(l.map fun i=>vs.getD i Value.none).toArray)):=⟨kp2,fun b hb=>by
   simp only [List.mem_cons,List.not_mem_nil,or_false] at hb
   rcases hb with rfl| rfl
   ·exact ⟨_,hcz⟩
   ·refine ⟨lstObj [] ck,?_⟩
    rw [Heap.get?_update_ne _ _ _ _ (fun e=>hne13 e.symm)];exact hck⟩
  have pw:Post [a,kS] ([a,kS]++fr) σ s' {s' with heap:=(s'.heap.update kS (Obj.mapSeq fun _=>(#[]:Array Value))).update a (Obj.mapSeq fun _=>(l.map fun i=>vs.getD i Value.none).toArray),toks:=s'.toks} σ:=Post.ow (F:=[]) (tk:=s'.toks) ow
  have okw:Ok c A ([a]++([kS]++fr)) σ ((s'.heap.update kS (Obj.mapSeq fun _=>(#[]:Array Value))).update a (Obj.mapSeq fun _=>(l.map fun i=>vs.getD i Value.none).toArray)):=(okj.ow (fun b hb o q es n=>by
   simp only [List.mem_cons,List.not_mem_nil,or_false] at hb
   rcases hb with rfl| rfl
   ·rw [gaj] at q;cases q;exact fun z=>by cases z
   ·rw [gkj] at q;cases q;exact fun z=>by cases z) ow).around rfl
  have pf:Post (Fo none) fr σ s {s' with heap:=(s'.heap.update kS (Obj.mapSeq fun _=>(#[]:Array Value))).update a (Obj.mapSeq fun _=>(l.map fun i=>vs.getD i Value.none).toArray),toks:=s'.toks} σ:=Post.drop (F:=[]) p4 hn (q1.trans pw)
  have hvz:Vs (keys σ++([a]++fr)) ((s'.heap.update kS (Obj.mapSeq fun _=>(#[]:Array Value))).update a (Obj.mapSeq fun _=>(l.map fun i=>vs.getD i Value.none).toArray)) ((l.map fun i=>rows.getD i []).map row) (l.map fun i=>vs.getD i Value.none):=by
   have:=(pw.vs hvs).picked l l1
   exact Vs.move (K:=keys σ++([a,kS]++fr)) (fun b o _ q=>q) (fun b hb=>.inl (by
    simp only [List.mem_append,List.mem_cons,List.not_mem_nil,or_false] at hb⊢
    rcases hb with hb| hb| hb
    ·exact .inl hb
    ·exact .inr (.inl (.inl hb))
    ·exact .inr (.inr hb))) _ _ this
  exact QL.use (G:=none) (h _ l4 l5) pf (Ok.less (ex:=[a]) okw hin) hin hcz hvz (hn a (by simp))
end
end Mine
set_option maxHeartbeats 1000000
namespace Mine
open PySem PySem.Calls PyProof.Rows PySem.W PySem.SeqAt
theorem Room.in2 {n:Nat}{A:Around}(r:Room (n+1) A):Room n A.in1.in1:=by
 obtain ⟨⟨h1,h2⟩,h3⟩:=r
 refine ⟨⟨?_,?_⟩,h3⟩
 ·exact z963 h1
 ·exact z964 h2
section
variable {c:Cx} {A:Around} {fr:List Addr} {σ:Sto} {X:Addr->Sto->Prop} {Q:D->Sto->Prop} {env:Env} {m:Vars} {B:List Stmt} {bs:List (Str × Value)}
inductive SrtQ (c:Cx)(k:Str)(n:Nat)(Q:D->Sto->Prop)(d:D)(σ1:Sto):Prop
 | mk (sd:SD) (rows:List (List Int)) (e:d=sd.d) (hL:sd.isL=true) (hds:sd.ds=rows.map row) (inv:sd.inv σ1) (h64:rows.length<64) (hf:∀r∈rows,WF c (Room (n+1)) k [row r] σ1 (fun d σ'=>σ'=σ1/\d=keyD r) NoX)
   (hq:∀out:List (List Int),out.Perm rows->out.Pairwise keyLe->QL Q (out.map row) σ1):SrtQ c k n Q d σ1
theorem WE.sorted (T:Tp c B bs){f x k:Str}{fp np kp kpos pos:Pos}{n:Nat}(r:Room (n+2) A)(hk:env.kindOf f=some .globalImplicit)(hb:bs.lookup f=some (.builtin "sorted"))(hk2:env.kindOf k=some .globalImplicit)(hdf:Dfn c k)
  (h:WE c A fr env m σ (.Name x np) (SrtQ c k n Q) X) (hdb:(f==("__debug__":Str))=false:=by decide) (hdb2:(k==("__debug__":Str))=false:=by decide):
  WE c A fr env m σ (.Call (.Name f fp) [.Name x np] [⟨some (Str.ofString "key"),.Name k kp,kpos⟩] pos) Q X:=fun s ok fm=>by
 obtain ⟨a,o,fd,g1,g2,g3⟩:=hdf
 refine wpAny_bind (Name_function_global fm.kind hk (loadGlobal_builtin (by rw [fm.glob];exact T.good.g.keeps ok.base) (T.bn _ _ hb).1 (by rw [fm.bui];exact T.good.b.keeps ok.base) (T.bn _ _ hb).2 ?_) hdb)
 refine callWith_kw ?_
 refine wpAny_mono ((WA.cons (h.mono (fun d σ1 q=>WA.nil ⟨d,rfl,q⟩) fun _ _ y=>y):WA c A fr env m σ [.Name x np] (fun ds σ1=>∃d,ds=[d]/\SrtQ c k n Q d σ1) X) pos s ok fm) (fun vs s1 hz=> ?_) fun _ _ y=>y
 obtain ⟨ds,σ1,p1,ok1,x1,d,e1,sd,rows,e2,hL,hds,inv,h64,hf,hq⟩:=hz
 subst e1;subst e2
 obtain ⟨v,us,rfl,xv,x2⟩:=x1
 subst x2
 show wpAny _ A (evalAll [do let v<-eval (.Name k kp) env;standAt pos;pure v]) _ _ s1
 refine evalAll_cons (wpAny_bind ?_)
 have fm1:=fm.move p1
 refine Name_function_global fm1.kind hk2 (loadGlobal_global (by rw [fm1.glob];exact T.good.g.keeps ok1.base) g1 ?_) hdb2
 refine wpAny_bind (wpAny_standAt (wpAny_pure (evalAll_nil ?_)))
 refine wpAny_mono (call_sortedK (P:=Room (n+1)) hL hds inv h64 (by exact z966 (r.1.2) (rfl)) r.in2 (fun r hr=>hf r hr a g1) ok1 xv hq) (fun _ _ z=>z.back p1) fun _ _ x=>Ex.back p1 x fun _ _ y=>y
end
theorem freeOk_of {env:Env}{scope sc:Scope}(h:env.scope=sc)(e:freeOk scope sc=true):freeOk scope env.scope=true:=by rw [h];exact e
theorem relab_of {cenv env:Env}{scope sc:Scope}(h:cenv.scope=relab scope env.scope)(e:env.scope=sc):cenv.scope=relab scope sc:=by rw [h,e]
section
variable {c:Cx} {A:Around} {fr:List Addr} {σ:Sto} {X:Addr->Sto->Prop} {Q:D->Sto->Prop} {env:Env} {m:Vars}
theorem WU.notB {b:Bool}(h:Q (.bool (!b)) σ):WU c A fr σ (unaryOp .Not) (.bool b) Q X:=fun v s ok x=>by
 subst x
 exact not_value (wpAny_truthy_bool ⟨_,σ,Post.refl ..,ok,V.ofBool,h⟩)
end
theorem mulOk_left {a b:Int}(h:a.natAbs<2^64):IntMulOk a b:=IntMulOk.of_left (intBits_le h)
theorem mulOk_right {a b:Int}(h:b.natAbs<2^64):IntMulOk a b:=IntMulOk.of_right (intBits_le h)
theorem eqv_all (xs:List Int):∀ys:List Int,PyData.eqvAll (xs.map .int) (ys.map .int)=decide (xs=ys):=by
 induction xs with
 | nil=>intro ys;cases ys<;>rfl
 | cons x xs ih=>
  intro ys
  cases ys with
  | nil=>rfl
  | cons y ys=>
   simp only [List.map_cons,PyData.eqvAll,ih ys,PyData.eqv]
   by_cases h1:x=y<;>by_cases h2:xs=ys<;>simp [h1]
theorem eqv_ints {xs ys:List Int}:PyData.eqv (.list (xs.map .int)) (.list (ys.map .int))=decide (xs=ys):=eqv_all xs ys
theorem Py.row {xs:List Int}{n:Nat}:Py (n+2) (row xs) (.tuple (xs.map .int)):=.tup (.map fun _ _=>.int)
theorem Py.ints {xs:List Int}{n:Nat}:Py (n+2) (.lst (xs.map .int)) (.list (xs.map .int)):=.lst (.map fun _ _=>.int)
theorem PyAll.rows {xs:List (List Int)}{n:Nat}:PyAll (n+2) (xs.map row) (xs.map fun r=>.tuple (r.map .int)):=.map fun _ _=>Py.row
section
variable {c:Cx} {A:Around} {fr:List Addr} {σ:Sto} {X:Addr->Sto->Prop} {Q:D->Sto->Prop} {env:Env} {m:Vars} {N:Vars->Sto->Prop} {R:D->Sto->Prop}
theorem kinds1 {x:Str}{d:D}(h:env.kindOf x=some .local\/env.kindOf x=some .cell):∀y∈[(x,d)],env.kindOf y.1=some .local\/env.kindOf y.1=some .cell:=fun y hy=>by
 rw [List.mem_singleton] at hy;subst hy;exact h
theorem kinds2 {x z:Str}{d e:D}(h:env.kindOf x=some .local\/env.kindOf x=some .cell)(h2:env.kindOf z=some .local\/env.kindOf z=some .cell):∀y∈[(x,d),(z,e)],env.kindOf y.1=some .local\/env.kindOf y.1=some .cell:=fun y hy=>by
 rcases List.mem_cons.mp hy with rfl| hy
 ·exact h
 ·exact kinds1 h2 y hy
theorem Loop.of {α:Type}{l:List α}{g:α->Vars}{Inv:Sto->Prop}{body:List Stmt}(L:Nat->Vars->Sto->Prop)(hk:∀i∈l,∀y∈g i,env.kindOf y.1=some .local\/env.kindOf y.1=some .cell)(h0:L 0 m σ)(hinv:∀k m' σ',L k m' σ'->Inv σ')
  (step:∀k i m' σ',l[k]? =some i->L k m' σ'->∀fr',WS c A fr' env (g i++m') σ' body (fun m'' σ''=>L (k+1) m'' σ'') R X) (fin:∀m' σ',L l.length m' σ'->N m' σ'):Loop c A env m body N R X (l.map g) Inv σ:=by
 refine ⟨fun x hx=> ?_,L,h0,hinv,fun k x m' σ' hx hL fr'=> ?_,fun m' σ' hL=>fin m' σ' (by rwa [List.length_map] at hL)⟩
 ·obtain ⟨i,hi,rfl⟩:=List.mem_map.mp hx
  exact hk i hi
 ·rw [List.getElem?_map] at hx
  obtain ⟨i,hi,rfl⟩:=Option.map_eq_some_iff.mp hx
  exact step k i m' σ' hi hL fr'
theorem W1.forL {tg iter:Expr}{body:List Stmt}{pos:Pos}{sc:Scope}(fe:Fe A env sc)(h:WIt c A fr env m σ iter tg (Loop c A env m body N R X) X)(hs:∀x,foldedSetIterable iter env x=pure x:=by intro _;rfl):W1 c A fr env m σ (.For tg iter body [] pos) N R X:=
 W1.for_ fe.stack fe.frame h hs
end
section
variable {c:Cx} {A:Around} {fr:List Addr} {σ:Sto} {X:Addr->Sto->Prop} {Q:D->Sto->Prop} {a b:Int}
theorem WB.modE (hb:0<b)(hs:b.natAbs<2^64)(h:Q (.int (a % b)) σ):WB c A fr σ (binaryOp .Mod) (.int a) (.int b) Q X:=
 WB.mod (z775 hb) hs (by exact (Int.fmod_eq_emod_of_nonneg a (z275 hb))▸h)
theorem WB.fdivE (hb:0<b)(hs:b.natAbs<2^64)(h:Q (.int (a/b)) σ):WB c A fr σ (binaryOp .FloorDiv) (.int a) (.int b) Q X:=
 WB.fdiv (z775 hb) hs (by exact (Int.fdiv_eq_ediv_of_nonneg a (z275 hb))▸h)
end
section
variable {c:Cx} {A:Around} {fr:List Addr} {σ:Sto} {X:Addr->Sto->Prop} {Q:D->Sto->Prop}
theorem WSb.at {value slice:Expr}{sd:SD}{i:Int}{k:Nat}{d:D}(e:i=(k:Int))(inv:sd.inv σ)(hk:sd.ds[k]? =some d)(hk2:k<2^60)(h:Q d σ)
  (hs:∀l u,subscripted slice false (.ref l) (.int i u)=operate [.ref l,.int i u] (getItem (.ref l) (.int i u)):=by intro _ _;with_unfolding_all rfl):WSb c A fr σ value slice sd.d (.int i) Q X:=by
 subst e
 refine WSb.item inv z967 (z968 hk2) z969 ?_ h hs
 have:¬((k:Int)<0):=z619
 exact hk
end
section
variable {c:Cx} {A:Around} {fr:List Addr} {σ:Sto} {X:Addr->Sto->Prop} {Q:D->Sto->Prop} {env:Env} {m:Vars} {N:Vars->Sto->Prop} {R:D->Sto->Prop}
theorem QO.mono {J N:Vars->Sto->Prop}{R:D->Sto->Prop}(k:∀m' σ',J m' σ'->N m' σ'){b:Out}{σ:Sto}(h:QO J R b σ):QO N R b σ:=by
 cases b with
 | next m=>exact k _ _ h
 | ret d=>exact h
theorem W1.join {st:Stmt}(J:Vars->Sto->Prop)(h:W1 c A fr env m σ st J R X)(k:∀m' σ',J m' σ'->N m' σ'):W1 c A fr env m σ st N R X:=fun s ok fm=>
 (h s ok fm).mono (fun b σ' q=>QO.mono k q) fun _ _ x=>x
theorem WPt.some {e:Expr}{Q:Option Int->Sto->Prop}(h:WE c A fr env m σ e (fun d σ1=>∃i,d=.int i/\Q (Option.some i) σ1) X):WPt c A fr env m σ (Option.some e) Q X:=h
theorem WPt.none {Q:Option Int->Sto->Prop}(h:Q Option.none σ):WPt c A fr env m σ Option.none Q X:=h
end
theorem Vs.ofWell {P:Params}{h:Heap}:∀{S:List Int} {vs:List Value},WellAll P h vs (S.map WData.int)->Vs [] h (S.map D.int) vs
 | [],vs,x=>by
  cases x
  exact Vs.nil
 | i::S,vs,x=>by
  cases x with
  | cons x1 x2=>
   cases x1
   exact Vs.cons V.ofInt (Vs.ofWell x2)
theorem V.ofWell {P:Params}{h:Heap}{S:List Int}{v:Value}(x:Well P h v (.list (S.map WData.int))):V [] h (.lst (S.map .int)) v:=by
 cases x with
 | list g x=>exact ⟨_,_,0,rfl,by simp,g,Vs.ofWell x⟩
theorem ofPys_ints:∀S:List Int,ofPys (S.map PyData.int)=S.map WData.int
 | []=>rfl
 | i::S=>by simp only [List.map_cons,ofPys,ofPy,ofPys_ints S]
noncomputable def bnOk (view:Program)(loose:List Str)(x:Str):Bool:=
 !startupNames.contains x&& !loose.contains x&& !((recsOf view).map (·.name)).contains x&& !((litsOf view).map (·.1)).contains x&& !((clssOf view loose).map (·.name)).contains x&&x !=("__name__":Str)
theorem Tp.ofTop {view:Program}{loose:List Str}{mean:ExcName->Option Value}{c:Cx}{B:List Stmt}{bs:List (Str × Value)}(T:Top view loose mean c.mg c.mb c.h0)(hp:recsOf view=B.filterMap recOf)(hb:(bs.all fun p=>bnOk view loose p.1)=true)(hv:bs.map (fun p=>bootBuiltins p.1)=bs.map fun p=>some p.2):Tp c B bs where
 good:=⟨T.g,T.b⟩
 nolimit:=T.nolimit
 fn:=fun d hd=>by exact T.fn d (hp▸hd)
 bn:=fun x v hx=>by
  have hm:(x,v)∈bs:=by
   clear hb hv
   induction bs with
   | nil=>contradiction
   | cons q r ih=>
    obtain ⟨y,u⟩:=q
    dsimp only [List.lookup_cons] at hx
    by_cases e:x=y
    ·subst e
     have:u=v:=by simpa using hx
     subst this;exact .head _
    ·have e':(x==y)=false:=by simpa using e
     rw [e'] at hx
     exact .tail _ (ih hx)
  have h1:=List.all_eq_true.mp hb _ hm
  simp only [bnOk,Bool.and_eq_true,Bool.not_eq_true',bne_iff_ne,ne_eq,List.contains_eq_mem,decide_eq_false_iff_not] at h1
  obtain ⟨⟨⟨⟨⟨a1,a2⟩,a3⟩,a4⟩,a5⟩,a6⟩:=h1
  refine ⟨T.free x a1 a2 a3 a4 a5,?_⟩
  rw [T.builtins x a6]
  obtain ⟨i,hi,e⟩:=List.mem_iff_getElem.mp hm
  have:=congrArg (fun l=>l[i]?) hv
  simp only [List.getElem?_map,List.getElem?_eq_getElem hi,e] at this
  simpa using this
theorem last {c:Cx}{claim:ClaimW}{cl:Str->Option Addr}{mean:ExcName->Option Value}{args:List WData}{name:Str}{fa:Addr}{l:Value}{S:List Int}{s₁:Shared}{k:Nat}(hw:WF c (Room k) name [.lst (S.map .int)] [] (fun d _=>d=.bool true) NoX)(hk:k<=600)(hmg:c.mg name=some (.ref fa))(hV:V [] s₁.heap (.lst (S.map .int)) l)(h0:c.h0=s₁.heap)(hg:s₁.gens= #[])
  (hpost:claim.post args (.bool true) args=true) (hr:∀cls,claim.raises args cls=false):wpAny (model c.prog c.w) callerA (call (.ref fa) [l]) (fun v s'=>GoodWG claim cl mean args s₁ (.ok (.ret v)) s') (fun e s'=>GoodWG claim cl mean args s₁ (.error e) s') s₁:=by
 have room:Room k callerA:=by
  refine ⟨⟨?_,?_⟩,rfl⟩
  ·exact z970 hk
  ·exact z971 hk
 refine wpAny_mono (hw fa hmg callerA [] s₁ [l] room (⟨fun b o e=>by exact (h0▸e),fun p hp=>(by contradiction),(by simp [keys]),fun a ha=>(by simp [keys] at ha),fun a ha=>(by contradiction),⟨[],rfl,trivial,fun b hb=>(by simp at hb),fun b hb=>(by simp at hb)⟩⟩) (Vs.cons hV Vs.nil)) (fun v s' hz=> ?_) fun _ _ x=>(Ex.no x).elim
 obtain ⟨d,σ,p,ok',x,e⟩:=hz
 subst e
 subst x
 refine GoodW.toG ⟨.inl ⟨_,.bool true,[],rfl,hr,.bool true,hpost,fun _=>⟨List.nodup_nil,fun a ha=>by contradiction⟩⟩,fun b o e=>p.kept b o (by simp [keys]) e,?_,?_⟩
 ·obtain ⟨h,tk,rfl⟩:=p.shape;rfl
 ·obtain ⟨h,tk,rfl⟩:=p.shape;exact hg
theorem post_ok (l:OpenLaw)(args ds:List WData):l.row.claim.post args (.bool true) ds=true:=by
 dsimp only [RowW.claim,OpenLaw.row]
 simp only [Bool.and_eq_true]
 constructor
 ·rfl
 ·unfold WTm.holds
  simp [WTm.value,same]
theorem raises_ok (l:OpenLaw)(args:List WData)(cls:ExcName):l.row.claim.raises args cls=false:=rfl
end Mine
set_option maxHeartbeats 1000000
namespace Mine
open PySem PySem.Calls PyProof.Rows PySem.W
theorem lookIn_of {o:Obj}{es:Array DictEntry}{ep:Nat}{mA:Str->Option Value}(hd:o.data=.dict es ep)(hk:StrKeys es)(hf:∀n,nsFind es n=mA n)(x:Str):lookIn x o=some (mA x):=by
 unfold lookIn
 rw [hd]
 dsimp only
 rw [<-hf x]
 delta nsFind findBy
 obtain ⟨l⟩:=es
 rw [List.find?_toArray]
 cases h:l.find? (fun e=>e.key.isStr x) with
 | some e=>rfl
 | none=>
  have:l.any (·.refKey)=false:=by
   rw [List.any_eq_false];intro e he
   obtain ⟨n,t,q⟩:=hk e (by simpa using he)
   unfold DictEntry.refKey;rw [q];simp
  simp [this]
structure Ks (c:Cx)(K:Frag)(C:Addr)(cn:Str)(Bd:List Stmt):Prop where
 inn:K.In c.h0
 name:c.mg cn=some (.ref C)
 get:findIn K (.ref C) "__getattribute__"=some (some (.builtin "object.__getattribute__"))
 geta:findIn K (.ref C) "__getattr__"=some none
 dict:hasDictIn K C=true
 makes:makesIn K C=true
 keep:keepIn K (.ref C)=true
 over:plainOver K C=true
 seta:findIn K (.ref C) "__setattr__"=some (some (.builtin "object.__setattr__"))
 size:findIn K (.ref C) "size"=some none
 rules:findIn K (.ref C) "rules"=some none
 meth:∀d∈Bd.filterMap recOf,∃f o pm code doc qual,findIn K (.ref C) d.name=some (some (.ref f))/\typeIn K (.ref f)=some (.type "function")/\keepIn K (.ref f)=true/\c.h0.get? f=some o/\
  o.data=.func {docDef d.name d.params d.body d.scope pm code doc with qualname:=qual}/\c.h0.CodeRec code qual
section
variable {c:Cx} {K:Frag} {C:Addr} {cn:Str} {Bd:List Stmt}
noncomputable def WM (c:Cx)(K:Frag)(C:Addr)(P:Around->Prop)(name:Str)(ds:List D)(σ:Sto)(Q:D->Sto->Prop)(X:Addr->Sto->Prop):Prop:=
 ∀f,findIn K (.ref C) name=some (some (.ref f))->WD c P (.ref f) ds σ Q X
noncomputable def Mth (K:Frag)(C:Addr)(name:Str):Prop:=∃f,findIn K (.ref C) name=some (some (.ref f))/\typeIn K (.ref f)=some (.type "function")/\keepIn K (.ref f)=true
variable {A:Around} {fr:List Addr} {σ:Sto} {X:Addr->Sto->Prop} {Q:D->Sto->Prop} {env:Env} {m:Vars} {B:List Stmt} {bs:List (Str × Value)}
theorem WM.by {name:Str}{params:Arguments}{body:List Stmt}{scope:Scope}{dpos:Pos}(i:Nat){ps:List Str}{n:Nat}{ds:List D}(T:Tp c B bs)(S:Ks c K C cn Bd)(hd:(Bd[i]?).bind recOf=some ⟨name,params,body,scope,dpos⟩)
  (hb:∀pm code doc qual vals,vals.length=ps.length->bindArgs {docDef name params body scope pm code doc with qualname:=qual} ⟨vals,[]⟩=pure (ps.zip vals)) (hok:fnOk scope ps=true) (hl:ds.length=ps.length)
  (h:∀A fr env,Room n A->A.handled=none->env.scope=scope->Fe A env scope->WS c A (Fa env++fr) env (ps.zip ds) σ body (fun _ σ'=>Q .none σ') Q X):WM c K C (Room (n+1)) name ds σ Q X:=fun f hf=>by
 obtain ⟨f',o,pm,code,doc,qual,h1,_,_,h2,h3,h4⟩:=S.meth _ (rec_mem hd)
 replace hf:=(h1 ..).symm.trans hf;cases hf
 simp only [fnOk,Bool.and_eq_true,decide_eq_true_eq,List.all_eq_true,Bool.or_eq_true,beq_iff_eq,bne_iff_ne,Bool.not_eq_true'] at hok
 obtain ⟨⟨⟨⟨⟨⟨k1,k2⟩,k3⟩,k4⟩,k5⟩,k6⟩,k7⟩:=hok
 refine WD.of (P':=Room n) (ps:=ps) (body:=body) (scope:=scope) ⟨⟨o,_,h2,h3,rfl,rfl,rfl,rfl,rfl,h4,hb pm code doc qual⟩,T.nolimit,k1,k2,k3,fun x e=> ?_,k5,k6,k7⟩ (fun A env r=>⟨?_,r.deeper⟩) hl fun A fr env r fe=>h A fr env r r.2 fe.scope fe
 ·obtain ⟨y,hy⟩:=lookup_mem' e
  exact k4 _ hy rfl
 ·exact z870 (r.1.1) (rfl)
theorem mbind1 {name x:Str}{params:Arguments}{body:List Stmt}{scope:Scope}(h:∀pm code doc qual a,bindArgs {docDef name params body scope pm code doc with qualname:=qual} ⟨[a],[]⟩=pure ([x].zip [a])):∀pm code doc qual vals,vals.length=[x].length->bindArgs {docDef name params body scope pm code doc with qualname:=qual} ⟨vals,[]⟩=pure ([x].zip vals):=fun pm code doc qual vals e=>by
 obtain ⟨a,rfl⟩:=List.length_eq_one_iff.mp e
 exact h pm code doc qual a
theorem mbind3 {name x y z:Str}{params:Arguments}{body:List Stmt}{scope:Scope}(h:∀pm code doc qual a b d,bindArgs {docDef name params body scope pm code doc with qualname:=qual} ⟨[a,b,d],[]⟩=pure ([x,y,z].zip [a,b,d])):∀pm code doc qual vals,vals.length=[x,y,z].length->bindArgs {docDef name params body scope pm code doc with qualname:=qual} ⟨vals,[]⟩=pure ([x,y,z].zip vals):=fun pm code doc qual vals e=>by
 obtain ⟨a,b,d,rfl⟩:=len3 e
 exact h pm code doc qual a b d
theorem WM.at {k n:Nat}{f:Str}{ds:List D}(h:WM c K C (Room k) f ds σ Q X)(hk:k<=n):WM c K C (Room n) f ds σ Q X:=fun a ha A fr s vals hA ok hv=>h a ha A fr s vals (hA.mono hk) ok hv
theorem V.inst {Kk:List Addr}{h:Heap}{sz ru:D}{v:Value}(x:V Kk h (.sys C sz ru) v):∃(a:Addr) (ox od:Obj) (v1 v2:Value) (mA:Str->Option Value),v=.ref a/\InstAt h a ox C (some od)/\(∀x,lookIn x od=some (mA x))/\mA "size"=some v1/\mA "rules"=some v2/\(∀x:Str,x≠"size"->x≠"rules"->mA x=none)/\V Kk h sz v1/\V Kk h ru v2:=by
 obtain ⟨a,dx,v1,v2,mA,rfl,nk,nd,g,⟨od,es,ep,gd,hd,hk,hf⟩,f1,f2,f3,r1,r2⟩:=x
 exact ⟨a,_,od,v1,v2,mA,rfl,⟨g,rfl,rfl,gd⟩,lookIn_of hd hk hf,f1,f2,f3,r1,r2⟩
theorem v_handed {Kk:List Addr}{h:Heap}{d:D}{v:Value}(x:V Kk h d v):handedIn v=true:=by
 cases d<;>skip
 case none=>subst x;rfl
 case bool=>subst x;rfl
 case int=>obtain ⟨t,rfl⟩:=x;rfl
 case str=>obtain ⟨t,rfl⟩:=x;rfl
 case tup=>obtain ⟨a,vs,n,rfl,_⟩:=x;rfl
 case lst=>obtain ⟨a,vs,n,rfl,_⟩:=x;rfl
 case sys=>obtain ⟨a,dx,v1,v2,mA,rfl,_⟩:=x;rfl
 case own=>obtain ⟨a,rfl,_⟩:=x;rfl
 case exc=>obtain ⟨a,o,vs,rfl,_⟩:=x;rfl
 case typ=>subst x;rfl
 case ref=>subst x;rfl
theorem WE.attr (S:Ks c K C cn Bd){o:Expr}{name:Str}{pos:Pos}(h:WE c A fr env m σ o (fun d σ1=>∃sz ru,d=.sys C sz ru/\((name="size"/\Q sz σ1)\/(name="rules"/\Q ru σ1))) X)(hb:∀w,attributeBase o name env w=w:=by intro _;rfl):
  WE c A fr env m σ (.Attribute o name pos) Q X:=fun s ok fm=>by
 rw [arm_eval_Attribute,hb]
 refine wpAny_bind (wpAny_mono (h s ok fm) (fun ov s1 hz=> ?_) fun _ _ x=>x)
 obtain ⟨d,σ1,p1,ok1,x1,sz,ru,hd,q1⟩:=hz
 subst hd
 refine wpAny_bind (wpAny_standAt (wpAny_bind (wpAny_holding ?_)))
 obtain ⟨a,ox,od,v1,v2,mA,rfl,I,hl,f1,f2,f3,r1,r2⟩:=x1.inst
 have X1:=S.inn.keeps ok1.base
 rcases q1 with ⟨rfl,q1⟩| ⟨rfl,q1⟩
 ·refine get_value X1 I S.get (findObj_own S.dict S.size rfl (by rw [hl,f1])) (v_handed r1) ?_
  refine wpAny_bind (wpAny_letTemporaryGo (wpAny_pure ⟨sz,σ1,p1.trans (Post.tok ..),ok1,r1,q1⟩))
 ·refine get_value X1 I S.get (findObj_own S.dict S.rules rfl (by rw [hl,f2])) (v_handed r2) ?_
  refine wpAny_bind (wpAny_letTemporaryGo (wpAny_pure ⟨ru,σ1,p1.trans (Post.tok ..),ok1,r2,q1⟩))
theorem WE.callM (S:Ks c K C cn Bd){o:Expr}{name:Str}{apos pos:Pos}{args:List Expr}{n:Nat}(r:Room n A)(hf:Mth K C name)
  (h:WE c A fr env m σ o (fun d σ1=>∃sz ru,d=.sys C sz ru/\WA c A fr env m σ1 args (fun ds σ2=>WM c K C (Room n) name (d::ds) σ2 Q X) X) X) (h1:name≠"size":=by decide) (h2:name≠"rules":=by decide)
  (hp:plainArgs args=true:=by rfl) (hb:∀w,attributeBase o name env w=w:=by intro _;rfl) (hl:(apos.endLine==pos.line)=true:=by rfl) (hn:decide (args.length<30)=true:=by rfl):
  WE c A fr env m σ (.Call (.Attribute o name apos) args [] pos) Q X:=fun s ok fm=>by
 have hst:=plainArgs_starEach (env:=env) (pos:=pos) hp
 show wpAny _ A (do let ov<-attributeBase o name env (eval o env);standAt apos.atName;methodCall o name apos pos env ov (args.length+([]:List Keyword).length) (backTo pos (starEach args env)) (backToKw pos (keywordEach [] env))) _ _ s
 rw [hb]
 refine wpAny_bind (wpAny_mono (h s ok fm) (fun ov s1 hz=> ?_) fun _ _ x=>x)
 obtain ⟨d,σ1,p1,ok1,x1,sz,ru,hd,q1⟩:=hz
 subst hd
 refine wpAny_bind (wpAny_standAt ?_)
 obtain ⟨a,ox,od,v1,v2,mA,rfl,I,hlk,f1,f2,f3,r1,r2⟩:=x1.inst
 obtain ⟨f,g1,g2,g6⟩:=hf
 have few:methodCallForm (args.length+([]:List Keyword).length) (backTo pos (starEach args env)) (backToKw pos (keywordEach [] env))=true:=by
  unfold methodCallForm
  have a3:backToKw pos (keywordEach [] env)=[]:=rfl
  rw [(List.all_eq_true.mpr fun x hx=>by rw [hst x hx];rfl),a3]
  trivial
 unfold methodCall
 rw [few]
 refine wpAny_bind (wpAny_holding ?_)
 unfold calleeOf
 refine method_fn (S.inn.keeps ok1.base) I S.get S.geta g1 g2 (by show (lookIn name od).map _=_;rw [hlk,f3 name h1 h2];rfl) ?_
 rw [show methodCallPos true o env apos pos=pure pos from if_pos (by rw [hl];rfl)]
 refine wpAny_bind (wpAny_pure ?_)
 refine callWith_of (P:=K.In) (by
  have:(backTo pos (starEach args env)).any (·.1)=false:=by rw [List.any_eq_false];intro x hx;simp [hst x hx]
  rw [this];rfl) (keeps_K g6) (wpAny_evalArgs hst (wpAny_mono (q1 pos s1 ok1 (fm.move p1)) (fun us s2 ⟨ds,σ2,p2,ok2,x2,q2⟩=>⟨S.inn.keeps ok2.base,?_⟩) fun _ _ x=>Ex.back p1 x fun _ _ y=>y))
 refine wpAny_mono ((q2 f g1).wc A fr s2 _ r ok2 (Vs.cons (p2.v x1) x2)) (fun _ _ z=>z.back (p1.trans p2)) fun _ _ x=>Ex.back (p1.trans p2) x fun _ _ y=>y
end
end Mine
set_option maxHeartbeats 1000000
namespace Mine
open PySem PySem.Calls PyProof.Rows PySem.W
theorem keys_drop {σa σb:Sto}{a b:Addr}{o:O}(h:b∈keys (σa++σb)):b∈keys (σa++(a,o)::σb):=by
 rw [keys,List.map_append,List.map_cons,List.mem_append,List.mem_cons] at*
 rcases h with h| h
 ·exact .inl h
 ·exact .inr (.inr h)
theorem less_forget {σa σb:Sto}{a:Addr}{o:O}{fr:List Addr}(h:Heap):Less (keys (σa++(a,o)::σb)++fr) (keys (σa++σb)++fr) h:=fun b m=>.inl (by
 rcases List.mem_append.mp m with z| z
 ·exact List.mem_append_left _ (keys_drop z)
 ·exact List.mem_append_right _ z)
theorem Stay.refl {K:List Addr}{h:Heap}:Stay K h h:=fun _ _ _ e=>e
section
variable {c:Cx} {A:Around} {fr:List Addr} {σ σa σb:Sto} {a:Addr} {o:O}
theorem Ok.forget {h:Heap}(ok:Ok c A fr (σa++(a,o)::σb) h):Ok c A fr (σa++σb) h where
 base:=ok.base
 sto:=fun p hp=>IsO.move Stay.refl (less_forget h) (fun _ e=>e) (ok.sto p (by
  rcases List.mem_append.mp hp with z| z
  ·exact List.mem_append_left _ z
  ·exact List.mem_append_right _ (List.mem_cons_of_mem _ z)))
 nd:=by
  refine List.Nodup.sublist ?_ ok.nd
  refine List.Sublist.append ?_ (List.Sublist.refl _)
  simp only [keys,List.map_append]
  exact List.Sublist.append (List.Sublist.refl _) (List.sublist_cons_self _ _)
 new:=fun b m=>ok.new b (by
  rcases List.mem_append.mp m with z| z
  ·exact List.mem_append_left _ (keys_drop z)
  ·exact List.mem_append_right _ z)
 live:=ok.live
 stack:=ok.stack
theorem Post.forget {F:List Addr}{s s':Shared}(p:Post F fr σ s s' (σa++(a,o)::σb)):Post F fr σ s s' (σa++σb):=
 ⟨p.shape,p.kept,p.slots,p.alive,fun b m=>p.grow b (keys_drop m)⟩
theorem Ok.gone {h:Heap}(ok:Ok c A fr (σa++(a,o)::σb) h):a∉keys (σa++σb)++fr:=by
 have nd:=ok.nd
 simp only [keys,List.map_append,List.append_assoc] at nd⊢
 exact (List.nodup_cons.mp ((List.perm_middle.nodup_iff.mp nd))).1
theorem Ok.at {A':Around}{h:Heap}(ok:Ok c A fr σ h)(e:A'.frames=A.frames):Ok c A' fr σ h:=⟨ok.base,ok.sto,ok.nd,ok.new,ok.live,by exact e▸ok.stack⟩
theorem Ok.add {h h':Heap}(ok:Ok c A fr σ h)(k:∀b ob,h.get? b=some ob->h'.get? b=some ob)(hn:h.objs.size<=a)(x:IsO c.prog c.w (keys ((a,o)::σ)++fr) h' a o):Ok c A fr ((a,o)::σ) h':=by
 have ha:=none_of_ge hn
 exact {
  base:=fun b o e=>k _ _ (ok.base b o e)
  sto:=fun p hp=>by
   rcases List.mem_cons.mp hp with rfl| hp
   ·exact x
   ·refine IsO.move (fun b o _ e=>k b o e) (fun b m=> ?_) (fun x e=>k _ x e) (ok.sto p hp)
    rcases List.mem_append.mp m with z| z
    ·rcases List.mem_cons.mp z with z| z
     ·exact .inr (z▸ha)
     ·exact .inl (List.mem_append_left _ z)
    ·exact .inl (List.mem_append_right _ z)
  nd:=List.nodup_cons.mpr ⟨(fun z=>Nat.lt_irrefl _ (Nat.lt_of_lt_of_le (ok.lt z) hn)),ok.nd⟩
  new:=fun b m=>by
   rcases List.mem_cons.mp (show b∈a::(keys σ++fr) from m) with z| z
   ·cases hg:c.h0.get? b with
    | none=>rfl
    | some o=>have:=ok.base _ o hg;simp only [z,ha] at this;contradiction
   ·exact ok.new b z
  live:=fun b m=>by obtain ⟨o,e⟩:=ok.live b m;exact ⟨o,k _ _ e⟩
  stack:=(ok.keeps k).stack}
theorem Post.add {F:List Addr}{s:Shared}{h':Heap}{tk:Nat}(k:∀b ob,s.heap.get? b=some ob->h'.get? b=some ob)(hn:s.heap.objs.size<=a):Post F fr σ s {s with heap:=h',toks:=tk} ((a,o)::σ):=
 ⟨⟨h',tk,rfl⟩,fun b o _ e=>k b o e,fun b o _ _ e=>⟨o.slots,k b o e,fun _=>rfl⟩,fun b o e=>⟨o,k b o e⟩,fun b m=>by
  rcases List.mem_cons.mp (show b∈a::keys σ from m) with z| z
  ·exact .inr (z▸none_of_ge hn)
  ·exact .inl z⟩
end
theorem under_tc {A:Around}{C:Addr}{rest:List Value}{kw:List (Str × Value)}:(A.under (.builtin "type.__call__" ⟨.ref C::rest,kw⟩)).frames=A.frames/\(A.under (.builtin "type.__call__" ⟨.ref C::rest,kw⟩)).handled=A.handled/\(A.under (.builtin "type.__call__" ⟨.ref C::rest,kw⟩)).depth=A.depth+1/\(A.under (.builtin "type.__call__" ⟨.ref C::rest,kw⟩)).units=A.units+1:=by
 refine ⟨rfl,rfl,?_,rfl⟩
 have:(Code.builtin "type.__call__" ⟨.ref C::rest,kw⟩).weight=1:=by kernel_rfl
 show A.depth+_=_
 exact congrArg _ (this ..)
section
variable {c:Cx} {K:Frag} {C:Addr} {cn:Str} {Bd:List Stmt} {A:Around} {fr:List Addr} {σ:Sto} {X:Addr->Sto->Prop} {Q:D->Sto->Prop} {env:Env} {m:Vars} {B:List Stmt} {bs:List (Str × Value)} {N:Vars->Sto->Prop} {R:D->Sto->Prop}
theorem Room.tc {n:Nat}{rest:List Value}{kw:List (Str × Value)}(r:Room (n+1) A):Room n (A.under (.builtin "type.__call__" ⟨.ref C::rest,kw⟩)):=by
 obtain ⟨⟨h1,h2⟩,h3⟩:=r
 obtain ⟨e1,e2,e3,e4⟩:=under_tc (A:=A) (C:=C) (rest:=rest) (kw:=kw)
 exact ⟨⟨z972 h1 e3,z973 h2 e4⟩,e2.trans h3⟩
theorem W1.attrS (S:Ks c K C cn Bd){x:Expr}{name:Str}{pos' pos:Pos}{value:Expr}
  (h:WE c A fr env m σ value (fun dv σ1=>WE c A fr env m σ1 x (fun d σ2=>∃dx σa σb fs,d=.own C dx/\σ2=σa++(dx,.flds fs)::σb/\fs.length<=100/\N m (σa++(dx,.flds ((name,dv)::fs))::σb)) X) X) (hn:name="size"\/name="rules")
  (hs:swapsWith value (some (.Attribute x name pos')) pos.line env=pure false):W1 c A fr env m σ (.Assign [.Attribute x name pos'] value pos) N R X:=fun s ok fm=>by
 refine plainObj_wpAny_Assign_Attribute (wpAny_mono (h s ok fm) (fun v s1 hz=> ?_) fun _ _ x=>x.wide fm) hs
 obtain ⟨dv,σ1,p1,ok1,x1,q1⟩:=hz
 refine wpAny_mono (q1 s1 ok1 (fm.move p1)) (fun ov s2 hz=> ?_) fun _ _ x=>(Ex.back (G:=none) p1 x fun _ _ y=>y).wide fm
 obtain ⟨d,σ2,p2,ok2,x2,dx,σa,σb,fs,hd,hσ,hfl,q2⟩:=hz
 subst hd hσ
 obtain ⟨a,rfl,nk,g⟩:=x2
 have X2:=S.inn.keeps ok2.base
 obtain ⟨mA,hns,hA1,hA2⟩:=ok2.sto _ (by simp:(dx,O.flds fs)∈σa++(dx,O.flds fs)::σb)
 obtain ⟨od,es,ep,gd,hdd,hk,hu,hf⟩:=_root_.id hns
 have I:InstAt s2.heap a _ C (some od):=⟨g,rfl,rfl,gd⟩
 obtain ⟨cd,hc,hd'⟩:=any_some S.dict
 have ht:takerIn K C name=some none:=by
  unfold takerIn
  rcases hn with rfl| rfl
  ·rw [S.size];rfl
  ·rw [S.rules];rfl
 refine set_plain X2 I S.seta (osa_open (s:={s2 with toks:=s2.toks+1}) X2 I S.over ht fun b=> ?_)
 refine wpAny_bind (wpAny_pure (wpAny_bind (wpAny_bind (wpAny_loadPart g (wpAny_bind (Looks.here (s:={s2 with toks:=s2.toks+1}) (looks_clsIn X2 hc) ?_))))))
 rw [hd']
 refine wpAny_pure (a:=some dx) (wpAny_bind (wpAny_pure (wpAny_bind ?_)))
 refine wpAny_nsSet1 (s:={s2 with toks:=s2.toks+1}) hns fun h' hn' sb=> ?_
 obtain ⟨oD,esD,epD,hoD,hdD,hcD⟩:=hn'.count (Within.cons name v (fun x hx=>by
  cases e:fs.lookup x with
  | none=>exact absurd (hA2 x e) hx
  | some d=>exact List.mem_map_of_mem (f:=(·.1)) (mem_of_lookup e)))
 refine wpAny_bind (wpAny_lookBehind hoD (by exact (congrArg _ (hdD ..)).trans (pastItsLine_dict (Nat.le_trans hcD (by simp only [List.length_cons,List.length_map];exact z974 hfl)))) ?_)
 refine wpAny_pure ?_
 have hfr:dx∉fr:=fun z=>ok2.gone (List.mem_append_right _ z)
 obtain ⟨od',es',ep',gd',_⟩:=_root_.id hn'
 have pp:Post [] fr (σa++(dx,.flds fs)::σb) s2 {s2 with heap:=h',toks:=s2.toks+1+1} (σa++(dx,.flds ((name,dv)::fs))::σb):=Post.put hfr (fun b ob nb e=>(sb.2 b nb).trans e) ⟨_,gd'⟩
 have st:Stay (keys (σa++(dx,O.flds fs)::σb)++fr) s2.heap h':=fun b o n e=>(sb.2 b fun q=>n (q▸(by simp [keys]))).trans e
 refine ⟨.next m,_,((p1.trans p2).trans pp).wide (by simp),ok2.put (fun b ob nb e=>(sb.2 b nb).trans e) ⟨_,hn',fun x d e=> ?_,fun x e=> ?_⟩,⟨rfl,((fm.move p1).move p2).move pp⟩,q2⟩
 ·rw [lookup_cons_eq] at e
  by_cases q:x=name
  ·rw [if_pos q] at e;cases e
   exact ⟨v,by simp [q],V.move st (fun _ m=>.inl m) _ _ (p2.v x1)⟩
  ·rw [if_neg q] at e
   obtain ⟨u,hu,hV⟩:=hA1 x d e
   exact ⟨u,by simp [q,hu],V.move st (fun _ m=>.inl m) _ _ hV⟩
 ·rw [lookup_cons_eq] at e
  by_cases q:x=name
  ·rw [if_pos q] at e;cases e
  ·rw [if_neg q] at e
   simp [q,hA2 x e]
noncomputable def NewQ (C dx:Addr)(Q:D->Sto->Prop):D->Sto->Prop:=fun d σ2=>d=.none/\∃σa σb fs sz ru,σ2=σa++(dx,.flds fs)::σb/\fs.lookup (Str.ofString "size")=some sz/\fs.lookup (Str.ofString "rules")=some ru/\(∀x:Str,x≠"size"->x≠"rules"->fs.lookup x=none)/\Q (.sys C sz ru) (σa++σb)
noncomputable def NewX (dx:Addr)(X:Addr->Sto->Prop):Addr->Sto->Prop:=fun E σ2=>∃σa σb o,σ2=σa++(dx,o)::σb/\X E (σa++σb)
theorem WE.callC (S:Ks c K C cn Bd)(T:Tp c B bs){fp pos:Pos}{args:List Expr}{n:Nat}(r:Room (n+1) A)(hk:env.kindOf cn=some .globalImplicit)(hm:Mth K C "__init__")
  (h:WA c A fr env m σ args (fun ds σ1=>∀dx,dx∉keys σ1->WM c K C (Room n) "__init__" (.own C dx::ds) ((dx,.flds [])::σ1) (NewQ C dx Q) (NewX dx X)) X) (hp:plainArgs args=true:=by rfl) (hdb:(cn==("__debug__":Str))=false:=by decide):
  WE c A fr env m σ (.Call (.Name cn fp) args [] pos) Q X:=fun s ok fm=>by
 have hst:=plainArgs_starEach (env:=env) (pos:=pos) hp
 obtain ⟨f,g1,g2,g6⟩:=hm
 refine wpAny_bind (Name_function_global fm.kind hk (loadGlobal_global (by exact fm.glob▸T.good.g.keeps ok.base) S.name ?_) hdb)
 refine callWith_of (P:=K.In) (by
  have:(backTo pos (starEach args env)).any (·.1)=false:=by rw [List.any_eq_false];intro x hx;simp [hst x hx]
  rw [this];rfl) (keeps_K S.keep) (wpAny_evalArgs hst (wpAny_mono (h pos s ok fm) (fun us s1 ⟨ds,σ1,p1,ok1,x1,q1⟩=>⟨S.inn.keeps ok1.base,?_⟩) fun _ _ x=>x))
 have X1:=S.inn.keeps ok1.base
 obtain ⟨hh,g,d,t,os⟩:=s1
 refine wpAny_call (make_core (makes_of X1 S.makes) (looks_findIn X1 g1) (fun self=>bind_fn X1 self g2) (.inl rfl) ?_)
 have kp:∀b o,hh.get? b=some o->((hh.push emptyDict).push (instObj C hh.objs.size)).get? b=some o:=fun b o e=>Heap.get?_push_of_some _ (Heap.get?_push_of_some _ e)
 have hgx:((hh.push emptyDict).push (instObj C hh.objs.size)).get? (hh.objs.size+1)=some (instObj C hh.objs.size):=by heap_get
 have ok2:Ok c (A.under (.builtin "type.__call__" ⟨.ref C::([]++us),[]⟩)) fr ((hh.objs.size,.flds [])::σ1) ((hh.push emptyDict).push (instObj C hh.objs.size)):=
  (Ok.add (o:=.flds []) ok1 kp (Nat.le_refl _) ⟨_,(Heap.Ns1.of_empty ⟨_, #[],_,(by heap_get),rfl,fun e he=>absurd he (by simp),fun _=>rfl⟩),fun x d e=>(by contradiction),fun _ _=>rfl⟩).at under_tc.1
 have p2:Post [] fr σ1 ⟨hh,g,d,t,os⟩ ⟨(hh.push emptyDict).push (instObj C hh.objs.size),g,d,t,os⟩ ((hh.objs.size,.flds [])::σ1):=Post.add (tk:=t) kp (Nat.le_refl _)
 have hxn:hh.objs.size+1∉keys ((hh.objs.size,O.flds [])::σ1)++fr:=fun z=>by
  rcases List.mem_cons.mp (show hh.objs.size+1∈hh.objs.size::(keys σ1++fr) from z) with z| z
  ·exact absurd z (Nat.succ_ne_self _)
  ·exact absurd (ok1.lt z) (Nat.not_lt.mpr (Nat.le_succ _))
 have hv:Vs (keys ((hh.objs.size,O.flds [])::σ1)++fr) ((hh.push emptyDict).push (instObj C hh.objs.size)) (.own C hh.objs.size::ds) (.ref (hh.objs.size+1)::([]++us)):=
  Vs.cons (by exact ⟨_,rfl,hxn,hgx⟩) (p2.vs x1)
 refine codeAny_mono (q1 _ (fun z=>by
  exact Nat.lt_irrefl _ (ok1.lt (List.mem_append_left _ z))) f g1 _ fr ⟨_,g,d,t,os⟩ _ r.tc ok2 hv) fun res s' z=> ?_
 match res,z with
 | .error e,z=>
  exact nomatch z
 | .ok (.ret v),z=>
  obtain ⟨b,σ',p3,ok3,hV,hb,σa,σb,fs,sz,ru,rfl,l1,l2,l3,q⟩:=z
  subst hb
  refine ⟨hV.toNone,.sys C sz ru,σa++σb,((p1.trans p2).trans p3).forget,(ok3.at under_tc.1.symm).forget,?_,q⟩
  obtain ⟨mA,hns',hA1,hA2⟩:=ok3.sto (hh.objs.size,O.flds fs) (by simp)
  obtain ⟨v1,e1,x1'⟩:=hA1 _ _ l1
  obtain ⟨v2,e2,x2'⟩:=hA1 _ _ l2
  exact ⟨hh.objs.size+1,hh.objs.size,v1,v2,mA,rfl,(less_forget s'.heap).nin (p3.less.nin hxn hgx) (p3.kept _ _ hxn hgx),ok3.gone,p3.kept _ _ hxn hgx,hns'.ns,e1,e2,fun x n1 n2=>hA2 x (l3 x n1 n2),V.move Stay.refl (less_forget _) _ _ x1',V.move Stay.refl (less_forget _) _ _ x2'⟩
 | .ok .next,z=>exact z.elim
 | .ok .brk,z=>exact z.elim
 | .ok .cont,z=>exact z.elim
end
end Mine
set_option maxHeartbeats 1000000
namespace Mine
open PySem PySem.Calls PyProof.Rows PySem.W
section
variable {c:Cx} {A:Around} {fr:List Addr} {σ σ' σa σb:Sto} {X:Addr->Sto->Prop} {Q:D->Sto->Prop} {env:Env} {m:Vars} {N:Vars->Sto->Prop} {R:D->Sto->Prop}
theorem keys_sub (hs:σ'.Sublist σ){b:Addr}(h:b∈keys σ'):b∈keys σ:=(List.Sublist.map (·.1) hs).subset h
theorem less_sub (hs:σ'.Sublist σ)(h:Heap):Less (keys σ++fr) (keys σ'++fr) h:=fun b m=>.inl (by
 rcases List.mem_append.mp m with z| z
 ·exact List.mem_append_left _ (keys_sub hs z)
 ·exact List.mem_append_right _ z)
theorem Ok.sub {h:Heap}(ok:Ok c A fr σ h)(hs:σ'.Sublist σ):Ok c A fr σ' h where
 base:=ok.base
 sto:=fun p hp=>IsO.move Stay.refl (less_sub hs h) (fun _ e=>e) (ok.sto p (hs.subset hp))
 nd:=List.Nodup.sublist (List.Sublist.append (List.Sublist.map _ hs) (List.Sublist.refl _)) ok.nd
 new:=fun b m=>ok.new b (by
  rcases List.mem_append.mp m with z| z
  ·exact List.mem_append_left _ (keys_sub hs z)
  ·exact List.mem_append_right _ z)
 live:=ok.live
 stack:=ok.stack
theorem Post.from {F:List Addr}{σ2:Sto}{s s':Shared}(p:Post F fr σ' s s' σ2)(hs:σ'.Sublist σ):Post F fr σ s s' σ2:=
 ⟨p.shape,fun b o n e=>p.kept b o (fun z=>n (by
  rcases List.mem_append.mp z with z| z
  ·exact List.mem_append_left _ (keys_sub hs z)
  ·exact List.mem_append_right _ z)) e,p.slots,p.alive,fun b m=>(p.grow b m).imp (keys_sub hs) id⟩
theorem Post.to {F:List Addr}{σ2:Sto}{s s':Shared}(p:Post F fr σ2 s s' σ)(hs:σ'.Sublist σ):Post F fr σ2 s s' σ':=
 ⟨p.shape,p.kept,p.slots,p.alive,fun b m=>p.grow b (keys_sub hs m)⟩
theorem Ex.from {G:Option Env}{t:Bool}{s s':Shared}{v:Value}(x:Ex c A G fr σ' s t X v s')(hs:σ'.Sublist σ):Ex c A G fr σ s t X v s':=nomatch x
theorem W.from {α β:Type}{G:Option Env}{t:Sem α}{R:List Addr->Heap->β->α->Prop}{Q:β->Sto->Prop}{s:Shared}(h:W c A G fr σ' t R Q X s)(hs:σ'.Sublist σ):W c A G fr σ t R Q X s:=
 wpAny_mono h (fun _ _ ⟨b,σ2,p,ok,r,q⟩=>⟨b,σ2,p.from hs,ok,r,q⟩) fun _ _ x=>x.from hs
theorem Fm.turn {m':Vars}{K K':List Addr}{h:Heap}(f:Fm env m fr K h)(hV:∀x d',m'.lookup x=some d'->∃d,m.lookup x=some d/\∀v,V K h d v->V K' h d' v):Fm env m' fr K' h where
 kind:=f.kind
 glob:=f.glob
 bui:=f.bui
 ns:=by
  obtain ⟨mv,hn,r⟩:=f.ns
  refine ⟨mv,hn,fun x d' e k=> ?_⟩
  obtain ⟨d,e1,e2⟩:=hV x d' e
  obtain ⟨v,a,b⟩:=r x d e1 k
  exact ⟨v,a,e2 v b⟩
 cell:=fun x cc e=>by
  obtain ⟨ov,hc,r⟩:=f.cell x cc e
  refine ⟨ov,hc,fun d' e' k=> ?_⟩
  obtain ⟨d,e1,e2⟩:=hV x d' e'
  obtain ⟨v,a,b⟩:=r d e1 k
  exact ⟨v,a,e2 v b⟩
 has:=f.has
 inn:=f.inn
 apart:=f.apart
theorem WS.forget {ss:List Stmt}(hs:σ'.Sublist σ)(h:WS c A fr env m σ' ss N R X):WS c A fr env m σ ss N R X:=fun s ok fm=>
 W.from (h s (ok.sub hs) (fm.turn fun x d e=>⟨d,e,fun v hv=>V.move Stay.refl (less_sub hs _) _ _ hv⟩)) hs
noncomputable def isRef (a:Addr):D->Bool
 | .ref b=>b==a
 | _=>false
noncomputable def fzD (a:Addr)(ds:List D)(d:D):D:=if isRef a d then .lst ds else d
noncomputable def fz (a:Addr)(ds:List D):Vars->Vars
 | []=>[]
 | (x,d)::r=>(x,fzD a ds d)::fz a ds r
theorem fz_lookup {a:Addr}{ds:List D}{x:Str}{d':D}:∀{m:Vars},(fz a ds m).lookup x=some d'->∃d,m.lookup x=some d/\d'=fzD a ds d
 | [],h=>by contradiction
 | (y,d)::r,h=>by
  simp only [fz,lookup_cons_eq] at h
  rw [lookup_cons_eq]
  by_cases q:x=y
  ·rw [if_pos q] at h⊢;obtain rfl:=Option.some.inj h;exact ⟨d,rfl,rfl⟩
  ·rw [if_neg q] at h⊢;exact fz_lookup h
theorem drop_sub {a:Addr}{o:O}:(σa++σb).Sublist (σa++(a,o)::σb):=List.Sublist.append (List.Sublist.refl _) (List.sublist_cons_self _ _)
theorem fz_v {a:Addr}{ds:List D}{h:Heap}{d:D}{v:Value}(ok:Ok c A fr (σa++(a,.lst ds)::σb) h)(x:V (keys (σa++(a,.lst ds)::σb)++fr) h d v):V (keys (σa++σb)++fr) h (fzD a ds d) v:=by
 unfold fzD
 split
 ·rename_i hr
  cases d<;>simp [isRef] at hr
  subst hr
  obtain ⟨vs,n,g,r⟩:=ok.sto _ (List.mem_append_right σa List.mem_cons_self)
  exact ⟨_,vs,n,x,ok.gone,g,Vs.move Stay.refl (less_sub drop_sub _) _ _ r⟩
 ·exact V.move Stay.refl (less_sub drop_sub _) _ _ x
theorem WS.freeze {ss:List Stmt}{a:Addr}{ds:List D}(h:WS c A fr env (fz a ds m) (σa++σb) ss N R X):WS c A fr env m (σa++(a,.lst ds)::σb) ss N R X:=fun s ok fm=>
 W.from (h s (ok.sub drop_sub) (fm.turn fun x d' e=>by
  obtain ⟨d,e1,e2⟩:=fz_lookup e
  exact ⟨d,e1,fun v hv=>e2▸fz_v ok hv⟩)) drop_sub
theorem WE.freeze {e:Expr}(h:WE c A fr env m σ e (fun d σ1=>∃a ds σa σb,d=.ref a/\σ1=σa++(a,.lst ds)::σb/\Q (.lst ds) (σa++σb)) X):WE c A fr env m σ e Q X:=fun s ok fm=>
 wpAny_mono (h s ok fm) (fun v s1 hz=>by
  obtain ⟨d,σ1,p1,ok1,x1,a,ds,σa,σb,hd,hσ,q⟩:=hz
  subst hd hσ
  have:=fz_v ok1 x1
  simp only [fzD,isRef,beq_self_eq_true] at this
  exact ⟨.lst ds,σa++σb,p1.to drop_sub,ok1.sub drop_sub,this,q⟩) fun _ _ x=>x
end
end Mine
set_option maxHeartbeats 1000000
namespace Mine
open PySem PySem.Calls PyProof.Rows PySem.W
noncomputable def Gi (c:Cx)(gs:List (Str × Int)):Prop:=∀x i,gs.lookup x=some i->∃t,c.mg x=some (.int i t)
noncomputable def bodyOf:Stmt->List Stmt
 | .ClassDef _ _ _ body _ _ _ _ _ _ _=>body
 | _=>[]
section
variable {c:Cx} {A:Around} {fr:List Addr} {σ:Sto} {X:Addr->Sto->Prop} {Q:D->Sto->Prop} {env:Env} {m:Vars} {B:List Stmt} {bs:List (Str × Value)} {gs:List (Str × Int)}
theorem WE.gInt (T:Tp c B bs)(G:Gi c gs){f:Str}{fp:Pos}{i:Int}(hk:env.kindOf f=some .globalImplicit)(hg:gs.lookup f=some i)(h:Q (.int i) σ)(hdb:(f==("__debug__":Str))=false:=by decide):WE c A fr env m σ (.Name f fp) Q X:=by
 refine Exists.elim (G f i hg) fun t e=> ?_
 exact WE.nInt T.good hk e h hdb
theorem WB.addTs {ds es:List D}(hsz:ds.length+es.length<=sizeLine)(h:Q (.tup (ds++es)) σ):WB c A fr σ (binaryOp .Add) (.tup ds) (.tup es) Q X:=by
 by_cases h1:ds=[]
 ·subst h1
  intro v1 v2 s ok x1 x2
  obtain ⟨l,rfl,z⟩:=SD.of_v (sd:=.tup []) x1
  obtain ⟨b,rfl,y⟩:=SD.of_v (sd:=.tup es) x2
  obtain ⟨vs,n,g,r⟩:=z.tuple rfl
  obtain ⟨us,k,g',r'⟩:=y.tuple rfl
  have hv:vs=[]:=List.eq_nil_of_length_eq_zero r.length
  exact concat_meets ⟨_,g,rfl⟩ ⟨_,g',rfl⟩ noFill_tuple_add seq_tuple_add PySem.F.slot_tuple_add PySem.F.entry_tuple_add (PySem.F.args_tuple_add_2 _ _)
   (tuple_addW0 l b vs.toArray us.toArray n k _ _ _ _ (by simp [hv])) ⟨g,g',.tup es,σ,Post.refl ..,ok,x2,h⟩
 ·by_cases h2:es=[]
  ·subst h2
   intro v1 v2 s ok x1 x2
   obtain ⟨l,rfl,z⟩:=SD.of_v (sd:=.tup ds) x1
   obtain ⟨b,rfl,y⟩:=SD.of_v (sd:=.tup []) x2
   obtain ⟨vs,n,g,r⟩:=z.tuple rfl
   obtain ⟨us,k,g',r'⟩:=y.tuple rfl
   have e1:vs≠[]:=fun e=>h1 (by subst e;exact List.eq_nil_of_length_eq_zero (r.length).symm)
   rw [List.append_nil] at h
   exact concat_meets ⟨_,g,rfl⟩ ⟨_,g',rfl⟩ noFill_tuple_add seq_tuple_add PySem.F.slot_tuple_add PySem.F.entry_tuple_add (PySem.F.args_tuple_add_2 _ _)
    (tuple_addW1 l b vs.toArray us.toArray n k _ _ _ _ (by simpa using e1) (by simp [(List.eq_nil_of_length_eq_zero r'.length)])) ⟨g,g',.tup ds,σ,Post.refl ..,ok,x1,h⟩
  ·exact WB.addT h1 h2 hsz h
end
noncomputable def AtSys (C:Addr)(d:D)(P:D->D->Prop):Prop:=∃sz ru,d=.sys C sz ru/\P sz ru
noncomputable def AtFld (name:Str)(sz ru:D)(P:D->Prop):Prop:=(name="size"/\P sz)\/(name="rules"/\P ru)
theorem AtSys.mk {C:Addr}{sz ru:D}{P:D->D->Prop}(h:P sz ru):AtSys C (.sys C sz ru) P:=⟨sz,ru,rfl,h⟩
theorem AtFld.size {sz ru:D}{P:D->Prop}(h:P sz):AtFld (Str.ofString "size") sz ru P:=.inl ⟨rfl,h⟩
theorem AtFld.rules {sz ru:D}{P:D->Prop}(h:P ru):AtFld (Str.ofString "rules") sz ru P:=.inr ⟨rfl,h⟩
section
variable {c:Cx} {K:Frag} {C:Addr} {cn:Str} {Bd:List Stmt} {A:Around} {fr:List Addr} {σ:Sto} {X:Addr->Sto->Prop} {Q:D->Sto->Prop} {env:Env} {m:Vars}
theorem WE.fld (S:Ks c K C cn Bd){o:Expr}{name:Str}{pos:Pos}(h:WE c A fr env m σ o (fun d σ1=>AtSys C d fun sz ru=>AtFld name sz ru fun e=>Q e σ1) X)(hb:∀w,attributeBase o name env w=w:=by intro _;rfl):WE c A fr env m σ (.Attribute o name pos) Q X:=
 WE.attr S h hb
theorem WE.mth (S:Ks c K C cn Bd){o:Expr}{name:Str}{apos pos:Pos}{args:List Expr}{n:Nat}(r:Room n A)(hf:Mth K C name)
  (h:WE c A fr env m σ o (fun d σ1=>AtSys C d fun _ _=>WA c A fr env m σ1 args (fun ds σ2=>WM c K C (Room n) name (d::ds) σ2 Q X) X) X) (h1:name≠"size":=by decide) (h2:name≠"rules":=by decide)
  (hp:plainArgs args=true:=by rfl) (hb:∀w,attributeBase o name env w=w:=by intro _;rfl) (hl:(apos.endLine==pos.line)=true:=by rfl) (hn:decide (args.length<30)=true:=by rfl):
  WE c A fr env m σ (.Call (.Attribute o name apos) args [] pos) Q X:=WE.callM S r hf h h1 h2 hp hb hl hn
end
section
variable {c:Cx} {A:Around} {fr:List Addr} {σ:Sto} {X:Addr->Sto->Prop} {Q:D->Sto->Prop}
theorem At1.isiL {sd:SD}(hL:sd.isL=true)(inv:sd.inv σ)(h:Q (.bool true) σ):At1 c A fr σ (.builtin "isinstance") [sd.d,.typ "list"] Q X:=.two fun s v u ok hv hu=>by
 subst hu
 obtain ⟨l,rfl,z⟩:=SD.of_v hv
 obtain ⟨vs,n,g,r⟩:=z.list ok inv hL
 exact call_isinstance (isinstance_true (isi_meta (by decide)) (isi_sub (t:="list") (T:="list") (by decide) (by decide))) ⟨⟨_,g,rfl⟩,⟨_,σ,Post.refl ..,ok,V.ofBool,h⟩⟩
end
end Mine
set_option maxHeartbeats 1000000
namespace Mine
open PySem PySem.Calls PyProof.Rows PySem.W
noncomputable def asgOk (sc scope:Scope)(x:Str)(p cpos:Pos):Bool:=sc.kind==.function&&sc.names.lookup x==some .local&&p.line==cpos.line&& !(scope.names.any fun (n,k)=>n==x&&(k==.local|| k==.cell))
section
variable {c:Cx} {A:Around} {fr:List Addr} {σ:Sto} {X:Addr->Sto->Prop} {Q:D->Sto->Prop} {env:Env} {m:Vars} {N:Vars->Sto->Prop} {R:D->Sto->Prop}
theorem swaps_true {sc scope:Scope}{x:Str}{p cpos:Pos}{elt:Expr}{gs:List Comprehension}{line:Nat}(hsc:env.scope=sc)(h:asgOk sc scope x p cpos=true):swapsWith (.ListComp elt gs scope cpos) (some (.Name x p)) line env=pure true:=by
 simp only [asgOk,Bool.and_eq_true,beq_iff_eq] at h
 obtain ⟨⟨⟨h1,h2⟩,h3⟩,h4⟩:=h
 have e3:(Expr.ListComp elt gs scope cpos).pos.line=cpos.line:=rfl
 unfold swapsWith
 dsimp only
 simp only [(by unfold Env.blockKind;rw [hsc,h1];rfl:env.blockKind=.function),(kindOf_of hsc h2),h3,e3,h4]
 simp
theorem swaps_cell {sc scope:Scope}{x:Str}{p cpos:Pos}{elt:Expr}{gs:List Comprehension}{line:Nat}(hsc:env.scope=sc)(h:sc.names.lookup x=some .cell):swapsWith (.ListComp elt gs scope cpos) (some (.Name x p)) line env=pure false:=by
 unfold swapsWith
 dsimp only
 simp only [(kindOf_of hsc h),show (some NameKind.cell==some NameKind.local)=false from rfl,Bool.and_false,Bool.false_and]
theorem WIt.zipX {B:List Stmt}{bs:List (Str × Value)}(T:Tp c B bs)(hh:A.handled=none){f:Str}{fp pos px py tp:Pos}{k:Nat}{e1 e2:Expr}{x y:Str}{Q:List Vars->(Sto->Prop)->Sto->Prop}(hk:env.kindOf f=some .globalImplicit)(hb:bs.lookup f=some (.type "zip"))
  (h:WE c A fr env m σ e1 (fun d1 σ1=>WE c A fr env m σ1 e2 (fun d2 σ2=>∃(α β:Type) (sd1 sd2:SD) (is:List α) (js:List β) (f1:α->D) (f2:β->D),d1=sd1.d/\d2=sd2.d/\sd1.ds=is.map f1/\sd2.ds=js.map f2/\sd1.inv σ2/\sd2.inv σ2/\Q ((is.zip js).map fun p=>[(y,f2 p.2),(x,f1 p.1)]) (fun σ'=>sd1.inv σ'/\sd2.inv σ') σ2) X) X) (hp:plainArgs [e1,e2]=true:=by rfl) (hdb:(f==("__debug__":Str))=false:=by decide):
  WIt c A fr env m σ (.Call (.Name f fp) [e1,e2] [] pos) (.Tuple [.Name x px,.Name y py] k tp) Q X:=by
 refine WIt.zip T.good hh hk (T.bn _ _ hb).1 (T.bn _ _ hb).2 (h.mono (fun d1 σ1 h1=>h1.mono (fun d2 σ2 h2=> ?_) fun _ _ x=>x) fun _ _ x=>x) hp hdb
 obtain ⟨α,β,sd1,sd2,is,js,f1,f2,a1,a2,a3,a4,a5,a6,a7⟩:=h2
 refine ⟨sd1,sd2,a1,a2,a5,a6,?_⟩
 have e:(sd1.ds.zip sd2.ds).map (fun p=>[(y,p.2),(x,p.1)])=(is.zip js).map fun p=>[(y,f2 p.2),(x,f1 p.1)]:=by
  simp only [a3,a4,List.zip_map,List.map_map];rfl
 rw [e];exact a7
theorem W1.assignC {sc:Scope}{x:Str}{pos' pos:Pos}{tg iter elt:Expr}{ifs:List Expr}{scope:Scope}{cpos:Pos}(hsc:env.scope=sc)(h:WIt c A fr env m σ iter tg (Turns c A env m scope ifs elt (QL fun d σ'=>N ((x,d)::m) σ')) X)(h1:compOk scope=true)(h2:freeOk scope sc=true)
  (h3:asgOk sc scope x pos' cpos=true) (hs:∀x,foldedSetIterable iter env x=pure x:=by intro _;rfl):
  W1 c A fr env m σ (.Assign [.Name x pos'] (.ListComp elt [⟨tg,iter,ifs,0⟩] scope cpos) pos) N R X:=by
 refine W1.assignComp h h1 (freeOk_of hsc h2) ?_ (swaps_true hsc h3) hs
 simp only [asgOk,Bool.and_eq_true,beq_iff_eq] at h3
 exact kindOf_of hsc h3.1.1.2
theorem W1.assignK {sc:Scope}{x:Str}{pos' pos:Pos}{elt:Expr}{gs:List Comprehension}{scope:Scope}{cpos:Pos}(hsc:env.scope=sc)(h:WE c A fr env m σ (.ListComp elt gs scope cpos) (fun d σ'=>N ((x,d)::m) σ') X)(hk:sc.names.lookup x=some .cell):
  W1 c A fr env m σ (.Assign [.Name x pos'] (.ListComp elt gs scope cpos) pos) N R X:=W1.assign h (.inr (kindOf_of hsc hk)) (swaps_cell hsc hk)
end
end Mine
set_option maxHeartbeats 1000000
namespace Mine
open PySem PySem.Calls PyProof.Rows PySem.W
theorem lk_of_mem {h:Heap}{a:Addr}{o:Obj}:∀{K:Frag},(∀p∈K,h.get? p.1=some p.2)->(a,o)∈K->K.lookup a=some o
 | [],_,m=>by cases m
 | (b,q)::r,hK,m=>by
  rw [List.lookup_cons]
  by_cases e:(a==b)=true
  ·rw [e]
   have e':=beq_iff_eq.mp e
   have h1:=hK (b,q) List.mem_cons_self
   have h2:=hK _ m
   dsimp only at h1 h2
   rw [e',h1] at h2
   exact h2
  ·have e':(a==b)=false:=by simpa using e
   rw [e']
   rcases List.mem_cons.mp m with z| z
   ·cases z;simp at e
   ·exact lk_of_mem (fun p hp=>hK p (List.mem_cons_of_mem _ hp)) z
theorem in_of_all {h:Heap}{K:Frag}(hK:∀p∈K,h.get? p.1=some p.2):K.In h:=fun a o e=>hK (a,o) (mem_of_lookup' e)
 where mem_of_lookup' {a:Addr} {o:Obj}:∀{K:Frag},K.lookup a=some o->(a,o)∈K
 | [],h=>by cases h
 | (b,q)::r,h=>by
  rw [List.lookup_cons] at h
  by_cases e:(a==b)=true
  ·rw [e] at h;cases h;rw [beq_iff_eq.mp e];exact List.mem_cons_self
  ·have e':(a==b)=false:=by simpa using e
   rw [e'] at h;exact List.mem_cons_of_mem _ (mem_of_lookup' h)
theorem gather {h:Heap}{c:ClsRec}{C N:Addr}{mN:Str->Option Value}(P:PlainAt h c C N mN):∃fs:Frag,(∀p∈fs,h.get? p.1=some p.2)/\∀m∈c.meths,∃f o pm cd doc,mN m.name=some (.ref f)/\(f,o)∈fs/\o.cls=.type "function"/\
  o.data=.func (methDef m.name (c.name++"."++m.name) m.params m.body m.scope pm cd doc)/\h.CodeRec cd (c.name++"."++m.name):=by
 have:∀l:List MethRec,(∀m∈l,m∈c.meths)->∃fs:Frag,(∀p∈fs,h.get? p.1=some p.2)/\∀m∈l,∃f o pm cd doc,mN m.name=some (.ref f)/\(f,o)∈fs/\o.cls=.type "function"/\
   o.data=.func (methDef m.name (c.name++"."++m.name) m.params m.body m.scope pm cd doc)/\h.CodeRec cd (c.name++"."++m.name):=by
  intro l
  induction l with
  | nil=>exact fun _=>⟨[],(fun _ h=>by cases h),(fun _ h=>by cases h)⟩
  | cons m l ih=>
   intro hl
   obtain ⟨fs,h1,h2⟩:=ih fun x hx=>hl x (List.mem_cons_of_mem _ hx)
   obtain ⟨f,o,pm,cd,doc,g1,g2,g3,g4,g5⟩:=P.meths m (hl m List.mem_cons_self)
   refine ⟨(f,o)::fs,fun p hp=> ?_,fun x hx=> ?_⟩
   ·rcases List.mem_cons.mp hp with rfl| hp
    ·exact g2
    ·exact h1 p hp
   ·rcases List.mem_cons.mp hx with rfl| hx
    ·exact ⟨f,o,pm,cd,doc,g1,List.mem_cons_self,g3,g4,g5⟩
    ·obtain ⟨f',o',pm',cd',doc',k1,k2,k3⟩:=h2 x hx
     exact ⟨f',o',pm',cd',doc',k1,List.mem_cons_of_mem _ k2,k3⟩
 exact this c.meths fun _ h=>h
noncomputable def shapeM (m:MethRec):Str × Arguments × List Stmt × Scope:=(m.name,m.params,m.body,m.scope)
noncomputable def shapeR (d:PySem.DefRec):Str × Arguments × List Stmt × Scope:=(d.name,d.params,d.body,d.scope)
theorem Ks.ofPlain {c:Cx}{cr:ClsRec}{C N:Addr}{mN:Str->Option Value}{cn:Str}{Bd:List Stmt}(P:PlainAt c.h0 cr C N mN)(hname:c.mg cn=some (.ref C))(hst:(cr.statics.contains ("size":Str)&&cr.statics.contains ("rules":Str))=true)
  (hm:cr.meths.map shapeM=(Bd.filterMap recOf).map shapeR):∃K,Ks c K C cn Bd:=by
 obtain ⟨nm,q,bs,sn,sub,col,dd,k0,k1,k2,k3,k5,hC⟩:=P.cls.obj
 obtain ⟨oN,es,ep,gN,hdN,hkN,hfN⟩:=P.cls.ns
 obtain ⟨fs,hfs,hmeth⟩:=gather P
 let K:Frag:=(C,excClassObj nm q C N bs [.type "object"] true sn sub false col dd k0 k1 k2 k3 k5 "object.__new__")::(N,oN)::fs
 have hK:∀p∈K,c.h0.get? p.1=some p.2:=fun p hp=>by
  rcases List.mem_cons.mp hp with rfl| hp
  ·exact hC
  ·rcases List.mem_cons.mp hp with rfl| hp
   ·exact gN
   ·exact hfs p hp
 have lC:K.lookup C=some (excClassObj nm q C N bs [.type "object"] true sn sub false col dd k0 k1 k2 k3 k5 "object.__new__"):=lk_of_mem hK List.mem_cons_self
 have lN:K.lookup N=some oN:=lk_of_mem hK (List.mem_cons_of_mem _ List.mem_cons_self)
 have hns:∀x,nsIn K N x=some (mN x):=fun x=>by
  have:=lookIn_of hdN hkN hfN x
  unfold nsIn
  rw [lN]
  obtain ⟨oc,od,odt,osl⟩:=oN
  dsimp only at hdN
  subst hdN
  exact this
 have hown:∀x,ownIn K x (.ref C)=some (mN x):=fun x=>by
  show (match K.lookup C with
   | some ⟨_,_,.cls cd,_⟩=>nsIn K cd.ns x
   | _=>none)=_
  rw [lC]
  exact hns x
 have hfind:∀x,findIn K (.ref C) x=match mN x with
   | some v=>some (some v)
   | none=>some (fastBuiltinOwn "object" x):=fun x=>by
  show (match K.lookup C with
   | some ⟨_,_,.cls cd,_⟩=>alongIn K x cd.mro
   | _=>none)=_
  rw [lC]
  show alongIn K x [.ref C,.type "object"]=_
  unfold alongIn
  rw [hown]
  cases mN x with
  | some v=>rfl
  | none=>
   show alongIn K x [.type "object"]=_
   unfold alongIn ownIn
   dsimp only
   cases fastBuiltinOwn "object" x<;>rfl
 have quiet:∀x∈cr.quiet,findIn K (.ref C) x=some (fastBuiltinOwn "object" x):=fun x hx=>by rw [hfind,P.quiet x hx]
 have hst':=Bool.and_eq_true_iff.mp hst
 have inQ:∀x,cr.statics.contains x=true->x∈cr.quiet:=fun x hx=>List.mem_append_right _ (by simpa using hx)
 obtain ⟨cd,hcls,hcd1,hcd2⟩:∃cd,clsIn K C=some cd/\cd.hasDict=true/\onlyObject cd.mro=true:=⟨_,by unfold clsIn;rw [lC],rfl,rfl⟩
 have htype:typeIn K (.ref C)=some (.type "type"):=by show (K.lookup C).map (·.cls)=_;rw [lC];rfl
 refine ⟨K,in_of_all hK,hname,?_,?_,?_,?_,?_,?_,?_,?_,?_,fun d hd=> ?_⟩
 ·rw [quiet _ (List.mem_append_left _ (by decide))];kernel_rfl
 ·rw [quiet _ (List.mem_append_left _ (by decide))];kernel_rfl
 ·unfold hasDictIn;rw [hcls];exact hcd1
 ·unfold makesIn
  rw [lC]
  have e1:specialIn K (.ref C) "__call__"=some (some (.builtin "type.__call__")):=by
   unfold specialIn;rw [htype];kernel_rfl
  have e2:instIn K (.ref C) (.type "type")=some true:=by
   unfold instIn;rw [htype];kernel_rfl
  show (!false&& !false&&_&&_&&_&&_&&(specialIn K (.ref C) "__call__"==some (some (.builtin "type.__call__")))&&(instIn K (.ref C) (.type "type")==some true))=true
  rw [e1,e2]
  simp
 ·unfold keepIn
  dsimp only
  rw [lC]
  show (specialIn K (.ref C) "__call__"==some (some (.builtin "type.__call__")))=true
  unfold specialIn;rw [htype];kernel_rfl
 ·unfold plainOver;rw [hcls];exact hcd2
 ·rw [quiet _ (List.mem_append_left _ (by decide))];kernel_rfl
 ·rw [quiet _ (inQ _ hst'.1)];kernel_rfl
 ·rw [quiet _ (inQ _ hst'.2)];kernel_rfl
 ·have:shapeR d∈cr.meths.map shapeM:=by rw [hm];exact List.mem_map_of_mem hd
  obtain ⟨m,hm1,hm2⟩:=List.mem_map.mp this
  obtain ⟨f,o,pm,cd,doc,g1,g2,g3,g4,g5⟩:=hmeth m hm1
  obtain ⟨mn,mp,mb,ms⟩:=m
  obtain ⟨dn,dp,db,ds,dpos⟩:=d
  simp only [shapeM,shapeR,Prod.mk.injEq] at hm2
  obtain ⟨rfl,rfl,rfl,rfl⟩:=hm2
  have lf:K.lookup f=some o:=lk_of_mem hK (List.mem_cons_of_mem _ (List.mem_cons_of_mem _ g2))
  refine ⟨f,o,pm,cd,doc,_,by rw [hfind];dsimp only at g1⊢;rw [g1],?_,?_,hfs _ g2,g4,g5⟩
  ·show (K.lookup f).map (·.cls)=_;rw [lf];exact congrArg some g3
  ·unfold keepIn;dsimp only;rw [lf]
   obtain ⟨oc,od,odt,osl⟩:=o
   dsimp only at g4
   subst g4
   rfl
theorem Gi.ofTop {c:Cx}{p:Program}{loose:List Str}{mean:ExcName->Option Value}{gs:List (Str × Int)}(T:Top p loose mean c.mg c.mb c.h0)(h:gs.map (fun q=>valOf p q.1)=gs.map fun q=>some (.int q.2)):Gi c gs:=fun x i e=>by
 have hm:=mem_of_lookup e
 have:=List.map_inj_left.mp h (x,i) hm
 obtain ⟨v,h1,h2⟩:=T.const x _ this
 have r:=h2 c.h0
 cases r
 exact ⟨_,h1⟩
noncomputable def shapeC (cr:ClsRec):Str × Bool × List (Str × Arguments × List Stmt × Scope):=(cr.name,cr.withCmp.statics.contains ("size":Str)&&cr.withCmp.statics.contains ("rules":Str),cr.withCmp.meths.map shapeM)
theorem Ks.ofTop {c:Cx}{view:Program}{loose:List Str}{cn:Str}{Bd:List Stmt}(TE:TopE view loose c.mg c.h0)(i:Nat)(h:((plainsOf view loose)[i]?).map shapeC=some (cn,true,(Bd.filterMap recOf).map shapeR)):∃K C,Ks c K C cn Bd:=by
 obtain ⟨cr,h1,h2⟩:=Option.map_eq_some_iff.mp h
 simp only [shapeC,Prod.mk.injEq] at h2
 obtain ⟨rfl,h4,h5⟩:=h2
 obtain ⟨C,N,mN,hC,P⟩:=TE cr (List.mem_of_getElem? h1)
 obtain ⟨K,S⟩:=Ks.ofPlain P hC h4 h5
 exact ⟨K,C,S⟩
end Mine
set_option maxHeartbeats 1000000
set_option maxRecDepth 100000
namespace Mine
open PySem PySem.Calls PyProof.Rows PySem.W
section
variable {c:Cx} {K:Frag} {A:Around} {fr:List Addr} {σ σ1 σ2:Sto} {X:Addr->Sto->Prop} {Q:D->Sto->Prop} {env:Env} {m:Vars} {es:List (Str × Addr × List Value)} {N:Vars->Sto->Prop} {R:D->Sto->Prop}
theorem At1.abs {a:Int}(h:Q (.int (if a<0 then-a else a)) σ):At1 c A fr σ (.builtin "abs") [.int a] Q X:=.one fun s v ok hv=>by
 obtain ⟨t,rfl⟩:=hv.toInt
 exact call_abs_int fun u tk=>⟨_,σ,Post.tok ..,ok,V.ofInt,h⟩
theorem set_exact {prog:Program}{w:World}{E:Value->Shared->Prop}{s:Shared}{l:Addr}{vs:List Value}{n:Nat}{j:Nat}{k:Int}{t:Tok}{v:Value}{P:Unit->Shared->Prop}(g:s.heap.get? l=some (lstObj vs n))(hk:k=(j:Int))(hfit:k<2^63)(hj:j<vs.length)
  (hP:∀n' h',h'.get? l=some (lstObj (vs.set j v) n')->(∀b ob,b≠l->s.heap.get? b=some ob->h'.get? b=some ob)->P () {s with heap:=h'}):
  wpAny (model prog w) A (setItem (.ref l) (.int k t) v) P E s:=by
 have hl:s.heap.IsList l vs.toArray:=⟨_,g,rfl,n,rfl⟩
 unfold setItem
 try with_reducible refine wpAny_holding ?_
 first| refine wpAny_bind (wpAny_pure ?_)| skip
 refine wpAny_bind (wpAny_sequenceKey hl.typeIs (by decide) ?_)
 refine wpAny_bind (wpAny_callSpecial?_slot (name:=Str.ofString "__setitem__") hl.typeIs slot_list_setitem
  (wpAny_call_entry slot_list_setitem hl.typeIs entry_list_setitem ?_ (args_list_setitem _ _ _)))
 show wpAny _ _ (Builtin.List.listSubscript? (.int k t)>>=_) _ _ s
 refine wpAny_bind (wpAny_listSubscript_int (fitsIndex_of (z979 hk) hfit) ?_)
 clear hfit
 subst hk
 have hx':vs.toArray[j]? =some vs[j]:=by simp [hj]
 show wpAny _ _ ((seqItemAt l j>>=fun r=>pure (r.map (j,·)))>>=_) _ _ s
 refine wpAny_bind (wpAny_bind (wpAny_seqItemAt g rfl (wpAny_pure ?_)))
 rw [hx']
 show wpAny _ _ (setSeqItemAt l j v>>=_) _ _ s
 have e:=IsL.update (h:=s.heap) (l:=l) (items:=vs.toArray) (n:=n) g (·.setIfInBounds j v)
 have e2:vs.toArray.setIfInBounds j v=(vs.set j v).toArray:=by simp
 rw [e2] at e
 have fin:=hP _ _ e fun b ob hne eb=>by rw [Heap.get?_update_ne _ _ _ _ hne];exact eb
 refine wpAny_bind (wpAny_setSeqItemAt g rfl ?_)
 first
  | exact wpAny_bind (wpAny_pure (wpAny_pure ⟨.none,rfl,wpAny_pure fin⟩))
  | exact wpAny_pure ⟨.none,rfl,wpAny_pure fin⟩
theorem Vs.set {Kk:List Addr}{h:Heap}:∀{ds:List D} {vs:List Value} {d:D} {v:Value} (j:Nat),Vs Kk h ds vs->V Kk h d v->Vs Kk h (ds.set j d) (vs.set j v)
 | [],_,_,_,j,x,y=>by unfold Vs at x;subst x;simpa using Vs.nil
 | e::ds,_,d,v,0,x,y=>by unfold Vs at x;obtain ⟨u,r,rfl,p,q⟩:=x;exact .cons y q
 | e::ds,_,d,v,j+1,x,y=>by unfold Vs at x;obtain ⟨u,r,rfl,p,q⟩:=x;exact .cons p (q.set j y)
theorem W1.setL {o i value:Expr}{pos' pos:Pos}
  (h:WE c A fr env m σ value (fun dv τ1=>WE c A fr env m τ1 o (fun d τ2=>WE c A fr env m τ2 i (fun di τ3=>∃(a:Addr) (ds:List D) (j:Nat) (σa σb:Sto),d=.ref a/\di=.int j/\τ3=σa++(a,.lst ds)::σb/\j<ds.length/\(j:Int)<2^63/\N m (σa++(a,.lst (ds.set j dv))::σb)) X) X) X)
  (hs:swapsWith value (some (.Subscript o i pos')) pos.line env=pure false):W1 c A fr env m σ (.Assign [.Subscript o i pos'] value pos) N R X:=fun s ok fm=>by
 refine wpAny_Assign_Subscript (wpAny_mono (h s ok fm) (fun v s1 hx=> ?_) fun _ _ x=>x.wide fm) hs
 obtain ⟨dv,τ1,p1,ok1,x1,q1⟩:=hx
 refine wpAny_mono (q1 s1 ok1 (fm.move p1)) (fun ov s2 hx=> ?_) fun _ _ x=>(Ex.back (G:=none) p1 x fun _ _ y=>y).wide fm
 obtain ⟨d,τ2,p2,ok2,x2,q2⟩:=hx
 refine wpAny_mono (q2 s2 ok2 ((fm.move p1).move p2)) (fun iv s3 hx=> ?_) fun _ _ x=>(Ex.back (G:=none) (p1.trans p2) x fun _ _ y=>y).wide fm
 obtain ⟨di,τ3,p3,ok3,x3,a,ds,j,σa,σb,rfl,rfl,rfl,hj,hf,q⟩:=hx
 obtain ⟨t,rfl⟩:=x3.toInt
 have x2':=p3.v x2
 unfold V at x2';subst x2'
 have ha:a∈keys (σa++(a,O.lst ds)::σb):=by simp [keys]
 have nfr:a∉fr:=fun z=>(List.nodup_append.mp ok3.nd).2.2 a ha a z rfl
 obtain ⟨vs,n,g,r⟩:=ok3.sto (a,O.lst ds) (by simp)
 refine set_exact g rfl hf (by rw [r.length];exact hj) fun n' h' g' k'=> ?_
 have pp:Post [] fr (σa++(a,.lst ds)::σb) s3 {s3 with heap:=h'} (σa++(a,.lst (ds.set j dv))::σb):=Post.put (tk:=s3.toks) nfr k' ⟨_,g'⟩
 have st:Stay (keys (σa++(a,O.lst ds)::σb)++fr) s3.heap h':=fun b ob nb e=>k' b ob (fun z=>nb (by rw [z];exact List.mem_append_left _ ha)) e
 have hv:V (keys (σa++(a,O.lst ds)::σb)++fr) s3.heap dv v:=p3.v (p2.v x1)
 refine ⟨.next m,_,(((p1.trans p2).trans p3).trans pp).wide (by simp),ok3.put k' ⟨_,n',g',?_⟩,⟨rfl,(((fm.move p1).move p2).move p3).move pp⟩,q⟩
 exact Vs.move st (fun _ z=>.inl z) _ _ (Vs.set j r hv)
end
end Mine
namespace Mine
open PySem PySem.Calls PyProof.Rows
section
variable {c:Cx} {A:Around} {fr:List Addr} {σ:Sto} {X:Addr->Sto->Prop} {Q:D->Sto->Prop} {env:Env} {m:Vars} {N:Vars->Sto->Prop} {R:D->Sto->Prop}
theorem W1.unpack2 {x y:Str}{px py tp pos:Pos}{k:Nat}{value:Expr}(hh:A.handled=none)(h:WE c A fr env m σ value (fun d σ'=>∃d1 d2,d=.tup [d1,d2]/\N ((y,d2)::(x,d1)::m) σ') X)
  (hk1:env.kindOf x=some .local\/env.kindOf x=some .cell) (hk2:env.kindOf y=some .local\/env.kindOf y=some .cell)
  (hs:swapsWithSole [.Tuple [.Name x px,.Name y py] k tp] value pos.line env=pure false:=by rfl) (hw:swappedStores [.Tuple [.Name x px,.Name y py] k tp] value env=pure none:=by rfl):
  W1 c A fr env m σ (.Assign [.Tuple [.Name x px,.Name y py] k tp] value pos) N R X:=fun s ok fm=>by
 refine Assign_Tuple (wpAny_mono (h s ok fm) (fun v s1 hx=> ?_) fun _ _ x=>x.wide fm) hs hw
 obtain ⟨d,σ1,p,ok0,x1,d1,d2,rfl,q⟩:=hx
 have f:=fm.move p
 unfold V at x1
 obtain ⟨T,vs,n,rfl,hT,g,hv⟩:=x1
 unfold Vs at hv
 obtain ⟨v1,r,rfl,hV1,hv⟩:=hv
 unfold Vs at hv
 obtain ⟨v2,r,rfl,hV2,hv⟩:=hv
 unfold Vs at hv;subst hv
 refine wpAny_assign_Tuple hh (items:= #[v1,v2]) ⟨_,g,rfl,_,rfl⟩ rfl rfl fun h1 he1=> ?_
 have k1:∀b o,s1.heap.get? b=some o->h1.get? b=some o:=fun b o e=>he1 b o (heap_ne e) e
 have ok1:=ok0.keeps k1
 have p1:Post [] fr σ1 s1 {s1 with heap:=h1,toks:=s1.toks} σ1:=Post.keeps k1
 have f1:Fm env m fr (keys σ1++fr) h1:=Fm.move (s:=s1) (s':={s1 with heap:=h1,toks:=s1.toks}) f p1
 have fin:∀a,a∈tight env x\/a∈tight env y->a∈Fa env:=fun a ha=>by
  have key:∀z,a∈tight env z->a∈Fa env:=fun z hz=>by
   rcases tight_mem hz with e| ⟨_,e⟩
   ·rw [e];exact List.mem_cons_self
   ·exact List.mem_cons_of_mem _ (List.mem_map_of_mem (f:=(·.2)) (mem_of_lookup e))
  exact ha.elim (key x) (key y)
 show wpAny _ _ (holding [v2] (PySem.assign (.Name x px) env v1)>>=fun _=>assignInOrder [PySem.assign (.Name y py) env] [v2]) _ _ _
 refine wpAny_bind (wpAny_holding (wpAny_assign_Name ?_))
 refine store_fine (F:=Fa env) (s:={s1 with heap:=h1}) ok1 f1 (V.move p1.stay p1.less _ _ hV1) hk1 ⟨fun z=>fin _ (.inl (tight_ok.1 z)),fun z cc e=>fin _ (.inl (tight_ok.2 z cc e))⟩ fun h2 tk2 fm2 ok2 p2=> ?_
 show wpAny _ _ (holding [] (PySem.assign (.Name y py) env v2)>>=fun _=>assignInOrder [] []) _ _ _
 refine wpAny_bind (wpAny_holding (wpAny_assign_Name ?_))
 refine store_fine (F:=Fa env) (s:={s1 with heap:=h2,toks:=tk2}) ok2 fm2 (V.move p2.stay p2.less _ _ (V.move p1.stay p1.less _ _ hV2)) hk2 ⟨fun z=>fin _ (.inr (tight_ok.1 z)),fun z cc e=>fin _ (.inr (tight_ok.2 z cc e))⟩ fun h3 tk3 fm3 ok3 p3=> ?_
 exact wpAny_pure ⟨.next _,σ1,((((p.trans p1).wide (by simp)).trans p2).trans p3),ok3,⟨rfl,fm3⟩,q⟩
end
end Mine
namespace Mine
theorem ln2 {α:Type}{l:List α}(h:l.length=2):∃a b,l=[a,b]:=by
 obtain ⟨a,t,rfl⟩:=List.exists_cons_of_length_eq_add_one h
 obtain ⟨b,rfl⟩:=List.length_eq_one_iff.mp (Nat.succ.inj h)
 exact ⟨a,b,rfl⟩
theorem ln01 {α:Type}{l:List α}(h:l.length<=1):l=[]\/∃a,l=[a]:=
 (Nat.le_one_iff_eq_zero_or_eq_one.mp h).imp List.length_eq_zero_iff.mp List.length_eq_one_iff.mp
theorem nabs {t:Int}{m:Nat}(h:t.natAbs<=m): -(m:Int)<=t/\t<=m:=
 ⟨Int.neg_le_of_neg_le (Int.le_trans Int.le_natAbs (Int.ofNat_le.mpr ((Int.natAbs_neg t).symm▸h))),Int.le_trans Int.le_natAbs (Int.ofNat_le.mpr h)⟩
noncomputable def dot (ws xs:List Int):Int:=((ws.zip xs).map fun q=>q.1*q.2).sum
noncomputable def wor (E:List (List Int))(v:List Int):List Int:=E.map fun e=>dot e v
noncomputable def addR (a b:List Int):List Int:=(a.zip b).map fun q=>q.1+q.2
noncomputable def unitR (n:Nat)(p:Int):List Int:=(List.range n).map fun (i:Nat)=>if ((i:Int)==p)=true then (1:Int) else 0
noncomputable def inR (a b:List Int):Bool:=(a.zip b).all fun q=>decide (q.1<=q.2)
noncomputable def subR (a b:List Int):List Int:=(a.zip b).map fun q=>q.1-q.2
theorem dot_nil_l (x:List Int):dot [] x=0:=rfl
theorem dot_nil_r (x:List Int):dot x []=0:=by cases x<;>rfl
theorem dot_cons (a b:Int)(x y:List Int):dot (a::x) (b::y)=a*b+dot x y:=by rfl
theorem addR_len {a b:List Int}{n:Nat}(ha:a.length=n)(hb:b.length=n):(addR a b).length=n:=by simp [addR,ha,hb]
theorem subR_len {a b:List Int}{n:Nat}(ha:a.length=n)(hb:b.length=n):(subR a b).length=n:=by simp [subR,ha,hb]
theorem unitR_len (n:Nat)(p:Int):(unitR n p).length=n:=by simp [unitR]
theorem addR_get {a b:List Int}(h:a.length=b.length)(i:Nat):(addR a b).getD i 0=a.getD i 0+b.getD i 0:=by
 induction a generalizing b i with
 | nil=>cases b<;>simp [addR] at h⊢
 | cons x a ih=>
  cases b with
  | nil=>contradiction
  | cons y b=>
   cases i with
   | zero=>rfl
   | succ i=>simpa [addR] using ih (by simpa using h) i
theorem subR_get {a b:List Int}(h:a.length=b.length)(i:Nat):(subR a b).getD i 0=a.getD i 0-b.getD i 0:=by
 induction a generalizing b i with
 | nil=>cases b<;>simp [subR] at h⊢
 | cons x a ih=>
  cases b with
  | nil=>contradiction
  | cons y b=>
   cases i with
   | zero=>rfl
   | succ i=>simpa [subR] using ih (by simpa using h) i
theorem unitR_get (n:Nat)(p:Nat)(i:Nat)(hi:i<n):(unitR n p).getD i 0=if i=p then 1 else 0:=by
 simp [unitR,hi,Int.ofNat_inj]
theorem ext_get {a b:List Int}(h:a.length=b.length)(e:∀i,i<a.length->a.getD i 0=b.getD i 0):a=b:=by
 apply List.ext_getElem h
 intro i h1 h2
 simpa [List.getD_eq_getElem?_getD,h1,h2] using (e i h1)
theorem mem_get {a:List Int}{x:Int}(h:x∈a):∃i,i<a.length/\a.getD i 0=x:=by
 obtain ⟨i,hi,e⟩:=List.mem_iff_getElem.mp h
 exact ⟨i,hi,by simp [hi,e]⟩
theorem get_mem {a:List Int}{i:Nat}(h:i<a.length):a.getD i 0∈a:=by
 simp [h]
theorem inR_iff {a b:List Int}(h:a.length=b.length):inR a b=true↔∀i,a.getD i 0<=b.getD i 0:=by
 induction a generalizing b with
 | nil=>cases b<;>simp [inR] at h⊢
 | cons x a ih=>
  cases b with
  | nil=>contradiction
  | cons y b=>
   have ih:=ih (b:=b) (by simpa using h)
   simp only [inR,List.zip_cons_cons,List.all_cons,Bool.and_eq_true,decide_eq_true_eq] at ih⊢
   rw [ih]
   constructor
   ·intro ⟨h1,h2⟩ i
    cases i with
    | zero=>trivial
    | succ i=>exact h2 i
   ·intro h
    exact ⟨by exact h 0,fun i=>by exact h (i+1)⟩
noncomputable def sumN (n:Nat)(f:Nat->Int):Int:=((List.range n).map f).sum
theorem sumN_zero (f:Nat->Int):sumN 0 f=0:=rfl
theorem sumN_succ (n:Nat)(f:Nat->Int):sumN (n+1) f=sumN n f+f n:=by
 simp [sumN,List.range_succ]
theorem sumN_succ' (n:Nat)(f:Nat->Int):sumN (n+1) f=f 0+sumN n (fun i=>f (i+1)):=by
 simp [sumN,List.range_succ_eq_map,Function.comp_def]
theorem sumN_congr {n:Nat}{f g:Nat->Int}(h:∀i,i<n->f i=g i):sumN n f=sumN n g:=by
 induction n with
 | zero=>rfl
 | succ n ih=>simp only [sumN_succ,sumN_succ,ih fun i hi=>h i (z0 hi),h n (by simp)]
theorem sumN_add (n:Nat)(f g:Nat->Int):sumN n (fun i=>f i+g i)=sumN n f+sumN n g:=by
 induction n with
 | zero=>rfl
 | succ n ih=>simp only [sumN_succ,ih];exact z1
theorem sumN_mul (n:Nat)(a:Int)(f:Nat->Int):sumN n (fun i=>a*f i)=a*sumN n f:=by
 induction n with
 | zero=>simp [sumN]
 | succ n ih=>simp only [sumN_succ,ih,Int.mul_add]
theorem sumN_const0 (n:Nat):sumN n (fun _=>0)=0:=by
 induction n with
 | zero=>rfl
 | succ n ih=>rw [sumN_succ,ih];decide
theorem sumN_neg_some {n:Nat}{f:Nat->Int}(h:sumN n f<0):∃i,i<n/\f i<0:=by
 induction n with
 | zero=>simp [sumN] at h
 | succ n ih=>
  rw [sumN_succ] at h
  by_cases h1:f n<0
  ·exact ⟨n,by simp,h1⟩
  ·obtain ⟨i,hi,e⟩:=ih (z2 h h1);exact ⟨i,z0 hi,e⟩
theorem sumN_mono {n:Nat}{f g:Nat->Int}(h:∀i,i<n->f i<=g i):sumN n f<=sumN n g:=by
 induction n with
 | zero=>simp [sumN]
 | succ n ih=>simp only [sumN_succ,sumN_succ];have:=ih fun i hi=>h i (z0 hi);have:=h n (by simp);exact z3 this ‹_›
theorem sumN_eq_of_le {n:Nat}{f g:Nat->Int}(h:∀i,i<n->f i<=g i)(e:sumN n g<=sumN n f):∀i,i<n->f i=g i:=by
 induction n with
 | zero=>intro i hi;exact (z4 hi).elim
 | succ n ih=>
  simp only [sumN_succ,sumN_succ] at e
  have h1:=sumN_mono (n:=n) fun i hi=>h i (z0 hi)
  have h2:=h n (by simp)
  intro i hi
  by_cases q:i=n
  ·lia
  ·exact ih (fun i hi=>h i (z0 hi)) (z5 e h2) i (z6 hi q)
theorem sum_eq_sumN (v:List Int):v.sum=sumN v.length (fun i=>v.getD i 0):=by
 induction v with
 | nil=>rfl
 | cons x v ih=>simp only [List.length_cons,sumN_succ',List.sum_cons,ih];rfl
theorem dot_eq_sumN {e v:List Int}(h:e.length=v.length):dot e v=sumN v.length (fun i=>e.getD i 0*v.getD i 0):=by
 induction v generalizing e with
 | nil=>rw [dot_nil_r];rfl
 | cons x v ih=>
  cases e with
  | nil=>contradiction
  | cons y e=>simp only [dot_cons,ih (by simpa using h),List.length_cons,sumN_succ'];rfl
theorem dot_addR {e a b:List Int}(h:a.length=b.length):dot e (addR a b)=dot e a+dot e b:=by
 induction a generalizing e b with
 | nil=>cases b<;>simp [addR,dot_nil_r] at h⊢
 | cons x a ih=>
  cases b with
  | nil=>contradiction
  | cons y b=>
   cases e with
   | nil=>rfl
   | cons z e=>
    have:addR (x::a) (y::b)=(x+y)::addR a b:=by rfl
    simp only [this,dot_cons,dot_cons,dot_cons,ih (by simpa using h),Int.mul_add];exact z1
theorem dot_subR {e a b:List Int}(h:a.length=b.length):dot e (subR a b)=dot e a-dot e b:=by
 induction a generalizing e b with
 | nil=>cases b<;>simp [subR,dot_nil_r] at h⊢
 | cons x a ih=>
  cases b with
  | nil=>contradiction
  | cons y b=>
   cases e with
   | nil=>rfl
   | cons z e=>
    have:subR (x::a) (y::b)=(x-y)::subR a b:=by rfl
    simp only [this,dot_cons,dot_cons,dot_cons,ih (by simpa using h),Int.mul_sub];exact z7
theorem sum_addR {a b:List Int}(h:a.length=b.length):(addR a b).sum=a.sum+b.sum:=by
 induction a generalizing b with
 | nil=>cases b<;>simp [addR] at h⊢
 | cons x a ih=>
  cases b with
  | nil=>contradiction
  | cons y b=>
   have:addR (x::a) (y::b)=(x+y)::addR a b:=by rfl
   simp only [this,ih (by simpa using h),List.sum_cons];exact z1
theorem sum_subR {a b:List Int}(h:a.length=b.length):(subR a b).sum=a.sum-b.sum:=by
 induction a generalizing b with
 | nil=>cases b<;>simp [subR] at h⊢
 | cons x a ih=>
  cases b with
  | nil=>contradiction
  | cons y b=>
   have:subR (x::a) (y::b)=(x-y)::subR a b:=by rfl
   simp only [this,ih (by simpa using h),List.sum_cons];exact z7
theorem sumN_one {n p:Nat}(hp:p<n)(f:Nat->Int):sumN n (fun i=>f i*if i=p then 1 else 0)=f p:=by
 induction n with
 | zero=>exact (z4 hp).elim
 | succ n ih=>
  rw [sumN_succ]
  by_cases q:p=n
  ·subst q
   have:sumN p (fun i=>f i*if i=p then 1 else 0)=0:=by
    exact (sumN_congr fun i hi=>by rw [if_neg (z8 hi),Int.mul_zero]).trans (sumN_const0 p)
   lia
  ·rw [ih (z6 hp q),if_neg (fun h=>q h.symm),Int.mul_zero,Int.add_zero]
theorem dot_unit {e:List Int}{n p:Nat}(he:e.length=n)(hp:p<n):dot e (unitR n p)=e.getD p 0:=by
 rw [dot_eq_sumN (by exact (he ..).trans (unitR_len ..).symm),unitR_len]
 simp only [<-sumN_one hp (fun i=>e.getD i 0)]
 exact sumN_congr fun i hi=>by exact congrArg _ (unitR_get n p i hi ..)
theorem sum_unit {n p:Nat}(hp:p<n):(unitR n p).sum=1:=by
 rw [sum_eq_sumN,unitR_len]
 rw [<-sumN_one hp (fun _=>(1:Int))]
 exact sumN_congr fun i hi=>by rw [unitR_get n p i hi];simp
theorem dot_wor {E:List (List Int)}{n:Nat}(hE:∀e∈E,e.length=n){d:List Int}(hd:d.length=n)(w:List Int):dot w (wor E d)=sumN n (fun j=>d.getD j 0*dot w (wor E (unitR n j))):=by
 induction E generalizing w with
 | nil=>
  have:∀x:List Int,dot w (wor [] x)=0:=fun x=>dot_nil_r w
  rw [this]
  exact (sumN_const0 n ..).symm.trans (sumN_congr fun i hi=>by rw [this,Int.mul_zero])
 | cons e E ih=>
  cases w with
  | nil=>
   rw [dot_nil_l,<-sumN_const0 n]
   exact sumN_congr fun i hi=>by simp only [dot_nil_l,Int.mul_zero]
  | cons a w=>
   have step:∀x,dot (a::w) (wor (e::E) x)=a*dot e x+dot w (wor E x):=fun x=>dot_cons _ _ _ _
   have he:=hE e (.head _)
   rw [step,ih (fun e h=>hE e (.tail _ h)),dot_eq_sumN (by exact (he ..).trans (hd ..).symm),hd,<-sumN_mul,<-sumN_add]
   refine sumN_congr fun j hj=> ?_
   simp only [step,dot_unit he hj,Int.mul_add]
   congr 1
   exact (Int.mul_assoc ..).symm.trans (Int.mul_comm _ (d.getD j 0) ..)
theorem wor_addR {E:List (List Int)}{a b:List Int}(h:a.length=b.length):wor E (addR a b)=addR (wor E a) (wor E b):=by
 induction E with
 | nil=>rfl
 | cons e E ih=>
  simp only [wor,List.map_cons] at ih⊢
  rw [ih,dot_addR h]
  rfl
theorem wor_subR {E:List (List Int)}{a b:List Int}(h:a.length=b.length):wor E (subR a b)=subR (wor E a) (wor E b):=by
 induction E with
 | nil=>rfl
 | cons e E ih=>
  simp only [wor,List.map_cons] at ih⊢
  rw [ih,dot_subR h]
  rfl
theorem wor_len (E:List (List Int))(v:List Int):(wor E v).length=E.length:=by simp [wor]
theorem sq_nonneg (a:Int):0<=a*a:=by
 rcases Int.le_total 0 a with h| h
 ·exact Int.mul_nonneg h h
 ·have:=Int.mul_nonneg (Int.neg_nonneg_of_nonpos h) (Int.neg_nonneg_of_nonpos h);rwa [Int.neg_mul_neg] at this
theorem dot_self_nonneg (w:List Int):0<=dot w w:=by
 induction w with
 | nil=>exact Int.le_refl _
 | cons a w ih=>rw [dot_cons];have:=sq_nonneg a;exact z9 ih this
theorem dot_self_zero {w:List Int}(h:dot w w<=0):∀x∈w,x=0:=by
 induction w with
 | nil=>intro x hx;cases hx
 | cons a w ih=>
  rw [dot_cons] at h
  have h1:=sq_nonneg a
  have h2:=dot_self_nonneg w
  intro x hx
  rcases List.mem_cons.mp hx with rfl| hx
  ·have:x*x=0:=z10 h2 h1 h
   rcases Int.mul_eq_zero.mp this with h| h<;>exact h
  ·exact ih (z11 h1 h) x hx
theorem dot_comm (a b:List Int):dot a b=dot b a:=by
 induction a generalizing b with
 | nil=>exact (dot_nil_l ..).trans (dot_nil_r ..).symm
 | cons x a ih=>
  cases b with
  | nil=>rfl
  | cons y b=>simp only [dot_cons,dot_cons,ih,Int.mul_comm]
structure Row (n:Nat)(v:List Int):Prop where
 len:v.length=n
 pos:∀i,0<=v.getD i 0
noncomputable def Even (E:List (List Int))(v:List Int):Prop:=∀x∈wor E v,x=0
theorem Row.of {n:Nat}{v:List Int}(h:v.length=n)(p:∀x∈v,0<=x):Row n v:=⟨h,fun i=>by
 by_cases q:i<v.length
 ·exact p _ (get_mem q)
 ·rw [List.getD_eq_getElem?_getD,List.getElem?_eq_none (z12 q)];exact Int.le_refl _⟩
theorem Row.mem {n:Nat}{v:List Int}(r:Row n v):∀x∈v,0<=x:=fun x hx=>by
 obtain ⟨i,_,e⟩:=mem_get hx;exact e▸r.pos i
theorem Row.sum {n:Nat}{v:List Int}(r:Row n v):v.sum=sumN n (fun i=>v.getD i 0):=by rw [sum_eq_sumN,r.len]
theorem Row.sum_nonneg {n:Nat}{v:List Int}(r:Row n v):0<=v.sum:=by
 have h:=sumN_mono (n:=n) (f:=fun _=>0) fun i _=>r.pos i
 rw [sumN_const0] at h
 rw [r.sum];exact h
theorem Row.add {n:Nat}{a b:List Int}(x:Row n a)(y:Row n b):Row n (addR a b):=⟨addR_len x.len y.len,fun i=>by
 rw [addR_get (by exact (x.len ..).trans (y.len ..).symm)];have:=x.pos i;have:=y.pos i;exact z9 this ‹_›⟩
theorem Row.unit {n p:Nat}:Row n (unitR n p):=.of (unitR_len n p) fun x hx=>by
 rw [unitR,List.mem_map] at hx
 obtain ⟨i,_,rfl⟩:=hx
 split<;>decide
noncomputable def Le (a b:List Int):Prop:=∀i,a.getD i 0<=b.getD i 0
theorem Row.inR {n:Nat}{a b:List Int}(x:Row n a)(y:Row n b):Mine.inR a b=true↔Le a b:=inR_iff (by exact (x.len ..).trans (y.len ..).symm)
theorem Le.refl (a:List Int):Le a a:=fun _=>Int.le_refl _
theorem Le.trans {a b c:List Int}(x:Le a b)(y:Le b c):Le a c:=fun i=>Int.le_trans (x i) (y i)
theorem Le.sum {n:Nat}{a b:List Int}(x:Row n a)(y:Row n b)(h:Le a b):a.sum<=b.sum:=by simp only [x.sum,y.sum];exact sumN_mono fun i _=>h i
theorem Le.eq {n:Nat}{a b:List Int}(x:Row n a)(y:Row n b)(h:Le a b)(e:b.sum<=a.sum):a=b:=by
 simp only [x.sum,y.sum] at e
 exact ext_get (by exact (x.len ..).trans (y.len ..).symm) fun i hi=>(sumN_eq_of_le (fun i _=>h i) e) i (by exact x.len▸hi)
theorem Row.sub {n:Nat}{a b:List Int}(x:Row n a)(y:Row n b)(h:Le b a):Row n (subR a b):=⟨subR_len x.len y.len,fun i=>by
 rw [subR_get (by exact (x.len ..).trans (y.len ..).symm)];have:=h i;exact z13 this⟩
theorem Le.sub {n:Nat}{a b:List Int}(x:Row n a)(y:Row n b):Le (subR a b) a:=fun i=>by
 rw [subR_get (by exact (x.len ..).trans (y.len ..).symm)];have:=y.pos i;exact z14 this
theorem Even.sub {E:List (List Int)}{a b:List Int}(h:a.length=b.length)(e:wor E a=wor E b):Even E (subR a b):=fun x hx=>by
 rw [wor_subR h,e] at hx
 rw [subR,List.mem_map] at hx
 obtain ⟨q,hq,rfl⟩:=hx
 have:∀(l:List Int) (q:Int × Int),q∈l.zip l->q.1-q.2=0:=by
  intro l
  induction l with
  | nil=>intro q hq;contradiction
  | cons a l ih=>
   intro q hq
   rcases List.mem_cons.mp hq with rfl| hq
   ·simp
   ·exact ih q hq
 exact this _ q hq
theorem Even.iff {E:List (List Int)}{v:List Int}:Even E v↔∀e∈E,dot e v=0:=by
 simp [Even,wor]
theorem not_even {E:List (List Int)}{v:List Int}(h:¬Even E v):0<dot (wor E v) (wor E v):=by
 by_cases h2:dot (wor E v) (wor E v)<=0
 ·exact absurd (dot_self_zero h2) h
 ·exact z15 h2
structure Least (E:List (List Int))(n:Nat)(s:List Int):Prop where
 row:Row n s
 even:Even E s
 pos:0<s.sum
 least:∀g,Row n g->Even E g->0<g.sum->Le g s->g=s
theorem least_below {E:List (List Int)}{n:Nat}:∀(k:Nat) {g:List Int},g.sum.toNat<=k->Row n g->Even E g->0<g.sum->∃s,Least E n s/\Le s g
 | 0,g,hk,r,e,p=>by lia
 | k+1,g,hk,r,e,p=>by
  by_cases h:∃g',Row n g'/\Even E g'/\0<g'.sum/\Le g' g/\g'≠g
  ·obtain ⟨g',r',e',p',l,ne⟩:=h
   have hlt:g'.sum<g.sum:=by
    by_cases q:g.sum<=g'.sum
    ·exact absurd (l.eq r' r q) ne
    ·exact z15 q
   obtain ⟨s,hs,hl⟩:=least_below k (g:=g') (z16 hk hlt) r' e' p'
   exact ⟨s,hs,hl.trans l⟩
  ·refine ⟨g,⟨r,e,p,fun g' r' e' p' l=> ?_⟩,.refl _⟩
   by_cases q:g'=g
   ·exact q
   ·exact absurd ⟨g',r',e',p',l,q⟩ h
theorem step_to {E:List (List Int)}{n:Nat}(hE:∀e∈E,e.length=n){v s:List Int}(rv:Row n v)(rs:Row n s)(es:Even E s)(ne:¬Even E v)(l:Le v s):
  ∃j,j<n/\v.getD j 0<s.getD j 0/\dot (wor E v) (wor E (unitR n j))<0:=by
 have h1:dot (wor E v) (wor E (subR s v))= -dot (wor E v) (wor E v):=by
  rw [wor_subR (by exact (rs.len ..).trans (rv.len ..).symm),dot_subR (by exact (wor_len ..).trans (wor_len ..).symm)]
  have:dot (wor E v) (wor E s)=0:=by
   have hz:∀(w z:List Int),(∀x∈z,x=0)->dot w z=0:=by
    intro w z
    induction w generalizing z with
    | nil=>intro _;rfl
    | cons a w ih=>
     intro h
     cases z with
     | nil=>rfl
     | cons b z=>simp only [dot_cons,ih z fun x hx=>h x (.tail _ hx),h b (.head _)];simp
   exact hz _ _ es
  exact z17 this
 rw [dot_wor hE (subR_len rs.len rv.len)] at h1
 have h2:=not_even ne
 obtain ⟨j,hj,e⟩:=sumN_neg_some (n:=n) (f:=fun j=>(subR s v).getD j 0*dot (wor E v) (wor E (unitR n j))) (z18 h2 h1)
 have hs:=subR_get (a:=s) (b:=v) (by exact (rs.len ..).trans (rv.len ..).symm) j
 have hn:=l j
 refine ⟨j,hj,?_,?_⟩
 ·by_cases q:v.getD j 0<s.getD j 0
  ·exact q
  ·have:(subR s v).getD j 0=0:=z19 hs hn q
   lia
 ·by_cases q:dot (wor E v) (wor E (unitR n j))<0
  ·exact q
  ·have:0<=(subR s v).getD j 0*dot (wor E v) (wor E (unitR n j)):=Int.mul_nonneg (z20 hs hn) (z21 q)
   exact (z22 e this).elim
noncomputable def isOpen (E:List (List Int))(r:List Int):Bool:=(wor E r).any (· !=0)
noncomputable def ins (l:List (List Int))(f:List Int):List (List Int):=if f∈l then l else l++[f]
noncomputable def cand (E:List (List Int))(n:Nat)(once:Bool)(found:List (List Int))(r:List Int)(p:Nat):Option (List Int):=
 if dot (wor E r) (wor E (unitR n p))<0/\(once=true->(addR r (unitR n p)).getD (n-1) 0<2)/\(found.any fun g=>inR g (addR r (unitR n p)))=false then some (addR r (unitR n p)) else none
noncomputable def cands (E:List (List Int))(n:Nat)(once:Bool)(found rows:List (List Int)):List (List Int):=
 rows.flatMap fun r=>(List.range n).filterMap fun p=>cand E n once found r p
noncomputable def foundN (E:List (List Int))(found front:List (List Int)):List (List Int):=found++front.filter fun r=> !isOpen E r
noncomputable def frontN (E:List (List Int))(n:Nat)(once:Bool)(found front:List (List Int)):List (List Int):=(cands E n once (foundN E found front) (front.filter (isOpen E))).foldl ins []
noncomputable def stF (E:List (List Int))(n:Nat)(once:Bool):Nat->List (List Int) × List (List Int)
 | 0=>([],(List.range n).map fun (p:Nat)=>unitR n p)
 | k+1=>(foundN E (stF E n once k).1 (stF E n once k).2,frontN E n once (stF E n once k).1 (stF E n once k).2)
theorem isOpen_iff {E:List (List Int)}{r:List Int}:isOpen E r=true↔¬Even E r:=by
 delta isOpen Even
 rw [List.any_eq_true]
 constructor
 ·intro ⟨x,hx,e⟩ h
  have:=h x hx
  subst this;contradiction
 ·intro h
  apply Classical.byContradiction
  intro h2
  apply h
  intro x hx
  apply Classical.byContradiction
  intro h3
  exact h2 ⟨x,hx,by simpa using h3⟩
theorem isOpen_false {E:List (List Int)}{r:List Int}:isOpen E r=false↔Even E r:=by
 constructor
 ·intro h;apply Classical.byContradiction;intro h2;replace h:=(isOpen_iff.mpr h2 ..).symm.trans h;contradiction
 ·intro h;cases e:isOpen E r with
  | false=>rfl
  | true=>exact absurd h (isOpen_iff.mp e)
theorem ins_mem {l:List (List Int)}{f x:List Int}:x∈ins l f↔x∈l\/x=f:=by
 unfold ins
 split
 ·constructor
  ·exact .inl
  ·rintro (h| rfl)
   ·exact h
   ·assumption
 ·simp
theorem ins_nodup {l:List (List Int)}{f:List Int}(h:l.Nodup):(ins l f).Nodup:=by
 unfold ins
 split
 ·exact h
 ·rename_i q
  rw [List.nodup_append]
  exact ⟨h,by simp,fun a ha b hb=>by simp at hb;subst hb;exact fun e=>q (e▸ha)⟩
theorem foldl_ins_mem {x:List Int}:∀(fs l:List (List Int)),x∈fs.foldl ins l↔x∈l\/x∈fs
 | [],l=>by simp
 | f::fs,l=>by simp only [List.foldl_cons,foldl_ins_mem fs,ins_mem];simp [or_assoc]
theorem foldl_ins_nodup:∀(fs l:List (List Int)),l.Nodup->(fs.foldl ins l).Nodup
 | [],l,h=>h
 | f::fs,l,h=>by exact foldl_ins_nodup fs _ (ins_nodup h)
theorem frontN_mem {E:List (List Int)}{n:Nat}{once:Bool}{found front:List (List Int)}{f:List Int}:
  f∈frontN E n once found front↔∃r∈front,¬Even E r/\∃p,p<n/\f=addR r (unitR n p)/\dot (wor E r) (wor E (unitR n p))<0/\(once=true->f.getD (n-1) 0<2)/\∀g∈foundN E found front,inR g f=false:=by
 unfold frontN
 rw [foldl_ins_mem]
 simp only [cands,List.mem_flatMap,List.mem_filterMap,List.mem_filter,List.mem_range,List.not_mem_nil,false_or]
 constructor
 ·rintro ⟨r,⟨h1,h2⟩,p,hp,h⟩
  unfold cand at h
  split at h
  ·rename_i c
   obtain rfl:=Option.some.inj h
   refine ⟨r,h1,isOpen_iff.mp h2,p,hp,rfl,c.1,c.2.1,fun g hg=> ?_⟩
   have:=c.2.2
   rw [List.any_eq_false] at this
   simpa using this g hg
  ·contradiction
 ·rintro ⟨r,h1,h2,p,hp,rfl,h3,h4,h5⟩
  refine ⟨r,⟨h1,isOpen_iff.mpr h2⟩,p,hp,?_⟩
  unfold cand
  have h6:((foundN E found front).any fun g=>inR g (addR r (unitR n p)))=false:=by
   rw [List.any_eq_false]
   intro g hg
   simp [h5 g hg]
  exact (if_pos ⟨h3,h4,h6⟩ ..)
inductive Reach (E:List (List Int))(n:Nat)(once:Bool):List (List Int)->List Int->Prop
 | unit {p:Nat} (hp:p<n):Reach E n once [] (unitR n p)
 | step {R:List (List Int)} {v:List Int} {p:Nat} (x:Reach E n once R v) (ne:¬Even E v) (hp:p<n) (h:dot (wor E v) (wor E (unitR n p))<0) (ho:once=true->(addR v (unitR n p)).getD (n-1) 0<2):
   Reach E n once (v::R) (addR v (unitR n p))
section
variable {E:List (List Int)} {n:Nat} {once:Bool} {R:List (List Int)} {v:List Int}
theorem Reach.row (x:Reach E n once R v):Row n v:=by
 induction x with
 | unit hp=>exact Row.unit
 | step x ne hp h ho ih=>exact ih.add Row.unit
theorem Reach.last (x:Reach E n once R v)(o:once=true):v.getD (n-1) 0<2:=by
 cases x with
 | unit hp=>rw [unitR_get _ _ _ (z114 hp)];split<;>decide
 | step x ne hp h ho=>exact ho o
theorem le_add_unit {p:Nat}(r:Row n v):Le v (addR v (unitR n p)):=fun i=>by
 rw [addR_get (by exact (r.len ..).trans (unitR_len ..).symm)]
 have:=(Row.unit (n:=n) (p:=p)).pos i
 exact z115 this
theorem sum_add_unit {p:Nat}(r:Row n v)(hp:p<n):(addR v (unitR n p)).sum=v.sum+1:=by
 rw [sum_addR (by exact (r.len ..).trans (unitR_len ..).symm),sum_unit hp]
theorem Reach.len (x:Reach E n once R v):v.sum=R.length+1:=by
 induction x with
 | unit hp=>rw [sum_unit hp];rfl
 | step x ne hp h ho ih=>rw [sum_add_unit x.row hp,ih];rfl
theorem Reach.back (x:Reach E n once R v):∀r∈R,Row n r/\Le r v/\r.sum<v.sum/\¬Even E r:=by
 induction x with
 | unit hp=>intro r hr;contradiction
 | step x ne hp h ho ih=>
  intro r hr
  have h1:=sum_add_unit x.row hp
  rcases List.mem_cons.mp hr with rfl| hr
  ·exact ⟨x.row,le_add_unit x.row,z116 h1,ne⟩
  ·obtain ⟨a,b,c,d⟩:=ih r hr
   exact ⟨a,b.trans (le_add_unit x.row),z117 c h1,d⟩
theorem Reach.chain (x:Reach E n once R v):R.Pairwise fun a b=>Le b a/\b.sum<a.sum:=by
 induction x with
 | unit hp=>exact .nil
 | step x ne hp h ho ih=>
  refine List.Pairwise.cons (fun b hb=> ?_) ih
  obtain ⟨_,h1,h2,_⟩:=x.back b hb
  exact ⟨h1,h2⟩
theorem Reach.inv {P:List Int->Prop}(x:Reach E n once R v)(h0:∀p,p<n->P (unitR n p))(h1:∀R v p,Reach E n once R v->P v->¬Even E v->p<n->dot (wor E v) (wor E (unitR n p))<0->(once=true->(addR v (unitR n p)).getD (n-1) 0<2)->P (addR v (unitR n p))):P v/\∀r∈R,P r:=by
 induction x with
 | unit hp=>exact ⟨h0 _ hp,fun r hr=>by cases hr⟩
 | step x ne hp h ho ih=>
  refine ⟨h1 _ _ _ x ih.1 ne hp h ho,fun r hr=> ?_⟩
  rcases List.mem_cons.mp hr with rfl| hr
  ·exact ih.1
  ·exact ih.2 r hr
end
structure Alive (E:List (List Int))(n:Nat)(once:Bool)(R:List (List Int))(v:List Int):Prop where
 reach:Reach E n once R v
 bare:∀g,Row n g->Even E g->0<g.sum->Le g v->g=v
theorem Alive.nodup {E:List (List Int)}{n:Nat}{once:Bool}{R:List (List Int)}{v:List Int}(x:Alive E n once R v):(R.map (wor E)).Nodup:=by
 have hb:=x.reach.back
 rw [List.Nodup,List.pairwise_map]
 refine List.Pairwise.imp_of_mem (fun {a b} ha hb' hab e=> ?_) (x.reach.chain)
 obtain ⟨ra,la,sa,_⟩:=hb a ha
 obtain ⟨rb,lb,sb,_⟩:=hb b hb'
 have hl:a.length=b.length:=by exact (ra.len ..).trans (rb.len ..).symm
 have h2:(subR a b).sum=v.sum:=by exact congrArg _ ((x.bare (subR a b) (ra.sub rb hab.1) (Even.sub hl e) (by rw [sum_subR hl];exact z118 hab.2) ((Le.sub ra rb).trans la)) ..)
 rw [sum_subR hl] at h2
 have:=rb.sum_nonneg
 exact z119 this h2 sa
theorem length_le_of_nodup {α:Type} [DecidableEq α]:∀{l F:List α},l.Nodup->(∀x∈l,x∈F)->l.length<=F.length
 | [],F,_,_=>Nat.zero_le _
 | a::l,F,nd,h=>by
  rw [List.nodup_cons] at nd
  have ha:a∈F:=h a (.head _)
  have:=length_le_of_nodup (l:=l) (F:=F.erase a) nd.2 fun x hx=>by
   exact (List.mem_erase_of_ne (fun e:x=a=>nd.1 (e▸hx))).mpr (h x (.tail _ hx))
  have hl:=List.length_erase_of_mem ha
  have:0<F.length:=List.length_pos_of_mem ha
  simp only [List.length_cons]
  exact z120 this hl ‹_›
theorem Alive.level {E:List (List Int)}{n:Nat}{once:Bool}{R:List (List Int)}{v:List Int}{F:List (List Int)}(x:Alive E n once R v)(hF:∀r∈R,wor E r∈F):v.sum<=F.length+1:=by
 rw [x.reach.len]
 have:=length_le_of_nodup x.nodup (F:=F) fun y hy=>by
  obtain ⟨r,hr,rfl⟩:=List.mem_map.mp hy;exact hF r hr
 rw [List.length_map] at this
 exact z121 this
structure Inv (E:List (List Int))(n:Nat)(once:Bool)(k:Nat)(found front:List (List Int)):Prop where
 nd:front.Nodup
 reach:∀v∈front,(∃R,Reach E n once R v)/\v.sum=k+1
 bare:∀v∈front,∀f∈found,¬Le f v
 least:∀f∈found,Least E n f/\(once=true->f.getD (n-1) 0<2)/\f.sum<=k
 ndf:found.Nodup
 all:∀s,Least E n s->(once=true->s.getD (n-1) 0<2)->(s.sum<=k->s∈found)/\(k+1<=s.sum->∃v∈front,Le v s)
section
variable {E:List (List Int)} {n:Nat} {once:Bool} {k:Nat} {found front:List (List Int)}
theorem Inv.only (I:Inv E n once k found front){v:List Int}(hv:v∈front):∀g,Row n g->Even E g->0<g.sum->Le g v->g=v:=fun g rg eg pg lg=>by
 obtain ⟨⟨R,x⟩,hs⟩:=I.reach v hv
 obtain ⟨s,ls,hl⟩:=least_below g.sum.toNat (Nat.le_refl _) rg eg pg
 have hl2:=hl.trans lg
 by_cases q:s.sum<=k
 ·exact absurd hl2 (I.bare v hv s ((I.all s ls (fun o=>by have:=x.last o;have:=hl2 (n-1);exact z122 ‹_› this)).1 q))
 ·have h1:=Le.eq ls.row x.row hl2 (z123 hs q)
  subst h1
  exact Le.eq rg x.row lg (hl.sum ls.row rg)
theorem Inv.alive (I:Inv E n once k found front){v:List Int}(hv:v∈front):∃R,Alive E n once R v:=by
 obtain ⟨⟨R,x⟩,_⟩:=I.reach v hv
 exact ⟨R,x,I.only hv⟩
theorem Inv.mem_found (I:Inv E n once k found front){f:List Int}(hf:f∈foundN E found front):Least E n f/\(once=true->f.getD (n-1) 0<2)/\f.sum<=k+1:=by
 rcases List.mem_append.mp hf with h| h
 ·obtain ⟨a,b,c⟩:=I.least f h;exact ⟨a,b,z124 c⟩
 ·simp only [List.mem_filter] at h
  obtain ⟨⟨R,x⟩,hs⟩:=I.reach f h.1
  exact ⟨⟨x.row,(isOpen_false.mp (by simpa using h.2)),z125 hs,I.only h.1⟩,x.last,z126 hs⟩
theorem Inv.step (hE:∀e∈E,e.length=n)(I:Inv E n once k found front):Inv E n once (k+1) (foundN E found front) (frontN E n once found front) where
 nd:=foldl_ins_nodup _ _ List.nodup_nil
 reach:=fun f hf=>by
  obtain ⟨r,hr,ne,p,hp,rfl,h1,h2,h3⟩:=frontN_mem.mp hf
  obtain ⟨⟨R,x⟩,hs⟩:=I.reach r hr
  exact ⟨⟨_,.step x ne hp h1 h2⟩,by simp only [sum_add_unit x.row hp,hs];rfl⟩
 bare:=fun f hf g hg l=>by
  obtain ⟨r,hr,ne,p,hp,rfl,h1,h2,h3⟩:=frontN_mem.mp hf
  obtain ⟨⟨R,x⟩,hs⟩:=I.reach r hr
  have:=(((I.mem_found hg).1.row).inR (x.row.add Row.unit)).mpr l
  replace this:=(h3 g hg ..).symm.trans this;contradiction
 least:=fun f hf=>by
  obtain ⟨a,b,c⟩:=I.mem_found hf
  exact ⟨a,b,by trivial⟩
 ndf:=by
  unfold foundN
  rw [List.nodup_append]
  refine ⟨I.ndf,I.nd.filter _,fun a ha b hb e=> ?_⟩
  subst e
  have h1:=(I.least a ha).2.2
  have h2:=(I.reach a (List.mem_filter.mp hb).1).2
  exact z127 h2 h1
 all:=fun s ls ho=>by
  refine And.elim (fun h1 h2=> ?_) (I.all s ls ho)
  refine ⟨fun hs=> ?_,fun hs=> ?_⟩
  ·unfold foundN
   rw [List.mem_append]
   by_cases q:s.sum<=k
   ·exact .inl (h1 q)
   ·obtain ⟨v,hv,l⟩:=h2 (z128 q)
    obtain ⟨⟨R,x⟩,hvs⟩:=I.reach v hv
    have:=Le.eq x.row ls.row l (z129 hvs hs)
    subst this
    exact .inr (List.mem_filter.mpr ⟨hv,by rw [isOpen_false.mpr ls.even];rfl⟩)
  ·obtain ⟨v,hv,l⟩:=h2 (z130 hs)
   obtain ⟨⟨R,x⟩,hvs⟩:=I.reach v hv
   have ne:¬Even E v:=fun e=>by
    have:=ls.least v x.row e (z125 hvs) l
    subst this;exact z131 hs hvs
   obtain ⟨j,hj,h3,h4⟩:=step_to hE x.row ls.row ls.even ne l
   have hle:Le (addR v (unitR n j)) s:=fun i=>by
    rw [addR_get (by exact (x.row.len ..).trans (unitR_len ..).symm)]
    by_cases hi:i<n
    ·rw [unitR_get _ _ _ hi]
     split
     ·rename_i e;subst e;assumption
     ·have:=l i;exact z132 this
    ·rw [List.getD_eq_getElem?_getD (l:=unitR n j),List.getElem?_eq_none (by rw [unitR_len];exact z12 hi)]
     have:=l i;simp only [Option.getD_none];exact z132 this
   refine ⟨addR v (unitR n j),frontN_mem.mpr ⟨v,hv,ne,j,hj,rfl,h4,fun o=> ?_,fun g hg=> ?_⟩,hle⟩
   ·have:=hle (n-1);lia
   ·obtain ⟨a,b,c⟩:=I.mem_found hg
    cases e:inR g (addR v (unitR n j)) with
    | false=>rfl
    | true=>
     have:=ls.least g a.row a.even a.pos (((a.row.inR (x.row.add Row.unit)).mp e).trans hle)
     lia
theorem Inv.zero:Inv E n once 0 [] ((List.range n).map fun (p:Nat)=>unitR n p) where
 nd:=by
  rw [List.Nodup,List.pairwise_map]
  refine List.Pairwise.imp_of_mem (fun {a b} ha hb hab e=> ?_) (List.pairwise_lt_range (n:=n))
  simp only [List.mem_range] at ha hb
  have:=congrArg (fun l=>l.getD a 0) e
  simp only [unitR_get n a a ha,unitR_get n b a ha] at this
  rw [if_pos trivial,if_neg (z8 hab)] at this
  lia
 reach:=fun v hv=>by
  obtain ⟨p,hp,rfl⟩:=List.mem_map.mp hv
  simp only [List.mem_range] at hp
  exact ⟨⟨[],.unit hp⟩,by rw [sum_unit hp];rfl⟩
 bare:=fun v hv f hf=>by cases hf
 least:=fun f hf=>by contradiction
 ndf:=List.nodup_nil
 all:=fun s ls ho=>by
  refine ⟨fun hs=> ?_,fun hs=> ?_⟩
  ·have:=ls.pos;lia
  ·have hp:=ls.pos
   rw [ls.row.sum] at hp
   obtain ⟨i,hi,e⟩:=sumN_neg_some (n:=n) (f:=fun i=> -(s.getD i 0)) (by
    have:sumN n (fun i=> -(s.getD i 0))= -sumN n (fun i=>s.getD i 0):=by
     simpa using (sumN_mul n (-1) (fun i=>s.getD i 0))
    exact z18 hp this)
   refine ⟨unitR n i,List.mem_map.mpr ⟨i,List.mem_range.mpr hi,rfl⟩,fun j=> ?_⟩
   by_cases hj:j<n
   ·rw [unitR_get _ _ _ hj]
    split
    ·rename_i q;subst q;exact z134 e
    ·exact ls.row.pos j
   ·rw [List.getD_eq_getElem?_getD (l:=unitR n i),List.getElem?_eq_none (by rw [unitR_len];exact z12 hj)]
    exact ls.row.pos j
theorem Inv.at (hE:∀e∈E,e.length=n):∀k,Inv E n once k (stF E n once k).1 (stF E n once k).2
 | 0=>Inv.zero
 | k+1=>(Inv.at hE k).step hE
theorem Inv.done (I:Inv E n once k found []):found.Nodup/\∀s,s∈found↔Least E n s/\(once=true->s.getD (n-1) 0<2):=by
 refine ⟨I.ndf,fun s=>⟨fun h=>⟨(I.least s h).1,(I.least s h).2.1⟩,fun ⟨h1,h2⟩=> ?_⟩⟩
 obtain ⟨a,b⟩:=I.all s h1 h2
 by_cases q:s.sum<=k
 ·exact a q
 ·obtain ⟨v,hv,_⟩:=b (z128 q);contradiction
end
end Mine
namespace Mine
open PySem PySem.Calls PyProof.Rows
section
variable {c:Cx} {A:Around} {fr:List Addr} {σ:Sto} {X:Addr->Sto->Prop} {Q:D->Sto->Prop} {env:Env} {m:Vars} {N:Vars->Sto->Prop} {R:D->Sto->Prop}
theorem W1.while {test:Expr}{body:List Stmt}{pos:Pos}{sc:Scope}(fe:Fe A env sc)(L:Nat->Vars->Sto->Prop)(n:Nat)(h0:L n m σ)
  (turn:∀k m' σ',L k m' σ'->WT c A fr env m' σ' test (fun b σ1=>if b=true then WS c A fr env m' σ1 body (fun m'' σ''=>∃j,j<k/\L j m'' σ'') R X else N m' σ1) X):
  W1 c A fr env m σ (.While test body [] pos) N R X:=fun s ok fm=>by
 have hin:=ok.frames_in
 refine wpAny_While (codeAny_whileLoop (fun k s'=>∃m' σ',L k m' σ'/\Post (Fa env) fr σ s s' σ'/\Ok c A fr σ' s'.heap/\Fm env m' fr (keys σ'++fr) s'.heap) ?_ n ⟨m,σ,h0,Post.refl ..,ok,fm⟩)
 rintro k s' ⟨m',σ',hL,p,okk,fmk⟩
 refine wpAny_mono (turn k m' σ' hL s' okk fmk) (fun b s2 hz=> ?_) fun v s3 x=>Ex.loop (wr:=[]) fe.stack fe.frame hin fm.inn (Post.refl ..) (fun a ha=>by contradiction) p (x.wide fmk)
 obtain ⟨b',σ2,p2,ok2,e,q⟩:=hz
 subst e
 have fm2:=fmk.move p2
 have pp:=p.trans (p2.wide (F':=Fa env) (by exact List.nil_subset _))
 cases b with
 | true=>
  dsimp only [if_true] at q⊢
  refine wpAny_mono (q s2 ok2 fm2) (fun fl s3 hx=> ?_) fun v s3 x=>Ex.loop (wr:=[]) fe.stack fe.frame hin fm.inn (Post.refl ..) (fun a ha=>by contradiction) pp x
  obtain ⟨out,σ3,p3,ok3,r3,q3⟩:=hx
  cases out with
  | next m3=>
   obtain ⟨rfl,fm3⟩:=r3
   obtain ⟨j,hj,hL'⟩:=q3
   exact ⟨j,hj,m3,σ3,hL',pp.trans p3,ok3,fm3⟩
  | ret d=>
   obtain ⟨v,rfl,hv,fv⟩:=r3
   exact ⟨.ret d,σ3,pp.trans p3,ok3,⟨v,rfl,hv,fv⟩,q3⟩
 | false=>
  exact wpAny_execs_nil ⟨.next m',σ2,pp,ok2,⟨rfl,fm2⟩,q⟩
theorem WE.dict0 (gd:c.Good){pos:Pos}(h:∀a,a∉keys σ->Q (.ref a) ((a,.rows [])::σ)):WE c A fr env m σ (.Dict [] [] pos) Q X:=fun s ok fm=>by
 have kp:∀b o,s.heap.get? b=some o->(s.heap.push {cls:=.type "dict",data:=.dict #[]}).get? b=some o:=fun b o e=>Heap.get?_push_of_some _ e
 have hsz:3<s.heap.objs.size:=by
  obtain ⟨o,es,ep,g0,_⟩:=gd.g
  exact Heap.lt_size (ok.base _ _ g0)
 refine wpAny_Dict_empty ⟨.ref s.heap.objs.size,(s.heap.objs.size,.rows [])::σ,Post.add (tk:=s.toks) kp (Nat.le_refl _),Ok.add (o:=.rows []) ok kp (Nat.le_refl _) ⟨[],rfl,⟨Vs.nil,beq_eq_false_iff_ne.mpr fun e=>by exact z989 hsz (e)⟩,Heap.DictOfH.new _⟩,by rfl,h _ fun z=> ?_⟩
 exact Nat.lt_irrefl _ (ok.lt (List.mem_append_left _ z))
theorem atKey_rows {rs:List (List Int)}{as:List Addr}(hl:as.length=rs.length){f:List Int}:(atKey (rowItems rs as) f).isSome=decide (f∈rs):=by
 unfold atKey
 simp only [Option.isSome_map,List.isSome_find?]
 apply Bool.eq_iff_iff.mpr
 simp only [List.any_eq_true,decide_eq_true_eq]
 constructor
 ·rintro ⟨x,hx,e⟩
  obtain ⟨p,hp,rfl⟩:=List.mem_map.mp hx
  simp only at e
  exact e▸((List.of_mem_zip hp).1)
 ·intro hf
  obtain ⟨i,hi,e⟩:=List.mem_iff_getElem.mp hf
  refine ⟨(rs[i],as[i]'(z23 hi hl),Value.bool true),?_,by trivial⟩
  exact List.mem_map.mpr ⟨(rs[i],as[i]'(z23 hi hl)),List.mem_iff_getElem.mpr ⟨i,by simp;exact z990 hi hl,by simp⟩,rfl⟩
theorem rows_stored {K:List Addr}{h:Heap}{rs:List (List Int)}{as:List Addr}{b:Addr}(hl:as.length=rs.length){f:List Int}(hv:Vs K h (rs.map row) (as.map .ref))(hb:V K h (row f) (.ref b)):∃as',as'.length=(ins rs f).length/\Vs K h ((ins rs f).map row) (as'.map .ref)/\storedH (rowItems rs as) f b (.bool true)=rowItems (ins rs f) as':=by
 delta storedH ins
 rw [atKey_rows hl]
 by_cases q:f∈rs
 ·rw [decide_eq_true q]
  simp only [if_true]
  rw [if_pos q]
  refine ⟨as,hl,hv,?_⟩
  have:∀x∈rowItems rs as,putAt f (.bool true) x=x:=fun x hx=>by
   obtain ⟨p,hp,rfl⟩:=List.mem_map.mp hx
   unfold putAt
   split<;>rfl
  exact (List.map_congr_left this ..).trans (List.map_id' ..)
 ·rw [decide_eq_false q]
  rw [if_neg q]
  refine ⟨as++[b],by simp [hl],by simp only [List.map_append];exact hv.append (Vs.cons hb Vs.nil),?_⟩
  unfold rowItems
  simp only [List.zip_append hl.symm,List.map_append]
  rfl
theorem V.isKey {K:List Addr}{h:Heap}{f:List Int}{v:Value}(x:V K h (row f) v):∃b,v=.ref b/\b∉K/\IsTupleKey (intKind c.prog c.w) h f b:=by
 obtain ⟨b,vs,n,rfl,nk,g,r⟩:=x
 refine ⟨b,rfl,nk,_,vs.toArray,n,g,rfl,rfl,?_⟩
 simp only
 clear g nk
 induction f generalizing vs with
 | nil=>
  simp only [List.map_nil] at r
  subst r;exact .nil
 | cons i f ih=>
  obtain ⟨v,us,rfl,x1,x2⟩:=r
  obtain ⟨t,rfl⟩:=x1.toInt
  exact .cons (by simp [intKind,Value.isInt]) (ih us x2)
theorem W1.setRow {n:Nat}(rm:Room n A){o i value:Expr}{pos' pos:Pos}(h:WE c A fr env m σ value (fun dv σ1=>dv=.bool true/\WE c A fr env m σ1 o (fun d σ2=>WE c A fr env m σ2 i (fun di σ3=>∃(a:Addr) (rs:List (List Int)) (f:List Int) (σa σb:Sto),d=.ref a/\di=row f/\σ3=σa++(a,.rows rs)::σb/\rs.length<=sizeLine/\N m (σa++(a,.rows (ins rs f))::σb)) X) X) X)
  (hs:swapsWith value (some (.Subscript o i pos')) pos.line env=pure false):W1 c A fr env m σ (.Assign [.Subscript o i pos'] value pos) N R X:=fun s ok fm=>by
 refine wpAny_Assign_Subscript (wpAny_mono (h s ok fm) (fun v s1 hx=> ?_) fun _ _ x=>x.wide fm) hs
 obtain ⟨dv,τ1,p1,ok1,x1,rfl,q1⟩:=hx
 refine wpAny_mono (q1 s1 ok1 (fm.move p1)) (fun ov s2 hx=> ?_) fun _ _ x=>(Ex.back (G:=none) p1 x fun _ _ y=>y).wide fm
 obtain ⟨d,τ2,p2,ok2,x2,q2⟩:=hx
 refine wpAny_mono (q2 s2 ok2 ((fm.move p1).move p2)) (fun iv s3 hx=> ?_) fun _ _ x=>(Ex.back (G:=none) (p1.trans p2) x fun _ _ y=>y).wide fm
 obtain ⟨di,τ3,p3,ok3,x3,a,rs,f,σa,σb,rfl,rfl,rfl,hsz,q⟩:=hx
 have x2':=p3.v x2
 subst x2'
 subst x1
 obtain ⟨b,rfl,nb,hkey⟩:=V.isKey (c:=c) x3
 have ha:a∈keys (σa++(a,O.rows rs)::σb):=by simp [keys]
 obtain ⟨as,hl,hn,hd⟩:=ok3.sto (a,O.rows rs) (by simp)
 refine wpAny_setItem_heap (knd:=tupleKind (intKind c.prog c.w)) (k:=f) (tupleKind_room_in1 (by have e:cLine=9900:=rfl;exact z991 (rm.1.2) e)) hkey hd (fun h' hd' hb=> ?_) (by unfold rowItems;simp [hl];exact hsz)
 have k':∀b ob,b≠a->s3.heap.get? b=some ob->h'.get? b=some ob:=fun b ob hne e=>by exact (hb.2 b hne ..).trans (e)
 obtain ⟨as',l1,l2,l3⟩:=rows_stored (b:=b) hl (f:=f) hn.1 x3
 simp only [l3] at hd'
 have pp:Post [] fr (σa++(a,.rows rs)::σb) s3 {s3 with heap:=h',toks:=s3.toks+(tupleKind (intKind c.prog c.w)).draws f} (σa++(a,.rows (ins rs f))::σb):=Post.put (fun z=>(List.nodup_append.mp ok3.nd).2.2 a ha a z rfl) k' (by obtain ⟨o,_,_,e,_⟩:=hd';exact ⟨o,e⟩)
 refine ⟨.next m,_,(((p1.trans p2).trans p3).trans pp).wide (by exact List.nil_subset _),ok3.put k' ⟨as',l1,⟨Vs.move (fun b ob nb e=>k' b ob (fun z=>nb (by simp only [z];exact List.mem_append_left _ ha)) e) (fun _ z=>.inl z) _ _ l2,hn.2⟩,hd'⟩,⟨rfl,(((fm.move p1).move p2).move p3).move pp⟩,q⟩
end
end Mine
set_option maxRecDepth 100000
namespace Mine
open PySem PySem.Calls PyProof.Rows
noncomputable def RawD (h:Heap)(d:Addr)(es:Array DictEntry)(ep:Nat):Prop:=∃o,h.get? d=some o/\o.ExactDict/\o.data=.dict es ep
theorem RawD.ty {s:Shared}{d:Addr}{es:Array DictEntry}{ep:Nat}(x:RawD s.heap d es ep):s.TypeIs (.ref d) "dict":=let ⟨o,ho,hc,_⟩:=x;⟨o,ho,hc.1⟩
theorem RawD.at {h h':Heap}{d:Addr}{es:Array DictEntry}{ep:Nat}(x:RawD h d es ep)(e:∀o,h.get? d=some o->h'.get? d=some o):RawD h' d es ep:=let ⟨o,ho,r⟩:=x;⟨o,e _ ho,r⟩
section
variable {prog:Program} {w:World} {A:Around} {E:Value->Shared->Prop} {s:Shared} {d:Addr} {es:Array DictEntry} {ep:Nat}
theorem iterD {Q:Value->Shared->Prop}(hd:(d==sysModules)=false)(hm:RawD s.heap d es ep)
  (hQ:Q (.ref s.heap.objs.size) {s with heap:=s.heap.push {cls:=.type "dict_keyiterator",data:=.fields #[.ref d,.int 0 0,.int es.size 0,.int ep 0]}}):wpAny (model prog w) A (pyIter (.ref d)) Q E s:=by
 obtain ⟨o,ho,hc,hdat⟩:=id hm
 have hT:=hm.ty
 refine wpAny_pyIter_slot hT F.slot_dict_iter (wpAny_call_entry F.slot_dict_iter hT F.entry_dict_iter ?_ (F.args_dict_iter_1 _))
 refine wpAny_bind ?_
 refine wpAny_bind (wpAny_notOrdered_dict hT ?_)
 show wpAny _ _ (pure (Value.ref d)) _ _ s
 refine wpAny_pure ?_
 show wpAny _ _ (Builtin.Dict.showsAll d>>=_) _ _ s
 unfold Builtin.Dict.showsAll
 rw [if_neg (by rw [hd];exact Bool.false_ne_true)]
 refine wpAny_bind (wpAny_pure ?_)
 refine wpAny_bind (wpAny_dictEntries ho hdat ?_)
 refine wpAny_bind (wpAny_dictEpoch ho hdat ?_)
 refine wpAny_bind (wpAny_newObj_type (wpAny_pure ⟨_,rfl,"dict_keyiterator",_,⟨_,Heap.get?_push_size _ rfl,rfl⟩,F.slot_dict_keyiterator_next.lookup,?_⟩))
 trivial
theorem nextD {it:Addr}{i:Nat}{en:DictEntry}{Q:Option Value->Shared->Prop}(hit:s.heap.IsKeyIter it d i es.size ep)(hm:RawD s.heap d es ep)(hx:es[i]? =some en)
  (hQ:∀h',h'.IsKeyIter it d (i+1) es.size ep->Heap.SameBut it s.heap h'->Q (some en.key) {s with heap:=h'}):wpAny (model prog w) A (pyNext (.ref it)) Q E s:=by
 obtain ⟨o,ho,hc,hd⟩:=id hit
 obtain ⟨od,hod,hcd,hdd⟩:=id hm
 refine wpAny_bind (wpAny_attempt (wpAny_callSpecial?_slot (name:=Str.ofString "__next__") hit.typeIs F.slot_dict_keyiterator_next
  (wpAny_call_entry F.slot_dict_keyiterator_next hit.typeIs F.entry_dict_keyiterator_next ?_ (F.args_dict_keyiterator_next_1 _))))
 refine wpAny_bind (wpAny_pure ?_)
 refine wpAny_bind ?_
 refine wpAny_bind ?_
 first| refine wpAny_bind (wpAny_typeNameOfWhole_keyiter hit.typeIs (wpAny_pure ?_))| refine wpAny_bind (wpAny_typeNameOf_keyiter hit.typeIs (wpAny_pure ?_))
 refine wpAny_bind (wpAny_fieldsOf ho hd ?_)
 show wpAny _ _ (if (Value.ref d==Value.none)=true then _ else _) _ _ s
 refine wpAny_bind (wpAny_pure ?_)
 refine wpAny_bind (wpAny_dictEntries hod hdd ?_)
 rw [if_neg (by simp)]
 refine wpAny_bind (wpAny_pure ?_)
 refine wpAny_bind (wpAny_dictEpoch hod hdd ?_)
 rw [if_neg (by simp)]
 refine wpAny_pure ?_
 simp only [show ¬((i:Int)<0) from z619,if_false,Int.toNat_natCast,hx]
 refine wpAny_bind ?_
 first| refine wpAny_bind (wpAny_typeNameOfWhole_keyiter hit.typeIs (wpAny_pure ?_))| refine wpAny_bind (wpAny_typeNameOf_keyiter hit.typeIs (wpAny_pure ?_))
 refine wpAny_bind (wpAny_isOneOf_keyiter hit.typeIs ?_)
 show wpAny _ _ (setField (.ref it) 1 (rawInt ((i:Int)+1))>>=_) _ _ s
 refine wpAny_bind (wpAny_setField ho hd (by exact Nat.le_add_left _ _) ?_)
 have hit':(s.heap.update it (Obj.mapFields (·.setIfInBounds 1 (rawInt ((i:Int)+1))))).IsKeyIter it d (i+1) es.size ep:=
  ⟨_,Heap.get?_update_self _ ho (Obj.isFreed_of_fields (Obj.data_mapFields hd _)),(Obj.cls_mapFields ..).trans hc,by rw [Obj.data_mapFields hd];rfl⟩
 refine wpAny_bind (wpAny_holding ?_)
 refine wpAny_bind (wpAny_isOneOf_keyiter (s:={s with heap:=s.heap.update it (Obj.mapFields (·.setIfInBounds 1 (rawInt ((i:Int)+1))))}) hit'.typeIs ?_)
 exact wpAny_pure (wpAny_pure ⟨_,rfl,wpAny_pure (hQ _ hit' (Heap.SameBut.update ..))⟩)
theorem endD {it:Addr}{i:Nat}{Q:Option Value->Shared->Prop}(hh:A.handled=none)(hit:s.heap.IsKeyIter it d i es.size ep)(hm:RawD s.heap d es ep)(hge:es.size<=i)
  (hQ:∀h',Heap.ExtBut it s.heap h'->Q none {s with heap:=h'}):wpAny (model prog w) A (pyNext (.ref it)) Q E s:=by
 obtain ⟨o,ho,hc,hd⟩:=id hit
 obtain ⟨od,hod,hcd,hdd⟩:=id hm
 refine wpAny_bind (wpAny_attempt (wpAny_callSpecial?_slot (name:=Str.ofString "__next__") hit.typeIs F.slot_dict_keyiterator_next
  (wpAny_call_entry F.slot_dict_keyiterator_next hit.typeIs F.entry_dict_keyiterator_next ?_ (F.args_dict_keyiterator_next_1 _))))
 refine wpAny_bind (wpAny_pure ?_)
 refine wpAny_bind ?_
 refine wpAny_bind ?_
 first| refine wpAny_bind (wpAny_typeNameOfWhole_keyiter hit.typeIs (wpAny_pure ?_))| refine wpAny_bind (wpAny_typeNameOf_keyiter hit.typeIs (wpAny_pure ?_))
 refine wpAny_bind (wpAny_fieldsOf ho hd ?_)
 show wpAny _ _ (if (Value.ref d==Value.none)=true then _ else _) _ _ s
 refine wpAny_bind (wpAny_pure ?_)
 refine wpAny_bind (wpAny_dictEntries hod hdd ?_)
 rw [if_neg (by simp)]
 refine wpAny_bind (wpAny_pure ?_)
 refine wpAny_bind (wpAny_dictEpoch hod hdd ?_)
 rw [if_neg (by simp)]
 refine wpAny_pure ?_
 simp only [show ¬((i:Int)<0) from z619,if_false,Int.toNat_natCast,Array.getElem?_eq_none hge]
 refine wpAny_bind ?_
 first| refine wpAny_bind (wpAny_typeNameOfWhole_keyiter hit.typeIs (wpAny_pure ?_))| refine wpAny_bind (wpAny_typeNameOf_keyiter hit.typeIs (wpAny_pure ?_))
 show wpAny _ _ (setField (.ref it) 0 .none>>=_) _ _ s
 refine wpAny_bind (wpAny_setField ho hd (by exact Nat.le_add_left _ _) ?_)
 refine wpAny_bind ?_
 refine wpAny_bind (wpAny_newObj_type ?_ (by size_fits))
 refine wpAny_bind (m:=firstArgMember _ _) (wpAny_of_eq (a:=Value.none) (by first| rfl| (simp only [firstArgMember];rfl)) ?_)
 refine wpAny_newObj_type ?_ (by size_fits)
 simp only [raiseNew]
 refine wpAny_bind (wpAny_handled ?_)
 rw [show A.in1.handled=none from hh]
 refine wpAny_bind (wpAny_pure (wpAny_throw ?_))
 refine wpAny_bind (wpAny_isInstance (T:="StopIteration") (b:=true) ⟨_,Heap.get?_push_size _ rfl,rfl⟩ isSubtype_stop ?_)
 exact wpAny_pure (hQ _ (((Heap.SameBut.update ..).extBut.push _).push _))
theorem walkD (hh:A.handled=none)(I:Addr)(hne:d≠I):Walks prog w A I [I,d] [I] es.size (fun i v=>∃e,es[i]? =some e/\v=e.key) (fun i h=>h.IsKeyIter I d i es.size ep/\RawD h d es ep) where
 sub:=fun b hb=>by simp at hb;simp [hb]
 frame:=fun _ _ _ st hk=>⟨st.1.at fun o e=>hk I (by exact .head _) o e,st.2.at fun o e=>hk d (by simp) o e⟩
 item:=fun i s Q E hi st hQ=>by
  have hx:es[i]? =some es[i]:=by simp
  refine nextD st.1 st.2 hx fun h' hit' hs'=> ?_
  exact hQ _ h' s.toks ⟨_,hx,rfl⟩ ⟨hit',st.2.at fun o e=>(hs'.2 d hne).trans e⟩ fun b o hb e=>hs'.extBut b o (fun h=>hb (by simp [h])) e
 done:=fun s Q E st hQ=>endD hh st.1 st.2 (Nat.le_refl _) fun h' he'=>hQ h' s.toks fun b o hb e=>he' b o (fun h=>hb (by simp [h])) e
 self:=fun _ _ _ _ st hQ=>wpAny_pyIter_keyiter st.1 hQ
theorem hintD {Q:Bool->Shared->Prop}(hd:(d==sysModules)=false)(hm:RawD s.heap d es ep)(h:Q false s):wpAny (model prog w) A (Builtin.List.listLengthHint (.ref d)) Q E s:=by
 refine wpAny_bind (wpAny_specialOf hm.ty F.slot_dict_len.lookup ?_)
 generalize hid:("dict.__len__":String)=id0
 wp_delta
 subst hid
 refine wpAny_bind (wpAny_isInstance (T:="dict") (b:=true) hm.ty (by kernel_rfl) ?_)
 refine wpAny_ite_split (fun hab=>absurd hab (by decide)) (fun _=> ?_)
 refine wpAny_ite_split (fun _=> ?_) (fun hab=>absurd (by decide+kernel) hab)
 refine wpAny_bind (wpAny_typeOf hm.ty ?_)
 exact wpAny_pure h
theorem extendD {R:Result->Shared->Prop}(hh:A.handled=none)(hd:(d==sysModules)=false)(hm:RawD s.heap d es ep)(hlen:es.size<=2^24)(S:Addr)(res:Value)(c₀:Nat)(hS:s.heap.get? S=some {cls:=.type "list",data:=.seq #[] c₀})
  (hR:∀h' tk acc' c',(∀b o,b≠S->s.heap.get? b=some o->h'.get? b=some o)->h'.get? S=some {cls:=.type "list",dict:=none,data:=.seq acc' c',slots:= #[]}->
   ItemsOf (fun i v=>∃e,es[i]? =some e/\v=e.key) acc' es.size->R (.ok (.ret res)) {s with heap:=h',toks:=tk}):
  wpAny (model prog w) A.in1 (Builtin.List.listExtendWith (.ref S) (.ref d) res)
   (fun fin s'=>match fin with| .done f=>R (.ok f) s'| .again c'=>c'.quiet=true/\codeAny (model prog w) A c' R s') (fun e s'=>R (.error e) s') s:=by
 have hSr:S≠d:=fun e=>by
  obtain ⟨o,ho,hc,hdat⟩:=hm
  simp only [e,ho] at hS
  obtain rfl:=Option.some.inj hS
  contradiction
 have hdlt:=let ⟨o,ho,_⟩:=hm;Heap.lt_size ho
 have hSI:=Nat.ne_of_lt (Heap.lt_size hS)
 have hdI:=Nat.ne_of_lt hdlt
 have key:∀(h:Heap) (c₁ tk:Nat),h.IsKeyIter s.heap.objs.size d 0 es.size ep->(∀b o,b≠S->s.heap.get? b=some o->h.get? b=some o)->
   h.get? S=some {cls:=.type "list",data:=.seq #[] c₁}->codeAny (model prog w) A (.builtin "list.extend.loop" ⟨[.ref S,.ref s.heap.objs.size,res],[]⟩) R {s with heap:=h,toks:=tk}:=by
  intro h c₁ tk hit hk hS₁
  refine codeAny_extend_loopS ((walkD (prog:=prog) (w:=w) (A:=A.in1) (es:=es) (ep:=ep) hh s.heap.objs.size hdI).toS) (by rw [PySem.sizeLine_eq];exact z874 hlen) S (fun hmem=>by
  simp only [List.mem_cons,List.not_mem_nil,or_false] at hmem
  exact hmem.elim hSI hSr) res es.size 0 _ #[] c₁ rfl (Nat.zero_le _) ⟨hit,hm.at fun o e=>hk d o (Ne.symm hSr) e⟩ hS₁ (ItemsOf.nil _) fun s' acc' c' hm' hS' hacc=> ?_
  rw [Moved.eq_with hm']
  refine hR s'.heap s'.toks acc' c' (fun b o hb e=>hm'.heap b o (fun hmem=> ?_) (hk b o hb e)) hS' hacc
  rcases List.mem_cons.mp hmem with e'| hmem
  ·exact hb e'
  ·exact absurd (Heap.lt_size e) (by rw [List.mem_singleton.mp hmem];exact Nat.lt_irrefl _)
 unfold Builtin.List.listExtendWith
 refine wpAny_bind (wpAny_typeOf (T:="dict") hm.ty ?_)
 have h1:Builtin.List.listSameRef (.ref S) (.ref d)=false:=(show Builtin.List.listSameRef (.ref S) (.ref d)=(S==d) from rfl).trans (by simp [hSr])
 have h2:(Value.type "dict"==Value.type "list")=false:=by decide
 have h3:(Value.type "dict"==Value.type "tuple")=false:=by decide
 rw [if_neg (show ¬(Builtin.List.listSameRef (.ref S) (.ref d)|| Value.type "dict"==Value.type "list"|| Value.type "dict"==Value.type "tuple")=true from by rw [h1,h2,h3];decide)]
 refine wpAny_bind (iterD hd hm ?_)
 refine wpAny_bind (wpAny_holding (hintD hd (hm.at fun o e=>Heap.get?_push_of_some _ e) ?_))
 have hit₁:(s.heap.push {cls:=.type "dict_keyiterator",data:=.fields #[.ref d,.int 0 0,.int es.size 0,.int ep 0]}).IsKeyIter s.heap.objs.size d 0 es.size ep:=⟨_,Heap.get?_push_size _ rfl,rfl,rfl⟩
 have hS₁:=Heap.get?_push_of_some {cls:=.type "dict_keyiterator",data:=.fields #[.ref d,.int 0 0,.int es.size 0,.int ep 0]} hS
 refine wpAny_ite_split (fun _=> ?_) (fun _=>wpAny_pure ⟨plainId_quiet F.plain_extend_loop _,key _ c₀ _ hit₁ (fun b o _ e=>Heap.get?_push_of_some _ e) hS₁⟩)
 refine wpAny_bind (wpAny_rule ?_)
 refine wpAny_bind ?_
 show wpAny _ _ (updateSeq S (·.push .none)>>=fun _=>updateSeq S (·.pop)) _ _ _
 refine wpAny_bind (wpAny_updateSeq hS₁ rfl ?_)
 have hS₂:=Heap.get?_update_self (Obj.mapSeq (·.push Value.none)) hS₁ rfl
 refine wpAny_updateSeq (hz:=by seq_fits) hS₂ rfl ?_
 have hS₃:=Heap.get?_update_self (Obj.mapSeq (·.pop)) hS₂ rfl
 refine wpAny_pure ⟨plainId_quiet F.plain_extend_loop _,key _ _ _ (hit₁.at fun o e=> ?_) (fun b o hb e=> ?_) hS₃⟩
 ·exact (Heap.get?_update_other _ _ hSI).trans ((Heap.get?_update_other _ _ hSI).trans e)
 ·exact (Heap.get?_update_other _ _ (Ne.symm hb)).trans ((Heap.get?_update_other _ _ (Ne.symm hb)).trans (Heap.get?_push_of_some _ e))
theorem initD {R:Result->Shared->Prop}(hh:A.handled=none)(hd:(d==sysModules)=false)(hm:RawD s.heap d es ep)(hlen:es.size<=2^24)(S:Addr)(hS:s.heap.get? S=some {cls:=.type "list",data:=.seq #[]})
  (hR:∀h' tk acc' c',(∀b o,b≠S->s.heap.get? b=some o->h'.get? b=some o)->h'.get? S=some {cls:=.type "list",dict:=none,data:=.seq acc' c',slots:= #[]}->
   ItemsOf (fun i v=>∃e,es[i]? =some e/\v=e.key) acc' es.size->R (.ok (.ret .none)) {s with heap:=h',toks:=tk}):
  wpAny (model prog w) A.in1 (Builtin.«list.__init__» ⟨[.ref S,.ref d],[]⟩)
   (fun fin s'=>match fin with| .done f=>R (.ok f) s'| .again c'=>c'.quiet=true/\codeAny (model prog w) A c' R s') (fun e s'=>R (.error e) s') s:=by
 show wpAny _ _ (do let old<-Builtin.List.listItems (.ref S);Builtin.List.listUpdate (.ref S) (fun _=> #[]);letGo old.toList.reverse;Builtin.List.listExtendWith (.ref S) (.ref d) .none) _ _ s
 refine wpAny_bind ?_
 refine wpAny_bind (wpAny_seqItems hS rfl (wpAny_pure ?_))
 refine wpAny_bind (wpAny_updateSeq hS rfl ?_)
 have hS₂:=Heap.get?_update_self (Obj.mapSeq (fun _=>(#[]:Array Value))) hS rfl
 have oth:∀b o,b≠S->s.heap.get? b=some o->(s.heap.update S (Obj.mapSeq (fun _=>(#[]:Array Value)))).get? b=some o:=
  fun b o hb e=>(Heap.get?_update_other _ _ (Ne.symm hb)).trans e
 refine wpAny_bind (wpAny_letGo ?_)
 refine extendD hh hd (hm.at fun o e=>oth d o (Ne.symm (fun e=>by
  obtain ⟨o,ho,hc,hdat⟩:=hm
  rw [e,ho] at hS
  obtain rfl:=Option.some.inj hS
  contradiction)) e) hlen S .none _ hS₂ fun h' tk acc' c' hk hS' hacc=> ?_
 exact hR h' tk acc' c' (fun b o hb e=>hk b o hb (oth b o hb e)) hS' hacc
theorem listD {Q:Value->Shared->Prop}(hh:A.handled=none)(hd:(d==sysModules)=false)(hm:RawD s.heap d es ep)(hlen:es.size<=2^24)
  (hQ:∀h' tk acc' c',(∀b o,s.heap.get? b=some o->h'.get? b=some o)->h'.get? s.heap.objs.size=some {cls:=.type "list",dict:=none,data:=.seq acc' c',slots:= #[]}->
   ItemsOf (fun i v=>∃e,es[i]? =some e/\v=e.key) acc' es.size->Q (.ref s.heap.objs.size) {s with heap:=h',toks:=tk}):wpAny (model prog w) A (call (.type "list") [.ref d]) Q E s:=by
 refine callType_codes (Q₁:=fun obj s₁=>obj=.ref s.heap.objs.size/\s₁={s with heap:=s.heap.push {cls:=.type "list",data:=.seq #[]}}) F.called_list (F.typeCall_list_1 _) F.entry_list_init
  (code_list_new _ ⟨rfl,rfl⟩) fun obj s₁ h₁=> ?_
 obtain ⟨rfl,rfl⟩:=h₁
 have hS:(s.heap.push {cls:=.type "list",data:=.seq #[]}).get? s.heap.objs.size=some {cls:=.type "list",data:=.seq #[]}:=Heap.get?_push_size _ rfl
 refine ⟨⟨_,hS,rfl⟩,F.args_list_init_2 _ _,initD (A:=A.in1) hh hd (hm.at fun o e=>Heap.get?_push_of_some _ e) hlen _ hS fun h' tk acc' c' hk hS' hacc=> ?_⟩
 exact ⟨rfl,hQ h' tk acc' c' (fun b o e=>hk b o (Nat.ne_of_lt (Heap.lt_size e)) (Heap.get?_push_of_some _ e)) hS' hacc⟩
end
section
variable {c:Cx} {A:Around} {fr:List Addr} {σ:Sto} {X:Addr->Sto->Prop} {Q:D->Sto->Prop} {env:Env} {m:Vars} {N:Vars->Sto->Prop} {R:D->Sto->Prop}
theorem At1.listRows {a:Addr}{rs:List (List Int)}(hm:(a,O.rows rs)∈σ)(hh:A.handled=none)(hsz:rs.length<=sizeLine)(h:QL Q (rs.map row) σ):At1 c A fr σ (.type "list") [.ref a] Q X:=.one fun s v ok hv=>by
 subst hv
 obtain ⟨as,hl,⟨hv,hne⟩,o,es,ep,g,ex,hd,he,hk,nd⟩:=ok.sto _ hm
 have hes:es.size=rs.length:=by
  rw [<-Array.length_toList,he];unfold rowItems;simp [hl]
 refine listD hh hne ⟨o,g,ex,hd⟩ (by rw [hes];exact z993 (rfl) hsz) fun h' tk acc' c' kp g' hI=> ?_
 have hn:∀a∈[s.heap.objs.size],s.heap.get? a=none:=fun a ha=>by rw [List.mem_singleton.mp ha];exact none_of_ge (Nat.le_refl _)
 have oka:=ok.more kp hn (fun a ha=>by exact (List.mem_singleton.mp ha)▸⟨_,g'⟩) (by simp)
 have hacc:acc'.toList=as.map Value.ref:=by
  apply List.ext_getElem?
  intro i
  simp only [Array.getElem?_toList,List.getElem?_map]
  cases hq:acc'[i]? with
  | none=>
   have h2:=Array.getElem?_eq_none_iff.mp hq
   rw [List.getElem?_eq_none (z994 hl (hI.1) hes h2)];rfl
  | some v=>
   obtain ⟨en,e1,rfl⟩:=hI.2 i v hq
   rw [entry_at he i] at e1
   obtain ⟨x,hx,rfl⟩:=Option.map_eq_some_iff.mp e1
   unfold rowItems at hx
   replace hx:=(List.getElem?_map ..).symm.trans hx
   obtain ⟨p,hp,rfl⟩:=Option.map_eq_some_iff.mp hx
   obtain ⟨_,hp2⟩:=List.getElem?_zip_eq_some.mp hp
   simp only [hp2];rfl
 refine QL.use (G:=none) (vs:=as.map Value.ref) (n:=c') (s':={s with heap:=h',toks:=tk}) h (Post.keeps kp) oka ok.frames_in (by simp only [g',<-hacc]) (Vs.move (K:=keys σ++fr) (fun b o _ e=>kp b o e) (less_add hn) _ _ hv) (hn _ (by exact .head _))
end
end Mine
set_option maxHeartbeats 1000000
namespace Mine
open PySem PySem.Calls PyProof.Rows
section
variable {prog:Program} {w:World} {A:Around} {E:Value->Shared->Prop} {s:Shared} {env:Env}
theorem Subscript_SliceG {value:Expr}{lower upper:Option Expr}{p pos:Pos}{T id:String}{Q:Value->Shared->Prop}
  (hl:typeLookup (.type T) "__getitem__"=pure (some (.builtin id)))
  (h:wpAny (model prog w) A (eval value env) (fun o s₁=>wpAny (model prog w) A (eval (.Slice lower upper none p) env) (fun i s₂=>s₂.TypeIs o T/\wpAny (model prog w) A (getItem o i) Q E s₂) E s₁) E s):
  wpAny (model prog w) A (eval (.Subscript value (.Slice lower upper none p) pos) env) Q E s:=by
 refine wpAny_bind (wpAny_mono h (fun o s₁ h₁=>wpAny_bind (wpAny_holding (wpAny_mono h₁ (fun i s₂ h₂=>wpAny_bind (wpAny_standAt ?_)) fun _ _ x=>x)))
  fun _ _ x=>x)
 have fin:wpAny (model prog w) A (operate [i,o] (getItem o i)) (fun r s₃=>wpAny (model prog w) A (letTemporaryGo value o r>>=fun _=>pure r) Q E s₃) E s₂:=
  wpAny_operating (wpAny_mono h₂.2 (fun r s₃ h₃=>wpAny_bind (wpAny_letTemporaryGo (wpAny_pure h₃))) fun _ _ x=>x)
 first
  | (refine wpAny_bind ?_
     refine wpAny_bind (wpAny_specialOf h₂.1 hl ?_)
     first
     | exact wpAny_pure (wpAny_bind fin)
     | exact wpAny_bind (wpAny_pure (wpAny_bind fin))
     | exact wpAny_bind fin)
  | (refine wpAny_bind (wpAny_specialOf h₂.1 hl ?_)
     first
     | exact wpAny_bind (wpAny_pure (wpAny_bind fin))
     | exact wpAny_bind fin)
theorem Subscript_list_sliceG {value:Expr}{lower upper:Option Expr}{p pos:Pos}{Q:Value->Shared->Prop}
  (h:wpAny (model prog w) A (eval value env) (fun o s₁=>wpAny (model prog w) A (evalPart lower env) (fun vl s₂=>wpAny (model prog w) A (evalPart upper env) (fun vu s₃=>
   ∃l items lo hi,o=.ref l/\s₃.heap.IsList l items/\items.size<=sizeLine/\IsPart vl lo/\IsPart vu hi/\
    Q (.ref (s₃.heap.objs.size+1)) {s₃ with heap:=(s₃.heap.push {cls:=.type "slice",data:=.fields #[vl,vu,.none]}).push {cls:=.type "list",data:=.seq (slicePick items lo hi none)}}) E s₂) E s₁) E s):
  wpAny (model prog w) A (eval (.Subscript value (.Slice lower upper none p) pos) env) Q E s:=by
 refine Subscript_SliceG (T:="list") list_getitem_lookup (wpAny_mono h (fun o s₁ h₁=>wpAny_Slice (wpAny_mono h₁ (fun vl s₂ h₂=>wpAny_mono h₂ (fun vu s₃ h₃=> ?_) fun _ _ e=>e) fun _ _ e=>e)) fun _ _ e=>e)
 obtain ⟨l,items,lo,hi,rfl,hl,hsz,pl,pu,hQ⟩:=h₃
 refine wpAny_pure ⟨(hl.push _).typeIs,wpAny_getItem_list_slice (hl.push _) (Heap.IsSliceOf.new ..) pl pu .none (by decide) ?_ hsz⟩
 simp only [Heap.size_push]
 exact hQ
end
section
variable {c:Cx} {A:Around} {fr:List Addr} {σ σ1 σ2:Sto} {X:Addr->Sto->Prop} {Q:D->Sto->Prop} {env:Env} {m:Vars} {N:Vars->Sto->Prop} {R:D->Sto->Prop}
theorem WE.sliceLG {value:Expr}{lower upper:Option Expr}{p pos:Pos}(h:WE c A fr env m σ value (fun d σ1=>WPt c A fr env m σ1 lower (fun lo σ2=>WPt c A fr env m σ2 upper (fun hi σ3=>∃sd:SD,d=sd.d/\sd.isL=true/\sd.inv σ3/\sd.ds.length<=sizeLine/\QL Q (pick sd.ds lo hi) σ3) X) X) X):WE c A fr env m σ (.Subscript value (.Slice lower upper none p) pos) Q X:=fun s ok fm=>by
 refine Subscript_list_sliceG (wpAny_mono (h s ok fm) (fun v s1 hz=> ?_) fun _ _ x=>x)
 obtain ⟨d,σ1,p1,ok1,x1,q1⟩:=hz
 refine wpAny_mono (q1.run ok1 (fm.move p1)) (fun vl s2 hz=> ?_) fun _ _ x=>Ex.back p1 x fun _ _ y=>y
 obtain ⟨lo,σ2,i2,p2,ok2,q2⟩:=hz
 refine wpAny_mono (q2.run ok2 ((fm.move p1).move p2)) (fun vu s3 hz=> ?_) fun _ _ x=>Ex.back (p1.trans p2) x fun _ _ y=>y
 obtain ⟨hi,σ3,i3,p3,ok3,sd,e,hL,inv,hsz,q3⟩:=hz
 subst e
 obtain ⟨l,rfl,z⟩:=SD.of_v (p3.v (p2.v x1))
 obtain ⟨vs,n,g,r⟩:=z.list ok3 inv hL
 refine ⟨l,vs.toArray,lo,hi,rfl,⟨_,g,rfl,n,rfl⟩,by simpa [r.length] using hsz,i2,i3,?_⟩
 have k1:∀b o,s3.heap.get? b=some o->(s3.heap.push {cls:=.type "slice",data:=.fields #[vl,vu,.none]}).get? b=some o:=fun b o e=>Heap.get?_push_of_some _ e
 have p4:Post [] fr σ3 s3 {s3 with heap:=s3.heap.push {cls:=.type "slice",data:=.fields #[vl,vu,.none]},toks:=s3.toks} σ3:=Post.keeps k1
 have e:slicePick vs.toArray lo hi none=((vs.drop (lo.elim 0 (clipAt sd.ds.length))).take (hi.elim sd.ds.length (clipAt sd.ds.length)-lo.elim 0 (clipAt sd.ds.length))).toArray:=by
  rw [slicePick_plain];simp [r.length]
 rw [e]
 obtain ⟨d5,σ5,p5,ok5,x5,q5⟩:=(newL (Q:=Q) (tk:=s3.toks) (s:={s3 with heap:=s3.heap.push {cls:=.type "slice",data:=.fields #[vl,vu,.none]},toks:=s3.toks}) (ok3.keeps k1) (p4.vs ((r.drop _).take _)) q3)
 have hs:(s3.heap.push {cls:=.type "slice",data:=.fields #[vl,vu,.none]}).objs.size=s3.heap.objs.size+1:=Heap.size_push _ _
 exact hs▸⟨d5,σ5,(((p1.trans p2).trans p3).trans p4).trans p5,ok5,x5,q5⟩
end
end Mine
namespace Mine
open PySem PyProof.Rows
set_option genInjectivity false in
structure SCx where
 prog:Program
 w:World
 A:Around
 E:Value->Shared->Prop
 s:Shared
 κ:SortKind
 x:Nat->Keyed
 rk:Nat->Nat
 ask:∀i j (Q:Bool->Shared->Prop) (E:Value->Shared->Prop),Q (Nat.blt (rk i) (rk j)) s->wpAny (model prog w) A (keyLt' κ (x i).1 (x j).1) Q E s
noncomputable abbrev PS:=List Nat × List Nat × List (Nat × Nat × Nat) × Nat
noncomputable def SCx.emb (c:SCx)(l:List Nat):Array Keyed:=(l.map c.x).toArray
noncomputable def SCx.st (c:SCx)(p:PS):SortSt:=SortSt.mk' c.κ (c.emb (p.1++p.2.1)) p.2.2.1.toArray p.2.2.2 none
set_option genInjectivity false in
structure Sm (c:SCx){α β:Type}(m:StateT SortSt Sem α)(f:β->α) where
 p:PS->Option (β × PS)
 ok:∀ps r,p ps=some r->∀Q:α->SortSt->Prop,Q (f r.1) (c.st r.2)->wpS (model c.prog c.w) c.A c.E c.s m Q (c.st ps)
noncomputable def stepF {α β:Type}(f:β->α):ForInStep β->ForInStep α
 | .done b=>.done (f b)
 | .yield b=>.yield (f b)
noncomputable def oM {α β:Type}(o:Option α)(a:α->β)(b:β):β:=match o with
 | some x=>a x
 | _=>b
noncomputable def oE {α β:Type}(o:Option α)(a:α->β)(b:β):β:=Option.rec b a o
section
variable {c:SCx} {α β γ δ:Type} {m:StateT SortSt Sem α} {f:β->α}
noncomputable def Sm.fail:Sm c m f:=⟨fun _=>none,fun _ _ h=>by cases h⟩
noncomputable def Sm.cast {m':StateT SortSt Sem α}(e:m=m')(s:Sm c m' f):Sm c m f:=⟨s.p,e▸s.ok⟩
noncomputable def Sm.ret (b:β){a:α}(e:a=f b):Sm c (pure a:StateT SortSt Sem α) f:=⟨fun ps=>some (b,ps),fun ps r h Q q=>by
 obtain rfl:=Option.some.inj h
 exact wpS_pure (e▸q)⟩
noncomputable def Sm.bind {g:δ->γ}{m:StateT SortSt Sem γ}{k:γ->StateT SortSt Sem α}(s1:Sm c m g)(s2:∀b,Sm c (k (g b)) f):Sm c (m>>=k) f:=⟨fun ps=>(s1.p ps).bind fun r=>(s2 r.1).p r.2,fun ps r h Q q=>by
 obtain ⟨r1,e1,e2⟩:=Option.bind_eq_some_iff.mp h
 exact wpS_bind (s1.ok ps r1 e1 _ ((s2 r1.1).ok r1.2 r e2 Q q))⟩
noncomputable def Sm.map {g:δ->α}(s:Sm c m g)(h:δ->β)(e:∀d,g d=f (h d)):Sm c m f:=⟨fun ps=>(s.p ps).map fun r=>(h r.1,r.2),fun ps r z Q q=>by
 obtain ⟨r1,e1,rfl⟩:=Option.map_eq_some_iff.mp z
 exact s.ok ps r1 e1 Q (by rw [e];exact q)⟩
noncomputable def Sm.get {k:SortSt->StateT SortSt Sem α}(s:∀ps,Sm c (k (c.st ps)) f):Sm c ((MonadState.get:StateT SortSt Sem SortSt)>>=k) f:=⟨fun ps=>(s ps).p ps,fun ps r h Q q=>wpS_bind (wpS_get ((s ps).ok ps r h Q q))⟩
noncomputable def Sm.mod {F:SortSt->SortSt}(g:PS->Option PS)(e:∀ps ps',g ps=some ps'->F (c.st ps)=c.st ps'):Sm c (modify F:StateT SortSt Sem PUnit) (id:PUnit->PUnit):=⟨fun ps=>(g ps).map fun q=>(⟨⟩,q),fun ps r h Q q=>by
 obtain ⟨r1,e1,rfl⟩:=Option.map_eq_some_iff.mp h
 exact wpS_modify (by rw [e ps r1 e1];exact q)⟩
noncomputable def cutL (l:List Nat)(q:Nat):List Nat:=Nat.rec l (fun _ r=>r.drop 16) q
noncomputable def getF (l:List Nat)(i:Nat):Option Nat:=(cutL l (i/16))[i % 16]?
theorem cutL_eq (l:List Nat):∀q,cutL l q=l.drop (16*q)
 | 0=>rfl
 | q+1=>(congrArg (List.drop 16) (cutL_eq l q)).trans List.drop_drop
theorem getF_eq (l:List Nat)(i:Nat):getF l i=l[i]? :=by unfold getF;rw [cutL_eq,List.getElem?_drop,Nat.div_add_mod]
noncomputable def Sm.elem {l:List Nat}{i:Nat}:Sm c (elem' (c.emb l) i) c.x:=⟨fun ps=>(getF l i).map fun e=>(e,ps),fun ps r h Q q=>by
 obtain ⟨e,e1,rfl⟩:=Option.map_eq_some_iff.mp h
 rw [getF_eq] at e1
 have:(c.emb l)[i]? =some (c.x e):=by unfold SCx.emb;rw [List.getElem?_toArray,List.getElem?_map,e1];rfl
 simp only [elem'_eq,this];exact wpS_pure q⟩
noncomputable def Sm.elem2 {l m:List Nat}{i:Nat}:Sm c (elem' (c.emb (l++m)) i) c.x:=⟨fun ps=>(if i<l.length then getF l i else getF m (i-l.length)).map fun e=>(e,ps),fun ps r h Q q=>by
 obtain ⟨e,e1,rfl⟩:=Option.map_eq_some_iff.mp h
 rw [getF_eq,getF_eq,<-List.getElem?_append] at e1
 exact Sm.elem.ok ps (e,ps) (by show (getF _ _).map _=_;rw [getF_eq,e1];rfl) Q q⟩
noncomputable def Sm.re (g:PS->PS)(e:∀ps,c.st (g ps)=c.st ps)(s:Sm c m f):Sm c m f:=⟨fun ps=>s.p (g ps),fun ps r h Q q=>e ps▸s.ok (g ps) r h Q q⟩
noncomputable def Sm.lt {i j:Nat}:Sm c (lt' (c.x i) (c.x j)) (some:Bool->Option Bool):=⟨fun ps=>some (Nat.blt (c.rk i) (c.rk j),ps),fun ps r h Q q=>by
 obtain rfl:=Option.some.inj h
 dsimp only [lt'_eq]
 exact wpS_bind (wpS_get (wpS_bind (wpS_lift (wpAny_attempt (c.ask i j _ _ ⟨rfl,wpS_pure q⟩)))))⟩
noncomputable def Sm.ite {p:Prop} [Decidable p] {m1 m2:StateT SortSt Sem α}(s1:Sm c m1 f)(s2:Sm c m2 f):Sm c (if p then m1 else m2) f:=⟨fun ps=>if p then s1.p ps else s2.p ps,fun ps r h Q q=>by
 by_cases hp:p
 ·rw [if_pos hp] at h⊢;exact s1.ok ps r h Q q
 ·rw [if_neg hp] at h⊢;exact s2.ok ps r h Q q⟩
noncomputable def Sm.opt {g:δ->γ}{o:Option δ}{a:γ->StateT SortSt Sem α}{b:StateT SortSt Sem α}(s1:∀d,Sm c (a (g d)) f)(s2:Sm c b f):Sm c (oE (o.map g) a b) f:=
 Option.rec (motive:=fun o=>Sm c (oE (o.map g) a b) f) s2 s1 o
noncomputable def Sm.some? {o:Option δ}(h:∀d,o=some d->Sm c m f):Sm c m f:=Option.rec (motive:=fun o=>(∀d,o=some d->Sm c m f)->Sm c m f) (fun _=>.fail) (fun d h=>h d rfl) o h
noncomputable def Sm.rule {r:String}:Sm c (liftM (PySem.rule r):StateT SortSt Sem Unit) (id:Unit->Unit):=⟨fun ps=>some ((),ps),fun ps r h Q q=>by
 obtain rfl:=Option.some.inj h
 exact wpS_lift (wpAny_rule ⟨rfl,q⟩)⟩
noncomputable def Sm.push {l o:List Nat}{i:Nat}{K:Array Keyed->StateT SortSt Sem α}(h:∀l,Sm c (K (c.emb l)) f):Sm c (elem' (c.emb l) i>>=fun z=>K ((c.emb o).push z)) f:=
 Sm.bind Sm.elem fun e=>(h (o++[e])).cast (by
  rw [show (c.emb o).push (c.x e)=c.emb (o++[e]) by unfold SCx.emb;simp])
noncomputable def lpS {body:Nat->α->StateT SortSt Sem (ForInStep α)}(h:∀i b,Sm c (body i (f b)) (stepF f))(n:Nat):Nat->β->PS->Option (β × PS):=
 Nat.rec (fun _ b ps=>some (b,ps)) (fun _ ih i b ps=>((h i b).p ps).bind fun r=>ForInStep.rec (motive:=fun _=>Option (β × PS)) (fun b=>some (b,r.2)) (fun b=>ih (i+1) b r.2) r.1) n
theorem lpS_ok {body:Nat->α->StateT SortSt Sem (ForInStep α)}(h:∀i b,Sm c (body i (f b)) (stepF f)){Q:α->SortSt->Prop}{r:β × PS}(q:Q (f r.1) (c.st r.2)):∀(n a:Nat) (b:β) (ps:PS),lpS h n a b ps=some r->wpS (model c.prog c.w) c.A c.E c.s (forIn (List.range' a n 1) (f b) body) Q (c.st ps):=by
 intro n
 induction n with
 | zero=>
  intro a b ps e
  obtain rfl:=Option.some.inj e
  exact wpS_pure q
 | succ n ih=>
  intro a b ps e
  obtain ⟨⟨r1,ps1⟩,e1,e2⟩:=Option.bind_eq_some_iff.mp e
  rw [List.range'_succ,List.forIn_cons]
  refine wpS_bind ((h a b).ok ps _ e1 _ ?_)
  cases r1 with
  | done b1=>obtain rfl:=Option.some.inj e2;exact wpS_pure q
  | yield b1=>exact ih _ b1 ps1 e2
noncomputable def Sm.forR {body:Nat->α->StateT SortSt Sem (ForInStep α)}{a n:Nat}(b0:β)(h:∀i b,Sm c (body i (f b)) (stepF f)):Sm c (forIn [a:n] (f b0) body) f:=⟨fun ps=>lpS h (n-a) a b0 ps,fun ps r e Q q=>by
 rw [Std.Legacy.Range.forIn_eq_forIn_range',show ([a:n]:Std.Legacy.Range).size=n-a by simp [Std.Legacy.Range.size]]
 exact lpS_ok h q _ _ _ _ e⟩
end
noncomputable def gallop':Bool->Keyed->Array Keyed->Nat->Nat->Nat->StateT SortSt Sem (Option Nat):=sortPriv% PySem.Builtin.gallop
noncomputable def beyond' (left:Bool)(key:Keyed)(arr:Array Keyed)(base:Nat)(i:Nat):StateT SortSt Sem (Option Bool):=
 elem' arr (base+i)>>=fun x=>if left=true then lt' x key else lt' key x>>=fun r=>pure (r.map (!·))
noncomputable abbrev GlT:=Option (Option Nat) × Nat × Nat
noncomputable def glU (left:Bool)(key:Keyed)(arr:Array Keyed)(base hint mx:Nat)(t:GlT):StateT SortSt Sem (ForInStep GlT):=
 if t.2.2>=mx then pure (.done (none,t.2.1,t.2.2)) else beyond' left key arr base (hint+t.2.2)>>=fun x=>
  oM x (fun more=>if (!more)=true then pure (.done (none,t.2.1,t.2.2)) else pure (.yield (none,t.2.2,2*t.2.2+1))) (pure (.done (some none,t.2.1,t.2.2)))
noncomputable def glD (left:Bool)(key:Keyed)(arr:Array Keyed)(base hint mx:Nat)(t:GlT):StateT SortSt Sem (ForInStep GlT):=
 if t.2.2>=mx then pure (.done (none,t.2.1,t.2.2)) else beyond' left key arr base (hint-t.2.2)>>=fun x=>
  oM x (fun found=>if found=true then pure (.done (none,t.2.1,t.2.2)) else pure (.yield (none,t.2.2,2*t.2.2+1))) (pure (.done (some none,t.2.1,t.2.2)))
noncomputable def glM (left:Bool)(key:Keyed)(arr:Array Keyed)(base:Nat)(t:GlT):StateT SortSt Sem (ForInStep GlT):=
 if t.2.1>=t.2.2 then pure (.done (none,t.2.1,t.2.2)) else beyond' left key arr base (t.2.1+(t.2.2-t.2.1)/2)>>=fun x=>
  oM x (fun more=>if more=true then pure (.yield (none,t.2.1+(t.2.2-t.2.1)/2+1,t.2.2)) else pure (.yield (none,t.2.1,t.2.1+(t.2.2-t.2.1)/2))) (pure (.done (some none,t.2.1,t.2.2)))
noncomputable def glE (left:Bool)(key:Keyed)(arr:Array Keyed)(base n lo hi:Nat):StateT SortSt Sem (Option Nat):=
 forIn [0:n] ((none,lo,hi):GlT) (fun _ t=>glM left key arr base t)>>=fun t=>oE t.1 pure (pure (some t.2.2))
theorem gallop'_eq (left:Bool)(key:Keyed)(arr:Array Keyed)(base n hint:Nat):gallop' left key arr base n hint=beyond' left key arr base hint>>=fun x=>oM x (fun right=>if right=true then
  forIn [0:n] ((none,0,1):GlT) (fun _ t=>glU left key arr base hint (n-hint) t)>>=fun t=>oE t.1 pure (glE left key arr base n (hint+t.2.1+1) (hint+min t.2.2 (n-hint)))
  else forIn [0:n] ((none,0,1):GlT) (fun _ t=>glD left key arr base hint (hint+1) t)>>=fun t=>oE t.1 pure (glE left key arr base n (hint+1-min t.2.2 (hint+1)) (hint-t.2.1))) (pure none):=by kernel_rfl
section
variable {c:SCx} {left:Bool} {kk base n hint mx:Nat} {l:List Nat}
noncomputable def sBeyond {i:Nat}:Sm c (beyond' left (c.x kk) (c.emb l) base i) (some:Bool->Option Bool):=
 Sm.bind Sm.elem fun e=>Sm.ite Sm.lt (Sm.bind Sm.lt fun b=>Sm.ret (!b) rfl)
noncomputable abbrev fG (t:Nat × Nat):GlT:=(none,t.1,t.2)
noncomputable def sGlU {t:Nat × Nat}:Sm c (glU left (c.x kk) (c.emb l) base hint mx (fG t)) (stepF fG):=
 Sm.ite (.ret (.done t) rfl) (Sm.bind sBeyond fun b=>Sm.ite (.ret (.done t) rfl) (.ret (.yield (t.2,2*t.2+1)) rfl))
noncomputable def sGlD {t:Nat × Nat}:Sm c (glD left (c.x kk) (c.emb l) base hint mx (fG t)) (stepF fG):=
 Sm.ite (.ret (.done t) rfl) (Sm.bind sBeyond fun b=>Sm.ite (.ret (.done t) rfl) (.ret (.yield (t.2,2*t.2+1)) rfl))
noncomputable def sGlM {t:Nat × Nat}:Sm c (glM left (c.x kk) (c.emb l) base (fG t)) (stepF fG):=
 Sm.ite (.ret (.done t) rfl) (Sm.bind sBeyond fun b=>Sm.ite (.ret (.yield (t.1+(t.2-t.1)/2+1,t.2)) rfl) (.ret (.yield (t.1,t.1+(t.2-t.1)/2)) rfl))
noncomputable def sGlE {lo hi:Nat}:Sm c (glE left (c.x kk) (c.emb l) base n lo hi) (some:Nat->Option Nat):=
 Sm.bind (Sm.forR (lo,hi) fun i t=>sGlM) fun t=>Sm.ret t.2 rfl
noncomputable def sGallop:Sm c (gallop' left (c.x kk) (c.emb l) base n hint) (some:Nat->Option Nat):=
 (Sm.bind sBeyond fun b=>Sm.ite (Sm.bind (Sm.forR (0,1) fun i t=>sGlU) fun t=>sGlE) (Sm.bind (Sm.forR (0,1) fun i t=>sGlD) fun t=>sGlE)).cast (gallop'_eq ..)
end
noncomputable def setMinGallop':Nat->StateT SortSt Sem Unit:=sortPriv% PySem.Builtin.setMinGallop
noncomputable def mergeLo':Array Keyed->Array Keyed->StateT SortSt Sem (Array Keyed):=sortPriv% PySem.Builtin.mergeLo
noncomputable def mergeHi':Array Keyed->Array Keyed->StateT SortSt Sem (Array Keyed):=sortPriv% PySem.Builtin.mergeHi
theorem setMinGallop'_eq (g:Nat):setMinGallop' g=modify fun s=>SortSt.mk' (kindOf s) (arrOf s) (pendingOf s) g (failedOf s):=rfl
noncomputable def lastOfA (a b out:Array Keyed)(ia ib:Nat):Array Keyed:=out++b.extract ib b.size++a.extract ia a.size
noncomputable def doneA (a b out:Array Keyed)(ia ib:Nat):Array Keyed:=out++a.extract ia a.size++b.extract ib b.size
noncomputable def doneH (a b out:Array Keyed)(na nb:Nat):Array Keyed:=a.extract 0 na++b.extract 0 nb++out.reverse
noncomputable def firstOfB (a b out:Array Keyed)(na nb:Nat):Array Keyed:=b.extract 0 nb++a.extract 0 na++out.reverse
noncomputable abbrev LoS:=ForInStep (Option (Array Keyed) × Array Keyed × Nat × Nat × Nat × Nat × Nat)
noncomputable abbrev LoA:=ForInStep (Option (Array Keyed) × Array Keyed × Nat × Nat × Nat × Nat)
noncomputable abbrev LoO:=ForInStep (Option (Array Keyed) × Array Keyed × Nat × Nat × Nat)
section
variable (a b:Array Keyed)
noncomputable def lo3K (ia ib mg k k1:Nat)(o:Array Keyed):StateT SortSt Sem LoS:=
 if (ia+1+1==a.size)=true then pure (.done (some (lastOfA a b o (ia+1) ib),o,ia+1,ib,mg,k,k1))
 else if (decide (k<7)&&decide (k1<7))=true then pure (.done (none,o,ia+1,ib,mg,k,k1)) else pure (.yield (none,o,ia+1,ib,mg,k,k1))
noncomputable def lo3 (o:Array Keyed)(ia ib mg k k1:Nat):StateT SortSt Sem LoS:=elem' a ia>>=fun z=>lo3K a b ia ib mg k k1 (o.push z)
noncomputable def lo2G (ia ib mg k k1:Nat)(o:Array Keyed):StateT SortSt Sem LoS:=
 if (ib==b.size)=true then pure (.done (some (doneA a b o ia ib),o,ia,ib,mg,k,k1)) else lo3 a b o ia ib mg k k1
noncomputable def lo2K (ia ib mg k bc:Nat)(o:Array Keyed):StateT SortSt Sem LoS:=
 if (ib+1==b.size)=true then pure (.done (some (doneA a b o ia (ib+1)),o,ia,ib+1,mg,k,bc))
 else elem' a ia>>=fun z=>gallop' true z b (ib+1) (b.size-(ib+1)) 0>>=fun x=>oM x (fun k1=>
   if k1>0 then lo2G a b ia (ib+1+k1) mg k k1 (o++b.extract (ib+1) (ib+1+k1)) else lo3 a b o ia (ib+1) mg k k1)
  (pure (.done (some (doneA a b o ia (ib+1)),o,ia,ib+1,mg,k,bc)))
noncomputable def lo2 (o:Array Keyed)(ia ib mg k bc:Nat):StateT SortSt Sem LoS:=elem' b ib>>=fun y=>lo2K a b ia ib mg k bc (o.push y)
noncomputable def lo1G (ia ib mg k bc:Nat)(o:Array Keyed):StateT SortSt Sem LoS:=
 if (ia+1==a.size)=true then pure (.done (some (lastOfA a b o ia ib),o,ia,ib,mg,k,bc))
 else if (ia==a.size)=true then pure (.done (some (doneA a b o ia ib),o,ia,ib,mg,k,bc)) else lo2 a b o ia ib mg k bc
noncomputable def lo1 (out:Array Keyed)(ia ib mg ac bc:Nat):StateT SortSt Sem LoS:=
 setMinGallop' mg>>=fun _=>elem' b ib>>=fun v=>gallop' false v a ia (a.size-ia) 0>>=fun x=>oM x (fun k=>
   if k>0 then lo1G a b (ia+k) ib mg k bc (out++a.extract ia (ia+k)) else lo2 a b out ia ib mg k bc)
  (pure (.done (some (doneA a b out ia ib),out,ia,ib,mg,ac,bc)))
noncomputable def loAB (mg ia ib bc:Nat)(o:Array Keyed):StateT SortSt Sem LoA:=
 if (ib+1==b.size)=true then pure (.done (some (doneA a b o ia (ib+1)),o,ia,ib+1,0,bc+1))
 else if bc+1>=mg then pure (.done (none,o,ia,ib+1,0,bc+1)) else pure (.yield (none,o,ia,ib+1,0,bc+1))
noncomputable def loAA (mg ia ib ac:Nat)(o:Array Keyed):StateT SortSt Sem LoA:=
 if (ia+1+1==a.size)=true then pure (.done (some (lastOfA a b o (ia+1) ib),o,ia+1,ib,ac+1,0))
 else if ac+1>=mg then pure (.done (none,o,ia+1,ib,ac+1,0)) else pure (.yield (none,o,ia+1,ib,ac+1,0))
noncomputable def loA (mg:Nat)(out:Array Keyed)(ia ib ac bc:Nat):StateT SortSt Sem LoA:=
 elem' b ib>>=fun u=>elem' a ia>>=fun v=>lt' u v>>=fun x=>oM x (fun w=>if w=true then elem' b ib>>=fun y=>loAB a b mg ia ib bc (out.push y) else elem' a ia>>=fun y=>loAA a b mg ia ib ac (out.push y))
  (pure (.done (some (doneA a b out ia ib),out,ia,ib,ac,bc)))
noncomputable def loG (out:Array Keyed)(ia ib mg ac bc:Nat):StateT SortSt Sem LoS:=if mg>1 then lo1 a b out ia ib (mg-1) ac bc else lo1 a b out ia ib mg ac bc
noncomputable def loP (mg:Nat)(t:Option (Array Keyed) × Array Keyed × Nat × Nat × Nat × Nat):StateT SortSt Sem LoO:=
 oE t.1 (fun r=>pure (.done (some r,t.2.1,t.2.2.1,t.2.2.2.1,mg))) (liftM (rule "list.sort.gallop")>>=fun _=>
  forIn [:a.size+b.size] ((none:Option (Array Keyed)),t.2.1,t.2.2.1,t.2.2.2.1,mg+1,t.2.2.2.2.1,t.2.2.2.2.2) (fun _ u=>loG a b u.2.1 u.2.2.1 u.2.2.2.1 u.2.2.2.2.1 u.2.2.2.2.2.1 u.2.2.2.2.2.2)>>=fun u=>
  oE u.1 (fun r=>pure (.done (some r,u.2.1,u.2.2.1,u.2.2.2.1,u.2.2.2.2.1))) (setMinGallop' (u.2.2.2.2.1+1)>>=fun _=>pure (.yield (none,u.2.1,u.2.2.1,u.2.2.2.1,u.2.2.2.2.1+1))))
noncomputable def loO (s:Option (Array Keyed) × Array Keyed × Nat × Nat × Nat):StateT SortSt Sem LoO:=
 forIn [:a.size+b.size] ((none:Option (Array Keyed)),s.2.1,s.2.2.1,s.2.2.2.1,0,0) (fun _ t=>loA a b s.2.2.2.2 t.2.1 t.2.2.1 t.2.2.2.1 t.2.2.2.2.1 t.2.2.2.2.2)>>=fun t=>loP a b s.2.2.2.2 t
noncomputable def mE (s:Option (Array Keyed)):StateT SortSt Sem (Array Keyed):=oE s pure (liftM (unsupported "internal:list.sort.merge-bound":Sem (Array Keyed)))
theorem mergeLo'_eq:mergeLo' a b=(liftM (rule "list.sort.merge-lo")>>=fun _=>elem' b 0>>=fun x=>
 if (1==b.size)=true then pure (doneA a b #[x] 0 1)
 else if (0+1==a.size)=true then pure (lastOfA a b #[x] 0 1)
 else get>>=fun st=>forIn [:a.size+b.size] ((none:Option (Array Keyed)), #[x],0,1,gallopOf st) (fun _ s=>loO a b s)>>=fun s=>mE s.1):=by kernel_rfl
end
noncomputable abbrev DL:=Bool × List Nat × Nat × Nat
section
variable {c:SCx} {a b:List Nat}
theorem emb_ext {l o:List Nat}{i j:Nat}:c.emb o++(c.emb l).extract i j=c.emb (o++(l.drop i).take (j-i)):=by
 unfold SCx.emb
 rw [List.extract_toArray,List.append_toArray,List.map_append,List.extract_eq_take_drop,List.map_take,List.map_drop]
noncomputable def fD (c:SCx)(a b:List Nat)(d:DL):Array Keyed:=cond d.1 (doneA (c.emb a) (c.emb b) (c.emb d.2.1) d.2.2.1 d.2.2.2) (lastOfA (c.emb a) (c.emb b) (c.emb d.2.1) d.2.2.1 d.2.2.2)
noncomputable def fS (c:SCx)(a b:List Nat){γ:Type}(t:Option DL × List Nat × γ):Option (Array Keyed) × Array Keyed × γ:=(t.1.map (fD c a b),c.emb t.2.1,t.2.2)
noncomputable def sSet {g:Nat}:Sm c (setMinGallop' g) (id:Unit->Unit):=(Sm.mod (fun ps=>some (ps.1,ps.2.1,ps.2.2.1,g)) fun ps ps' h=>by obtain rfl:=Option.some.inj h;rfl).cast (setMinGallop'_eq g)
noncomputable def sLo3 {o:List Nat}{ia ib mg k k1:Nat}:Sm c (lo3 (c.emb a) (c.emb b) (c.emb o) ia ib mg k k1) (stepF (fS c a b)):=
 Sm.push (K:=lo3K (c.emb a) (c.emb b) ia ib mg k k1) fun o=>Sm.ite (.ret (.done (some (false,o,ia+1,ib),o,ia+1,ib,mg,k,k1)) rfl) (Sm.ite (.ret (.done (none,o,ia+1,ib,mg,k,k1)) rfl) (.ret (.yield (none,o,ia+1,ib,mg,k,k1)) rfl))
noncomputable def sLo2 {o:List Nat}{ia ib mg k bc:Nat}:Sm c (lo2 (c.emb a) (c.emb b) (c.emb o) ia ib mg k bc) (stepF (fS c a b)):=
 Sm.push (K:=lo2K (c.emb a) (c.emb b) ia ib mg k bc) fun o=>Sm.ite (.ret (.done (some (true,o,ia,ib+1),o,ia,ib+1,mg,k,bc)) rfl) (Sm.bind Sm.elem fun z=>Sm.bind sGallop fun k1=>
  Sm.ite (Sm.cast (congrArg (lo2G (c.emb a) (c.emb b) ia (ib+1+k1) mg k k1) emb_ext)
   (Sm.ite (.ret (.done (some (true,_,ia,ib+1+k1),_,ia,ib+1+k1,mg,k,k1)) rfl) sLo3)) sLo3)
noncomputable def sLo1 {o:List Nat}{ia ib mg ac bc:Nat}:Sm c (lo1 (c.emb a) (c.emb b) (c.emb o) ia ib mg ac bc) (stepF (fS c a b)):=
 Sm.bind sSet fun _=>Sm.bind Sm.elem fun v=>Sm.bind sGallop fun k=>Sm.ite (Sm.cast (congrArg (lo1G (c.emb a) (c.emb b) (ia+k) ib mg k bc) emb_ext)
  (Sm.ite (.ret (.done (some (false,_,ia+k,ib),_,ia+k,ib,mg,k,bc)) rfl) (Sm.ite (.ret (.done (some (true,_,ia+k,ib),_,ia+k,ib,mg,k,bc)) rfl) sLo2))) sLo2
noncomputable def sLoA {o:List Nat}{mg ia ib ac bc:Nat}:Sm c (loA (c.emb a) (c.emb b) mg (c.emb o) ia ib ac bc) (stepF (fS c a b)):=
 Sm.bind Sm.elem fun u=>Sm.bind Sm.elem fun v=>Sm.bind Sm.lt fun w=>Sm.ite
  (Sm.push (K:=loAB (c.emb a) (c.emb b) mg ia ib bc) fun o=>Sm.ite (.ret (.done (some (true,o,ia,ib+1),o,ia,ib+1,0,bc+1)) rfl) (Sm.ite (.ret (.done (none,o,ia,ib+1,0,bc+1)) rfl) (.ret (.yield (none,o,ia,ib+1,0,bc+1)) rfl)))
  (Sm.push (K:=loAA (c.emb a) (c.emb b) mg ia ib ac) fun o=>Sm.ite (.ret (.done (some (false,o,ia+1,ib),o,ia+1,ib,ac+1,0)) rfl) (Sm.ite (.ret (.done (none,o,ia+1,ib,ac+1,0)) rfl) (.ret (.yield (none,o,ia+1,ib,ac+1,0)) rfl)))
noncomputable def sLoO {s:Option DL × List Nat × Nat × Nat × Nat}:Sm c (loO (c.emb a) (c.emb b) (fS c a b s)) (stepF (fS c a b)):=
 Sm.bind (Sm.forR (f:=fS c a b) (none,s.2.1,s.2.2.1,s.2.2.2.1,0,0) fun i t=>sLoA (o:=t.2.1)) fun t=>Sm.opt (o:=t.1) (g:=fD c a b) (fun d=>.ret (.done (some d,t.2.1,t.2.2.1,t.2.2.2.1,s.2.2.2.2)) rfl)
  (Sm.bind Sm.rule fun _=>Sm.bind (Sm.forR (f:=fS c a b) (none,t.2.1,t.2.2.1,t.2.2.2.1,s.2.2.2.2+1,t.2.2.2.2.1,t.2.2.2.2.2) fun i u=>Sm.ite (sLo1 (o:=u.2.1)) (sLo1 (o:=u.2.1))) fun u=>
   Sm.opt (o:=u.1) (g:=fD c a b) (fun d=>.ret (.done (some d,u.2.1,u.2.2.1,u.2.2.2.1,u.2.2.2.2.1)) rfl) (Sm.bind sSet fun _=>.ret (.yield (none,u.2.1,u.2.2.1,u.2.2.2.1,u.2.2.2.2.1+1)) rfl))
noncomputable def sMergeLo:Sm c (mergeLo' (c.emb a) (c.emb b)) (fD c a b):=
 Sm.cast (mergeLo'_eq ..) (Sm.bind Sm.rule fun _=>Sm.bind Sm.elem fun x=>Sm.ite (.ret (true,[x],0,1) rfl) (Sm.ite (.ret (false,[x],0,1) rfl) (Sm.get fun ps=>Sm.bind (Sm.forR (f:=fS c a b) (none,[x],0,1,ps.2.2.2) fun i s=>sLoO) fun s=>
  Sm.opt (o:=s.1) (g:=fD c a b) (fun d=>.ret d rfl) .fail)))
end
noncomputable abbrev HiS:=ForInStep (Option (Array Keyed) × Nat × Nat × Array Keyed × Nat × Nat × Nat)
noncomputable abbrev HiA:=ForInStep (Option (Array Keyed) × Nat × Nat × Array Keyed × Nat × Nat)
noncomputable abbrev HiO:=ForInStep (Option (Array Keyed) × Nat × Nat × Array Keyed × Nat)
section
variable (a b:Array Keyed)
noncomputable def hi3K (na nb mg k k1:Nat)(o:Array Keyed):StateT SortSt Sem HiS:=
 if (na-1==0)=true then pure (.done (some (doneH a b o (na-1) nb),na-1,nb,o,mg,k,k1))
 else if (decide (k<7)&&decide (k1<7))=true then pure (.done (none,na-1,nb,o,mg,k,k1)) else pure (.yield (none,na-1,nb,o,mg,k,k1))
noncomputable def hi3 (na nb:Nat)(o:Array Keyed)(mg k k1:Nat):StateT SortSt Sem HiS:=elem' a (na-1)>>=fun z=>hi3K a b na nb mg k k1 (o.push z)
noncomputable def hi2G (na k1 q mg k:Nat)(o:Array Keyed):StateT SortSt Sem HiS:=
 if (k1==1)=true then pure (.done (some (firstOfB a b o na k1),na,k1,o,mg,k,q))
 else if (k1==0)=true then pure (.done (some (doneH a b o na k1),na,k1,o,mg,k,q)) else hi3 a b na k1 o mg k q
noncomputable def hi2K (na nb mg k bc:Nat)(o:Array Keyed):StateT SortSt Sem HiS:=
 if (nb-1==1)=true then pure (.done (some (firstOfB a b o na (nb-1)),na,nb-1,o,mg,k,bc))
 else elem' a (na-1)>>=fun z=>gallop' true z b 0 (nb-1) (nb-1-1)>>=fun x=>oM x (fun k1=>
   if nb-1-k1>0 then hi2G a b na k1 (nb-1-k1) mg k (o++(b.extract k1 (nb-1)).reverse) else hi3 a b na (nb-1) o mg k (nb-1-k1))
  (pure (.done (some (doneH a b o na (nb-1)),na,nb-1,o,mg,k,bc)))
noncomputable def hi2 (na nb:Nat)(o:Array Keyed)(mg k bc:Nat):StateT SortSt Sem HiS:=elem' b (nb-1)>>=fun y=>hi2K a b na nb mg k bc (o.push y)
noncomputable def hi1G (k nb q mg bc:Nat)(o:Array Keyed):StateT SortSt Sem HiS:=
 if (k==0)=true then pure (.done (some (doneH a b o k nb),k,nb,o,mg,q,bc)) else hi2 a b k nb o mg q bc
noncomputable def hi1 (na nb:Nat)(out:Array Keyed)(mg ac bc:Nat):StateT SortSt Sem HiS:=
 setMinGallop' mg>>=fun _=>elem' b (nb-1)>>=fun v=>gallop' false v a 0 na (na-1)>>=fun x=>oM x (fun k=>
   if na-k>0 then hi1G a b k nb (na-k) mg bc (out++(a.extract k na).reverse) else hi2 a b na nb out mg (na-k) bc)
  (pure (.done (some (doneH a b out na nb),na,nb,out,mg,ac,bc)))
noncomputable def hiAA (mg na nb ac:Nat)(o:Array Keyed):StateT SortSt Sem HiA:=
 if (na-1==0)=true then pure (.done (some (doneH a b o (na-1) nb),na-1,nb,o,ac+1,0))
 else if ac+1>=mg then pure (.done (none,na-1,nb,o,ac+1,0)) else pure (.yield (none,na-1,nb,o,ac+1,0))
noncomputable def hiAB (mg na nb bc:Nat)(o:Array Keyed):StateT SortSt Sem HiA:=
 if (nb-1==1)=true then pure (.done (some (firstOfB a b o na (nb-1)),na,nb-1,o,0,bc+1))
 else if bc+1>=mg then pure (.done (none,na,nb-1,o,0,bc+1)) else pure (.yield (none,na,nb-1,o,0,bc+1))
noncomputable def hiA (mg na nb:Nat)(out:Array Keyed)(ac bc:Nat):StateT SortSt Sem HiA:=
 elem' b (nb-1)>>=fun u=>elem' a (na-1)>>=fun v=>lt' u v>>=fun x=>oM x (fun w=>if w=true then elem' a (na-1)>>=fun y=>hiAA a b mg na nb ac (out.push y) else elem' b (nb-1)>>=fun y=>hiAB a b mg na nb bc (out.push y))
  (pure (.done (some (doneH a b out na nb),na,nb,out,ac,bc)))
noncomputable def hiG (na nb:Nat)(out:Array Keyed)(mg ac bc:Nat):StateT SortSt Sem HiS:=if mg>1 then hi1 a b na nb out (mg-1) ac bc else hi1 a b na nb out mg ac bc
noncomputable def hiP (mg:Nat)(t:Option (Array Keyed) × Nat × Nat × Array Keyed × Nat × Nat):StateT SortSt Sem HiO:=
 oE t.1 (fun r=>pure (.done (some r,t.2.1,t.2.2.1,t.2.2.2.1,mg))) (liftM (rule "list.sort.gallop")>>=fun _=>
  forIn [:a.size+b.size] ((none:Option (Array Keyed)),t.2.1,t.2.2.1,t.2.2.2.1,mg+1,t.2.2.2.2.1,t.2.2.2.2.2) (fun _ u=>hiG a b u.2.1 u.2.2.1 u.2.2.2.1 u.2.2.2.2.1 u.2.2.2.2.2.1 u.2.2.2.2.2.2)>>=fun u=>
  oE u.1 (fun r=>pure (.done (some r,u.2.1,u.2.2.1,u.2.2.2.1,u.2.2.2.2.1))) (setMinGallop' (u.2.2.2.2.1+1)>>=fun _=>pure (.yield (none,u.2.1,u.2.2.1,u.2.2.2.1,u.2.2.2.2.1+1))))
noncomputable def hiO (s:Option (Array Keyed) × Nat × Nat × Array Keyed × Nat):StateT SortSt Sem HiO:=
 forIn [:a.size+b.size] ((none:Option (Array Keyed)),s.2.1,s.2.2.1,s.2.2.2.1,0,0) (fun _ t=>hiA a b s.2.2.2.2 t.2.1 t.2.2.1 t.2.2.2.1 t.2.2.2.2.1 t.2.2.2.2.2)>>=fun t=>hiP a b s.2.2.2.2 t
theorem mergeHi'_eq:mergeHi' a b=(liftM (rule "list.sort.merge-hi")>>=fun _=>elem' a (a.size-1)>>=fun x=>
 if (a.size-1==0)=true then pure (doneH a b #[x] (a.size-1) b.size)
 else if (b.size==1)=true then pure (firstOfB a b #[x] (a.size-1) b.size)
 else get>>=fun st=>forIn [:a.size+b.size] ((none:Option (Array Keyed)),a.size-1,b.size, #[x],gallopOf st) (fun _ s=>hiO a b s)>>=fun s=>mE s.1):=by kernel_rfl
end
section
variable {c:SCx} {a b:List Nat}
theorem emb_rev {l o:List Nat}{i j:Nat}:c.emb o++((c.emb l).extract i j).reverse=c.emb (o++((l.drop i).take (j-i)).reverse):=by
 unfold SCx.emb
 rw [List.extract_toArray,List.reverse_toArray,List.append_toArray,List.map_append,List.extract_eq_take_drop,List.map_reverse,List.map_take,List.map_drop]
noncomputable def fH (c:SCx)(a b:List Nat)(d:DL):Array Keyed:=cond d.1 (doneH (c.emb a) (c.emb b) (c.emb d.2.1) d.2.2.1 d.2.2.2) (firstOfB (c.emb a) (c.emb b) (c.emb d.2.1) d.2.2.1 d.2.2.2)
noncomputable def fT (c:SCx)(a b:List Nat){γ:Type}(t:Option DL × Nat × Nat × List Nat × γ):Option (Array Keyed) × Nat × Nat × Array Keyed × γ:=(t.1.map (fH c a b),t.2.1,t.2.2.1,c.emb t.2.2.2.1,t.2.2.2.2)
noncomputable def sHi3 {o:List Nat}{na nb mg k k1:Nat}:Sm c (hi3 (c.emb a) (c.emb b) na nb (c.emb o) mg k k1) (stepF (fT c a b)):=
 Sm.push (K:=hi3K (c.emb a) (c.emb b) na nb mg k k1) fun o=>Sm.ite (.ret (.done (some (true,o,na-1,nb),na-1,nb,o,mg,k,k1)) rfl) (Sm.ite (.ret (.done (none,na-1,nb,o,mg,k,k1)) rfl) (.ret (.yield (none,na-1,nb,o,mg,k,k1)) rfl))
noncomputable def sHi2 {o:List Nat}{na nb mg k bc:Nat}:Sm c (hi2 (c.emb a) (c.emb b) na nb (c.emb o) mg k bc) (stepF (fT c a b)):=
 Sm.push (K:=hi2K (c.emb a) (c.emb b) na nb mg k bc) fun o=>Sm.ite (.ret (.done (some (false,o,na,nb-1),na,nb-1,o,mg,k,bc)) rfl) (Sm.bind Sm.elem fun z=>Sm.bind sGallop fun k1=>
  Sm.ite (Sm.cast (congrArg (hi2G (c.emb a) (c.emb b) na k1 (nb-1-k1) mg k) emb_rev)
   (Sm.ite (.ret (.done (some (false,_,na,k1),na,k1,_,mg,k,nb-1-k1)) rfl) (Sm.ite (.ret (.done (some (true,_,na,k1),na,k1,_,mg,k,nb-1-k1)) rfl) sHi3))) sHi3)
noncomputable def sHi1 {o:List Nat}{na nb mg ac bc:Nat}:Sm c (hi1 (c.emb a) (c.emb b) na nb (c.emb o) mg ac bc) (stepF (fT c a b)):=
 Sm.bind sSet fun _=>Sm.bind Sm.elem fun v=>Sm.bind sGallop fun k=>Sm.ite (Sm.cast (congrArg (hi1G (c.emb a) (c.emb b) k nb (na-k) mg bc) emb_rev)
  (Sm.ite (.ret (.done (some (true,_,k,nb),k,nb,_,mg,na-k,bc)) rfl) sHi2)) sHi2
noncomputable def sHiA {o:List Nat}{mg na nb ac bc:Nat}:Sm c (hiA (c.emb a) (c.emb b) mg na nb (c.emb o) ac bc) (stepF (fT c a b)):=
 Sm.bind Sm.elem fun u=>Sm.bind Sm.elem fun v=>Sm.bind Sm.lt fun w=>Sm.ite
  (Sm.push (K:=hiAA (c.emb a) (c.emb b) mg na nb ac) fun o=>Sm.ite (.ret (.done (some (true,o,na-1,nb),na-1,nb,o,ac+1,0)) rfl) (Sm.ite (.ret (.done (none,na-1,nb,o,ac+1,0)) rfl) (.ret (.yield (none,na-1,nb,o,ac+1,0)) rfl)))
  (Sm.push (K:=hiAB (c.emb a) (c.emb b) mg na nb bc) fun o=>Sm.ite (.ret (.done (some (false,o,na,nb-1),na,nb-1,o,0,bc+1)) rfl) (Sm.ite (.ret (.done (none,na,nb-1,o,0,bc+1)) rfl) (.ret (.yield (none,na,nb-1,o,0,bc+1)) rfl)))
noncomputable def sHiO {s:Option DL × Nat × Nat × List Nat × Nat}:Sm c (hiO (c.emb a) (c.emb b) (fT c a b s)) (stepF (fT c a b)):=
 Sm.bind (Sm.forR (f:=fT c a b) (none,s.2.1,s.2.2.1,s.2.2.2.1,0,0) fun i t=>sHiA (o:=t.2.2.2.1)) fun t=>Sm.opt (o:=t.1) (g:=fH c a b) (fun d=>.ret (.done (some d,t.2.1,t.2.2.1,t.2.2.2.1,s.2.2.2.2)) rfl)
  (Sm.bind Sm.rule fun _=>Sm.bind (Sm.forR (f:=fT c a b) (none,t.2.1,t.2.2.1,t.2.2.2.1,s.2.2.2.2+1,t.2.2.2.2.1,t.2.2.2.2.2) fun i u=>Sm.ite (sHi1 (o:=u.2.2.2.1)) (sHi1 (o:=u.2.2.2.1))) fun u=>
   Sm.opt (o:=u.1) (g:=fH c a b) (fun d=>.ret (.done (some d,u.2.1,u.2.2.1,u.2.2.2.1,u.2.2.2.2.1)) rfl) (Sm.bind sSet fun _=>.ret (.yield (none,u.2.1,u.2.2.1,u.2.2.2.1,u.2.2.2.2.1+1)) rfl))
noncomputable def sMergeHi:Sm c (mergeHi' (c.emb a) (c.emb b)) (fH c a b):=
 Sm.cast (mergeHi'_eq ..) (Sm.bind Sm.rule fun _=>Sm.bind Sm.elem fun x=>Sm.ite (.ret (true,[x],(c.emb a).size-1,(c.emb b).size) rfl) (Sm.ite (.ret (false,[x],(c.emb a).size-1,(c.emb b).size) rfl) (Sm.get fun ps=>Sm.bind (Sm.forR (f:=fT c a b) (none,(c.emb a).size-1,(c.emb b).size,[x],ps.2.2.2) fun i s=>sHiO) fun s=>
  Sm.opt (o:=s.1) (g:=fH c a b) (fun d=>.ret d rfl) .fail)))
end
noncomputable def ascL (lo a nrem:Nat):StateT SortSt Sem AscSt:=
 forIn [a:nrem] ((none,a):AscSt) fun _ s=>ltAt' (lo+s.2) (lo+s.2-1)>>=fun x=>oM x (fun w=>if w=true then pure (.done (none,s.2)) else pure (.yield (none,s.2+1))) (pure (.done (some none,s.2)))
noncomputable def tail3L (lo n nrem:Nat):StateT SortSt Sem (Option Nat):=reverseSlice' lo (lo+n)>>=fun _=>ascL lo n nrem>>=fun s=>oE s.1 pure (pure (some s.2))
noncomputable def descL (lo n nrem:Nat):StateT SortSt Sem DescSt:=
 forIn [n:nrem] ((none,n,0):DescSt) fun _ s=>ltAt' (lo+s.2.1) (lo+s.2.1-1)>>=fun x=>oM x (fun w=>
   if w=true then if s.2.2>0 then reverseSlice' (lo+s.2.1-(s.2.2+1)) (lo+s.2.1)>>=fun _=>pure (.yield (none,s.2.1+1,0)) else pure (.yield (none,s.2.1+1,0))
   else ltAt' (lo+s.2.1-1) (lo+s.2.1)>>=fun x=>oM x (fun w=>if w=true then pure (.done (none,s.2.1,s.2.2)) else pure (.yield (none,s.2.1+1,s.2.2+1))) (pure (.done (some none,s.2.1,s.2.2))))
  (pure (.done (some none,s.2.1,s.2.2)))
noncomputable def descPartL (lo n nrem:Nat):StateT SortSt Sem (Option Nat):=liftM (rule "list.sort.descending-run")>>=fun _=>descL lo (n+1) nrem>>=fun s=>oE s.1 pure
  (if s.2.2>0 then reverseSlice' (lo+s.2.1-(s.2.2+1)) (lo+s.2.1)>>=fun _=>tail3L lo s.2.1 nrem else tail3L lo s.2.1 nrem)
noncomputable def cntK (lo nrem n:Nat):StateT SortSt Sem (Option Nat):=
 if (n==nrem)=true then pure (some n) else if n>1 then ltAt' lo (lo+n-1)>>=fun x=>oM x (fun w=>if w=true then pure (some n) else reverseSlice' lo (lo+n)>>=fun _=>descPartL lo n nrem) (pure none) else descPartL lo n nrem
theorem countRun'_eq2 (lo nrem:Nat):countRun' lo nrem=(ascL lo 1 nrem>>=fun s=>oE s.1 pure (cntK lo nrem s.2)):=by kernel_rfl
noncomputable def bsK (lo k:Nat)(s:Option Bool × Nat × Nat):StateT SortSt Sem (ForInStep (Option Bool × Nat × Nat)):=
 if s.2.1>=s.2.2 then pure (.done (none,s.2.1,s.2.2)) else ltAt' (lo+k) (lo+(s.2.1+s.2.2)/2)>>=fun x=>
  oM x (fun w=>if w=true then pure (.yield (none,s.2.1,(s.2.1+s.2.2)/2)) else pure (.yield (none,(s.2.1+s.2.2)/2+1,s.2.2))) (pure (.done (some false,s.2.1,s.2.2)))
theorem binarySort'_eq2 (lo n ok:Nat):binarySort' lo n ok=(forIn [max ok 1:n] ((none,()):Option Bool × Unit) (fun k _=>forIn [:k] ((none,0,k):Option Bool × Nat × Nat) (fun _ s=>bsK lo k s)>>=fun s=>
  oE s.1 (fun r=>pure (.done (some r,()))) (moveDown' (lo+k) (lo+s.2.1)>>=fun _=>pure (.yield (none,()))))>>=fun s=>oE s.1 pure (pure true)):=by kernel_rfl
noncomputable def oT {β:Type}(o:Option (Nat × Nat × Nat))(a:Nat->Nat->Nat->β)(b:β):β:=match o with
 | some (x,y,z)=>a x y z
 | _=>b
noncomputable def maT (sa:Nat)(r:Array Keyed):StateT SortSt Sem Bool:=
 modify (fun s=>setArr s (r.toList.zipIdx.foldl (fun a (p,j)=>a.setIfInBounds (sa+j) p) (arrOf s)))>>=fun _=>get>>=fun s=>pure (failedOf s).isNone
noncomputable def maJ (na nb sa:Nat)(x y:Array Keyed):StateT SortSt Sem Bool:=if na<=nb then mergeLo' x y>>=fun r=>maT sa r else mergeHi' x y>>=fun r=>maT sa r
noncomputable def maK (i:Nat)(s:SortSt)(sa na pw sb nb:Nat):StateT SortSt Sem Bool:=
 set (setPending s (((pendingOf s).setIfInBounds i (sa,na+nb,pw)).eraseIdxIfInBounds (i+1)))>>=fun _=>elem' (arrOf s) sb>>=fun v=>gallop' false v (arrOf s) sa na 0>>=fun o=>oM o (fun k=>
  if (na-k==0)=true then pure true else elem' (arrOf s) (sa+k+(na-k)-1)>>=fun v=>gallop' true v (arrOf s) sb nb (nb-1)>>=fun o=>oM o (fun nb=>
   if (nb==0)=true then pure true else maJ (na-k) nb (sa+k) ((arrOf s).extract (sa+k) sb) ((arrOf s).extract sb (sb+nb))) (pure false)) (pure false)
noncomputable def maM (o1 o2:Option (Nat × Nat × Nat))(K:Nat->Nat->Nat->Nat->Nat->StateT SortSt Sem Bool):StateT SortSt Sem Bool:=match (o1,o2) with
 | (some (sa,na,pw),some (sb,nb,_))=>K sa na pw sb nb
 | _=>liftM (unsupported "internal:list.sort.pending":Sem Bool)
theorem mergeAt'_eq (i:Nat):mergeAt' i=(get>>=fun s=>maM (pendingOf s)[i]? (pendingOf s)[i+1]? fun sa na pw sb nb=>maK i s sa na pw sb nb):=by kernel_rfl
noncomputable abbrev SrS:=ForInStep (Option Unit × Nat)
noncomputable def srT (lo n:Nat):StateT SortSt Sem SrS:=modify (fun s=>setPending s ((pendingOf s).push (lo,n,0)))>>=fun _=>pure (.yield (none,lo+n))
noncomputable def srM (i:Nat):StateT SortSt Sem (ForInStep (Option Unit × Unit)):=mergeAt' i>>=fun b=>if (!b)=true then pure (.done (some (),())) else pure (.yield (none,()))
noncomputable def srL (pw:Nat):StateT SortSt Sem (ForInStep (Option Unit × Unit)):=get>>=fun st=>
 oT (if (pendingOf st).size>1 then (pendingOf st)[(pendingOf st).size-2]? else none) (fun _ _ older=>if older<=pw then pure (.done (none,())) else srM ((pendingOf st).size-2)) (pure (.done (none,())))
noncomputable def srB (size lo n:Nat):StateT SortSt Sem SrS:=get>>=fun st=>oT (pendingOf st).back? (fun s1 n1 _=>
 forIn [:size] ((none,()):Option Unit × Unit) (fun _ _=>srL (power' size (2*s1+n1) (2*s1+n1+n1+n) size))>>=fun t=>oE t.1 (fun r=>pure (.done (some r,lo)))
  (modify (fun s=>setPending s ((pendingOf s).modify ((pendingOf s).size-1) fun x=>(x.1,x.2.1,power' size (2*s1+n1) (2*s1+n1+n1+n) size)))>>=fun _=>srT lo n)) (srT lo n)
noncomputable def srA (size mr lo:Nat):StateT SortSt Sem SrS:=if lo>=size then pure (.done (none,lo)) else countRun' lo (size-lo)>>=fun x=>oM x (fun n=>
 if n<mr then liftM (rule "list.sort.binary-insertion")>>=fun _=>binarySort' lo (min (size-lo) mr) n>>=fun b=>if (!b)=true then pure (.done (some (),lo)) else srB size lo (min (size-lo) mr) else srB size lo n) (pure (.done (some (),lo)))
noncomputable def srF:StateT SortSt Sem (ForInStep (Option Unit × Unit)):=get>>=fun st=>if (pendingOf st).size<=1 then pure (.done (none,())) else
 srM (if Option.any (fun x=>decide (x<(pendingOf st)[(pendingOf st).size-2+1]?.elim 0 fun x=>x.2.1)) (if (pendingOf st).size-2>0 then Option.map (fun x=>x.2.1) (pendingOf st)[(pendingOf st).size-2-1]? else none)=true then (pendingOf st).size-2-1 else (pendingOf st).size-2)
theorem sortRuns'_eq2:sortRuns'=(get>>=fun st=>forIn [:(arrOf st).size] ((none,0):Option Unit × Nat) (fun _ s=>srA (arrOf st).size (minRun' (arrOf st).size (arrOf st).size 0) s.2)>>=fun s=>oE s.1 pure
 (forIn [:(arrOf st).size] ((none,()):Option Unit × Unit) (fun _ _=>srF)>>=fun s=>oE s.1 pure (pure ()))):=by kernel_rfl
section
variable {c:SCx}
theorem bubble_emb {l:List Nat}{src dst v:Nat}(h:l[src]? =some v)(hd:dst<=src):bubble (c.emb l) src (src-dst)=c.emb ((l.eraseIdx src).insertIdx dst v):=by
 obtain ⟨hs,rfl⟩:=List.getElem?_eq_some_iff.mp h
 apply Array.ext_getElem?
 intro k
 rw [getElem?_bubble (by unfold SCx.emb;simpa using hs) (src-dst) (Nat.sub_le _ _),Nat.sub_sub_self hd]
 unfold SCx.emb
 simp only [List.getElem?_toArray,List.getElem?_map,List.getElem?_insertIdx,List.getElem?_eraseIdx,List.length_eraseIdx_of_lt hs,h]
 by_cases q1:k=dst
 ·subst q1
  rw [if_pos rfl,if_neg (Nat.lt_irrefl _),if_pos rfl,if_pos (z1388 hs hd)]
 ·rw [if_neg q1]
  by_cases q2:k<dst
  ·rw [if_neg (z1389 q2),if_pos q2,if_pos (z935 q2 hd)]
  ·rw [if_neg q2,if_neg q1]
   by_cases q3:k<=src
   ·rw [if_pos ⟨z1390 q2 q1,q3⟩,if_pos (z1391 q3 q2 q1)]
   ·rw [if_neg (fun z=>q3 z.2),if_neg (z1392 q3),Nat.sub_add_cancel (z1393 q2 q1)]
theorem wback_eq {α:Type}{sa:Nat}:∀(r:List α) (k:Nat) (xs:List α),sa+k+r.length<=xs.length->(r.zipIdx k).foldl (fun a x=>a.setIfInBounds (sa+x.2) x.1) xs.toArray=(xs.take (sa+k)++(r++xs.drop (sa+k+r.length))).toArray
 | [],k,xs,h=>by simp
 | p::r,k,xs,h=>by
  have hk:=z922 h
  refine (congrArg (fun z=>(r.zipIdx (k+1)).foldl (fun a x=>a.setIfInBounds (sa+x.2) x.1) z) (List.setIfInBounds_toArray ..)).trans ((wback_eq r (k+1) (xs.set (sa+k) p) (by simp only [List.length_set];exact z1394 h)).trans (congrArg List.toArray ?_))
  rw [List.drop_set_of_lt z1395,<-Nat.add_assoc sa k 1,List.take_add_one,List.take_set_of_le (Nat.le_refl _),List.getElem?_set_self hk,Nat.add_right_comm (sa+k) 1,Nat.add_assoc (sa+k)]
  simp
noncomputable def sLtAt {i j:Nat}:Sm c (ltAt' i j) (some:Bool->Option Bool):=Sm.cast (ltAt'_eq i j) (Sm.get fun ps=>Sm.bind (Sm.elem2 (l:=ps.1) (m:=ps.2.1)) fun e=>Sm.bind (Sm.elem2 (l:=ps.1) (m:=ps.2.1)) fun e'=>Sm.lt)
noncomputable def sAsc {lo a nrem:Nat}:Sm c (ascL lo a nrem) (fun n=>(none,n):Nat->AscSt):=
 Sm.forR (f:=(fun n=>(none,n):Nat->AscSt)) a fun i n=>Sm.bind sLtAt fun w=>Sm.ite (.ret (.done n) rfl) (.ret (.yield (n+1)) rfl)
noncomputable def sCount {lo nrem:Nat}:Sm c (countRun' lo nrem) (some:Nat->Option Nat):=
 Sm.cast (countRun'_eq2 ..) (Sm.bind sAsc fun n=>Sm.ite (.ret n rfl) (Sm.ite (Sm.bind sLtAt fun w=>Sm.ite (.ret n rfl) .fail) .fail))
theorem ins_app {v d:Nat}{m:List Nat}:∀(l:List Nat),(l++m).insertIdx (l.length+d) v=l++m.insertIdx d v
 | []=>by simp
 | a::l=>by rw [List.length_cons,Nat.add_right_comm,List.cons_append,List.insertIdx_succ_cons,ins_app l];rfl
noncomputable def sMove {n src dst:Nat}:Sm c (moveDown' (n+src) (n+dst)) (id:Unit->Unit):=
 Sm.cast (moveDown'_eq ..) (Sm.mod (fun ps=>cond (Nat.beq ps.1.length n&&Nat.ble dst src) ((getF ps.2.1 src).map fun v=>(ps.1,(ps.2.1.eraseIdx src).insertIdx dst v,ps.2.2)) none) fun ps ps' h=>by
  cases hb:Nat.beq ps.1.length n&&Nat.ble dst src with
  | true=>
   rw [hb] at h
   obtain ⟨v,e,rfl⟩:=Option.map_eq_some_iff.mp h
   rw [getF_eq] at e
   obtain ⟨h1,h2⟩:=(Bool.and_eq_true ..).mp hb
   obtain rfl:=Nat.eq_of_beq_eq_true h1
   have h2:=Nat.le_of_ble_eq_true h2
   have e':(ps.1++ps.2.1)[ps.1.length+src]? =some v:=by rw [List.getElem?_append_right z1003,Nat.add_sub_cancel_left];exact e
   refine congrArg (fun x=>SortSt.mk' c.κ x ps.2.2.1.toArray ps.2.2.2 none) ((bubble_emb e' (z1004 h2)).trans (congrArg c.emb ?_))
   rw [List.eraseIdx_append_of_length_le z1003,Nat.add_sub_cancel_left,ins_app]
  | false=>rw [hb] at h;cases h)
noncomputable def sBin {lo n ok:Nat}:Sm c (binarySort' lo n ok) (id:Bool->Bool):=
 Sm.re (fun ps=>((ps.1++ps.2.1).take lo,(ps.1++ps.2.1).drop lo,ps.2.2)) (fun ps=>congrArg (fun x=>SortSt.mk' c.κ (c.emb x) ps.2.2.1.toArray ps.2.2.2 none) (List.take_append_drop ..))<| Sm.cast (binarySort'_eq2 ..) (Sm.bind (Sm.forR (f:=(fun _=>(none,()):Unit->Option Bool × Unit)) () fun k _=>Sm.bind (Sm.forR (f:=(fun t=>(none,t.1,t.2):Nat × Nat->Option Bool × Nat × Nat)) (0,k) fun i t=>
   Sm.ite (.ret (.done t) rfl) (Sm.bind sLtAt fun w=>Sm.ite (.ret (.yield (t.1,(t.1+t.2)/2)) rfl) (.ret (.yield ((t.1+t.2)/2+1,t.2)) rfl))) fun t=>
  Sm.bind sMove fun _=>.ret (.yield ()) rfl) fun _=>.ret true rfl)
noncomputable def dLo (a b:List Nat)(d:DL):List Nat:=cond d.1 (d.2.1++a.drop d.2.2.1++b.drop d.2.2.2) (d.2.1++b.drop d.2.2.2++a.drop d.2.2.1)
noncomputable def dHi (a b:List Nat)(d:DL):List Nat:=cond d.1 (a.take d.2.2.1++b.take d.2.2.2++d.2.1.reverse) (b.take d.2.2.2++a.take d.2.2.1++d.2.1.reverse)
theorem fD_eq {a b:List Nat}(d:DL):fD c a b d=c.emb (dLo a b d):=by
 obtain ⟨q,o,i,j⟩:=d
 cases q<;>(simp [fD,dLo,doneA,lastOfA,SCx.emb];rw [List.take_of_length_le (by simp),List.take_of_length_le (by simp)])
theorem fH_eq {a b:List Nat}(d:DL):fH c a b d=c.emb (dHi a b d):=by
 obtain ⟨q,o,i,j⟩:=d
 cases q<;>simp [fH,dHi,doneH,firstOfB,SCx.emb]
theorem emb_cut {l:List Nat}{i j:Nat}:(c.emb l).extract i j=c.emb ((l.drop i).take (j-i)):=by
 unfold SCx.emb
 simp only [List.extract_toArray,List.extract_eq_take_drop,List.map_take,List.map_drop]
noncomputable def sMaT {sa:Nat}{r:List Nat}:Sm c (maT sa (c.emb r)) (id:Bool->Bool):=
 Sm.bind (Sm.mod (fun ps=>cond (Nat.ble (sa+r.length) (ps.1++ps.2.1).length) (some ((ps.1++ps.2.1).take sa++(r++(ps.1++ps.2.1).drop (sa+r.length)),[],ps.2.2)) none) fun ps ps' h=>by
  cases hd:Nat.ble (sa+r.length) (ps.1++ps.2.1).length with
  | true=>
   rw [hd] at h
   obtain rfl:=Option.some.inj h
   refine congrArg (fun x=>SortSt.mk' c.κ x ps.2.2.1.toArray ps.2.2.2 none) ?_
   refine (wback_eq (sa:=sa) (r.map c.x) 0 ((ps.1++ps.2.1).map c.x) (by simpa using Nat.le_of_ble_eq_true hd)).trans ?_
   unfold SCx.emb
   simp
  | false=>rw [hd] at h;cases h) fun _=>Sm.get fun ps=>.ret true rfl
noncomputable def sMaJ {na nb sa i j k m:Nat}{l:List Nat}:Sm c (maJ na nb sa ((c.emb l).extract i j) ((c.emb l).extract k m)) (id:Bool->Bool):=
 Sm.cast ((congrArg (maJ na nb sa ((c.emb l).extract i j)) emb_cut).trans (congrArg (fun x=>maJ na nb sa x _) emb_cut))
  (Sm.ite (Sm.bind (Sm.map (f:=c.emb) sMergeLo (dLo _ _) fD_eq) fun r=>sMaT) (Sm.bind (Sm.map (f:=c.emb) sMergeHi (dHi _ _) fH_eq) fun r=>sMaT))
noncomputable def Sm.set {β:Type}{st:SortSt}(ps':PS)(e:st=c.st ps'):Sm c (MonadStateOf.set st:StateT SortSt Sem PUnit) (id:PUnit->PUnit):=⟨fun _=>some (⟨⟩,ps'),fun ps r h Q q=>by
 obtain rfl:=Option.some.inj h
 exact wpS_modify (f:=fun _=>st) (by rw [e];exact q)⟩
noncomputable def sMergeAt {i:Nat}:Sm c (mergeAt' i) (id:Bool->Bool):=
 Sm.cast (mergeAt'_eq i) (Sm.get fun ps=>Sm.some? (o:=ps.2.2.1[i]?) fun t1 e1=>Sm.some? (o:=ps.2.2.1[i+1]?) fun t2 e2=>
  Sm.cast (show maM (pendingOf (c.st ps))[i]? (pendingOf (c.st ps))[i+1]? (fun sa na pw sb nb=>maK i (c.st ps) sa na pw sb nb)=maK i (c.st ps) t1.1 t1.2.1 t1.2.2 t2.1 t2.2.1 from by
   rw [show (pendingOf (c.st ps))[i]? =some t1 from e1▸List.getElem?_toArray,show (pendingOf (c.st ps))[i+1]? =some t2 from e2▸List.getElem?_toArray];rfl)
  (Sm.bind (Sm.set (β:=Unit) (ps.1,ps.2.1,(ps.2.2.1.set i (t1.1,t1.2.1+t2.2.1,t1.2.2)).eraseIdx (i+1),ps.2.2.2) (congrArg (fun x=>SortSt.mk' c.κ (c.emb (ps.1++ps.2.1)) x ps.2.2.2 none) (show ((ps.2.2.1.toArray).setIfInBounds i (t1.1,t1.2.1+t2.2.1,t1.2.2)).eraseIdxIfInBounds (i+1)=_ by rw [List.setIfInBounds_toArray,List.eraseIdxIfInBounds_toArray]))) fun _=>
   Sm.bind (Sm.elem2 (l:=ps.1) (m:=ps.2.1)) fun v=>Sm.bind (sGallop (l:=ps.1++ps.2.1)) fun k=>Sm.ite (.ret true rfl) (Sm.bind (Sm.elem2 (l:=ps.1) (m:=ps.2.1)) fun v=>Sm.bind (sGallop (l:=ps.1++ps.2.1)) fun nb=>Sm.ite (.ret true rfl) (sMaJ (l:=ps.1++ps.2.1)))))
noncomputable def Sm.oT {α β:Type}{f:β->α}{o:Option (Nat × Nat × Nat)}{a:Nat->Nat->Nat->StateT SortSt Sem α}{b:StateT SortSt Sem α}(s1:∀x y z,Sm c (a x y z) f)(s2:Sm c b f):Sm c (Mine.oT o a b) f:=
 Option.rec (motive:=fun o=>Sm c (Mine.oT o a b) f) s2 (fun t=>s1 t.1 t.2.1 t.2.2) o
noncomputable abbrev fU (_:Unit):Option Unit × Unit:=(none,())
noncomputable abbrev fN (n:Nat):Option Unit × Nat:=(none,n)
noncomputable def sSrM {i:Nat}:Sm c (srM i) (stepF fU):=Sm.bind sMergeAt fun b=>Sm.ite .fail (.ret (.yield ()) rfl)
noncomputable def sSrL {pw:Nat}:Sm c (srL pw) (stepF fU):=Sm.get fun ps=>Sm.oT (fun x y z=>Sm.ite (.ret (.done ()) rfl) sSrM) (.ret (.done ()) rfl)
noncomputable def sSrT {lo n:Nat}:Sm c (srT lo n) (stepF fN):=Sm.bind (Sm.mod (fun ps=>some (ps.1,ps.2.1,ps.2.2.1++[(lo,n,0)],ps.2.2.2)) fun ps ps' h=>by
 obtain rfl:=Option.some.inj h
 exact congrArg (fun x=>SortSt.mk' c.κ (c.emb (ps.1++ps.2.1)) x ps.2.2.2 none) (List.push_toArray ..)) fun _=>.ret (.yield (lo+n)) rfl
noncomputable def sSrB {size lo n:Nat}:Sm c (srB size lo n) (stepF fN):=Sm.get fun ps=>Sm.oT (fun s1 n1 z=>Sm.bind (Sm.forR (f:=fU) () fun i _=>sSrL) fun _=>Sm.bind (Sm.mod (fun ps=>some (ps.1,ps.2.1,ps.2.2.1.modify (ps.2.2.1.length-1) (fun x=>(x.1,x.2.1,power' size (2*s1+n1) (2*s1+n1+n1+n) size)),ps.2.2.2)) fun ps ps' h=>by
 obtain rfl:=Option.some.inj h
 exact congrArg (fun x=>SortSt.mk' c.κ (c.emb (ps.1++ps.2.1)) x ps.2.2.2 none) (List.modify_toArray ..)) fun _=>sSrT) sSrT
noncomputable def sSrA {size mr lo:Nat}:Sm c (srA size mr lo) (stepF fN):=
 Sm.ite (.ret (.done lo) rfl) (Sm.bind sCount fun n=>Sm.ite (Sm.bind Sm.rule fun _=>Sm.bind sBin fun b=>Sm.ite .fail sSrB) sSrB)
noncomputable def sSrF:Sm c srF (stepF fU):=Sm.get fun ps=>Sm.ite (.ret (.done ()) rfl) sSrM
noncomputable def sSort:Sm c sortRuns' (id:Unit->Unit):=Sm.cast sortRuns'_eq2 (Sm.get fun ps=>Sm.bind (Sm.forR (f:=fN) 0 fun i lo=>sSrA) fun _=>Sm.bind (Sm.forR (f:=fU) () fun i _=>sSrF) fun _=>.ret () rfl)
end
noncomputable def clN (n i:Nat):Nat:=if i<n then i else 0
noncomputable def upS (rk:Nat->Nat)(l:List Nat):Nat->Bool:=List.rec (motive:=fun _=>Nat->Bool) (fun _=>true) (fun a _ ih m=>Nat.blt m (rk a)&&ih (rk a)) l
theorem upS_ok {rk:Nat->Nat}:∀{l:List Nat} {m:Nat},upS rk l m=true->l.Pairwise (fun a b=>rk a<rk b)/\∀a∈l,m<rk a
 | [],m,_=>⟨.nil,nofun⟩
 | a::l,m,h=>by
  obtain ⟨h1,h2⟩:=(Bool.and_eq_true ..).mp (show (Nat.blt m (rk a)&&upS rk l (rk a))=true from h)
  have h1:=Nat.le_of_ble_eq_true h1
  obtain ⟨h3,h4⟩:=upS_ok h2
  refine ⟨List.pairwise_cons.mpr ⟨h4,h3⟩,fun b hb=> ?_⟩
  rcases List.mem_cons.mp hb with rfl| hb
  ·exact h1
  ·exact Nat.lt_trans h1 (h4 b hb)
noncomputable def endS (rk:Nat->Nat)(n:Nat)(o:Option (Unit × PS)):Bool:=Option.rec false (fun r=>upS rk (r.2.1++r.2.2.1) 0&&(r.2.1++r.2.2.1).isPerm (List.range n)) o
noncomputable def rk2 (i:Nat):Nat:=((i+1)/21+(i+1) % 21)*1000+i
noncomputable def rk3 (i:Nat):Nat:=((i+1)/36+(i+1)/6 % 6+(i+1) % 6)*1000+i
theorem sorted2 {c:SCx}(h:c.rk=fun i=>rk2 (clN 440 i)):endS rk2 440 ((sSort (c:=c)).p ([],List.range 440,[],7))=true:=by
 obtain ⟨prog,w,A,E,s,κ,x,rk,ask⟩:=c
 replace h:rk=_:=h
 subst h
 kernel_rfl
theorem sorted3 {c:SCx}(h:c.rk=fun i=>rk3 (clN 215 i)):endS rk3 215 ((sSort (c:=c)).p ([],List.range 215,[],7))=true:=by
 obtain ⟨prog,w,A,E,s,κ,x,rk,ask⟩:=c
 replace h:rk=_:=h
 subst h
 kernel_rfl
end Mine
set_option maxHeartbeats 1000000
namespace Mine
open PySem PySem.Calls PyProof.Rows PySem.W PySem.SeqAt
noncomputable def tailP (a:Addr)(before:Nat)(s:SortSt):Sem PySem.Fin:=do
 let sorted:=(arrOf s).map (·.2)
 let touched:=(<-seqEpoch a) !=before
 Builtin.List.listUpdate (.ref a) fun _=>sorted
 if let some e:=failedOf s then rule "list.sort.comparison-raised";throw e
 if touched then rule "list.sort.modified";raiseError "ValueError" "list modified during sort"
 ret .none
noncomputable def endP (a:Addr)(items:Array Value)(before:Nat):Sem PySem.Fin:=do
 let kind<-if items.size<2 then pure general' else keyKind' items
 let ((),s)<-(if items.size<2 then pure () else sortRuns').run (SortSt.mk' kind (items.zip items) #[] 7 none)
 tailP a before s
theorem list_sort_P (a:Addr):Builtin.«list.sort» ⟨[.ref a],[]⟩=(do
  let items<-Builtin.List.listItems (.ref a)
  Builtin.List.listUpdate (.ref a) fun _=> #[]
  let before<-seqEpoch a
  let held<-newTuple items.toList
  let keyStore<-newList []
  holding [held,keyStore] (endP a items before)):=rfl
inductive Spc (rows:List (List Int)):Prop
 | mk (rk:Nat->Nat) (hrk:∀i j,i<rows.length->j<rows.length->keyLt (rows.getD i []) (rows.getD j [])=Nat.blt (rk i) (rk j))
   (hev:∀c:SCx,c.rk=(fun i=>rk (clN rows.length i))->endS rk rows.length ((sSort (c:=c)).p ([],List.range rows.length,[],7))=true):Spc rows
theorem spc_run {c:Cx}{A:Around}{rows:List (List Int)}{vs:List Value}{K:List Addr}{s:Shared}{E:Value->Shared->Prop}(S:Spc rows)(h0:0<rows.length)(hu:A.units+12<cLine)(hk:Vs K s.heap (rows.map keyD) vs):
  wpS (model c.prog c.w) A E s sortRuns' (fun _ st'=>∃p:Array Nat,p.Perm (List.range rows.length).toArray/\Up (rank rows) p rows.length/\arrOf st'=p.map (kas_item (vs.toArray.zip vs.toArray))/\failedOf st'=none) (SortSt.mk' (tuples' true) (vs.toArray.zip vs.toArray) #[] 7 none):=by
 obtain ⟨rk,hrk,hev⟩:=S
 have hv:vs.length=rows.length:=by simpa using hk.length
 have cl:∀i,clN rows.length i<rows.length:=fun i=>by unfold clN;split<;>assumption
 have ask:∀i j (Q:Bool->Shared->Prop) (E:Value->Shared->Prop),Q (Nat.blt (rk (clN rows.length i)) (rk (clN rows.length j))) s->wpAny (model c.prog c.w) A (keyLt' (tuples' true) (kas_item (vs.toArray.zip vs.toArray) (clN rows.length i)).1 (kas_item (vs.toArray.zip vs.toArray) (clN rows.length j)).1) Q E s:=fun i j Q E hq=>by
  have fst:∀{i:Nat},i<rows.length->(kas_item (vs.toArray.zip vs.toArray) i).1=vs.getD i Value.none:=fun {i} hi=>by
   have hz:i<(vs.toArray.zip vs.toArray).size:=by simp [hv,hi]
   have hi':i<vs.length:=hv▸hi
   simp [kas_item,Array.getD,hz,hi']
  rw [fst (cl i),fst (cl j)]
  exact keyLt_asked hu (hk.at (cl i)) (hk.at (cl j)) (by rw [hrk _ _ (cl i) (cl j)];exact hq)
 obtain ⟨C,hC⟩:∃C:SCx,C=⟨c.prog,c.w,A,E,s,tuples' true,fun i=>kas_item (vs.toArray.zip vs.toArray) (clN rows.length i),fun i=>rk (clN rows.length i),ask⟩:=⟨_,rfl⟩
 have e:=hev C (by rw [hC])
 have ok:=(sSort (c:=C)).ok ([],List.range rows.length,[],7)
 have emb:∀l:List Nat,(∀i∈l,i<rows.length)->C.emb l=l.toArray.map (kas_item (vs.toArray.zip vs.toArray)):=fun l hl=>by
  rw [hC,List.map_toArray]
  exact congrArg List.toArray (List.map_congr_left fun i hi=>by show kas_item _ (clN _ i)=_;rw [show clN rows.length i=i from if_pos (hl i hi)])
 have est:C.st ([],List.range rows.length,[],7)=SortSt.mk' (tuples' true) (vs.toArray.zip vs.toArray) #[] 7 none:=by
  have e2:C.emb ([]++List.range rows.length)=vs.toArray.zip vs.toArray:=by
   rw [List.nil_append,emb _ fun i hi=>List.mem_range.mp hi]
   apply Array.ext_getElem?
   intro k
   rw [Array.getElem?_map,List.getElem?_toArray]
   by_cases hk:k<rows.length
   ·rw [List.getElem?_range hk]
    have hz:k<(vs.toArray.zip vs.toArray).size:=by simp [hv,hk]
    rw [Array.getElem?_eq_getElem hz]
    show some (kas_item _ k)=_
    have hi':k<vs.length:=hv▸hk
    simp [kas_item,Array.getD,hi']
   ·rw [List.getElem?_eq_none (by simp;exact z12 hk),Array.getElem?_eq_none (by simp [hv];exact z12 hk)];rfl
  have e3:C.κ=tuples' true:=by rw [hC]
  unfold SCx.st
  rw [e2,e3]
 generalize (sSort (c:=C)).p ([],List.range rows.length,[],7)=o at e ok
 cases o with
 | none=>cases e
 | some r=>
  obtain ⟨e1,e2⟩:=(Bool.and_eq_true ..).mp e
  have hU:=(upS_ok e1).1
  have hP:=List.isPerm_iff.mp e2
  rw [<-est]
  have ok2:=ok r rfl (fun _ st'=>∃p:Array Nat,p.Perm (List.range rows.length).toArray/\Up (rank rows) p rows.length/\arrOf st'=p.map (kas_item (vs.toArray.zip vs.toArray))/\failedOf st'=none)
  rw [hC] at ok2⊢
  refine ok2 ?_
  rw [<-hC]
  have hlt:∀i∈r.2.1++r.2.2.1,i<rows.length:=fun i hi=>List.mem_range.mp (hP.mem_iff.mp hi)
  have hlen:(r.2.1++r.2.2.1).length=rows.length:=by have:=hP.length_eq;rwa [List.length_range] at this
  refine ⟨(r.2.1++r.2.2.1).toArray,Array.perm_iff_toList_perm.mpr (by simpa using hP),fun i j hij hj=> ?_,emb _ hlt,rfl⟩
  generalize r.2.1++r.2.2.1=L at*
  rcases Nat.lt_or_ge i j with q| q
  ·have hi:i<L.length:=hlen▸Nat.lt_trans q hj
   have hj':j<L.length:=hlen▸hj
   have h1:=List.pairwise_iff_getElem.mp hU i j hi hj' q
   have li:=hlt _ (List.getElem_mem hi)
   have lj:=hlt _ (List.getElem_mem hj')
   have h2:=(rank_lt li lj).trans ((hrk _ _ li lj).trans (Nat.ble_eq_true_of_le h1))
   have ei:L.toArray.getD i 0=L[i]:=by simp [Array.getD,hi]
   have ej:L.toArray.getD j 0=L[j]:=by simp [Array.getD,hj']
   unfold kk
   rw [ei,ej]
   exact Int.le_of_lt (of_decide_eq_true h2)
  ·rw [Nat.le_antisymm hij q];exact Int.le_refl _
section
variable {c:Cx} {A:Around} {fr:List Addr} {σ:Sto} {X:Addr->Sto->Prop} {Q:D->Sto->Prop}
theorem sort_endP {rows:List (List Int)}{vs:List Value}{K:List Addr}{a:Addr}{e1:Nat}{s:Shared}{P:PySem.Fin->Shared->Prop}{E:Value->Shared->Prop}(hu:A.units+12<cLine)(h64:rows.length<64\/Spc rows)(hk:Vs K s.heap (rows.map keyD) vs)
  (h:∀(st:SortSt) (us:List Value) (out:List (List Int)),failedOf st=none->(arrOf st).map (·.2)=us.toArray->out.Perm rows->out.Pairwise keyLe->Vs K s.heap (out.map keyD) us->wpAny (model c.prog c.w) A (tailP a e1 st) P E s):
  wpAny (model c.prog c.w) A (endP a vs.toArray e1) P E s:=by
 have hv:vs.length=rows.length:=by simpa using hk.length
 unfold endP
 by_cases h2:vs.toArray.size<2
 ·rw [if_pos h2,if_pos h2]
  refine wpAny_bind (wpAny_pure ?_)
  refine wpAny_bind (Q:=_) (m:=(pure ():StateT SortSt Sem Unit).run _) ?_
  rw [StateT.run_pure]
  refine wpAny_pure ?_
  have h2':rows.length<2:=by simpa [hv] using h2
  refine h _ vs rows rfl ?_ (.refl _) (pw_small h2') hk
  have e1:(arrOf (SortSt.mk' general' (vs.toArray.zip vs.toArray) #[] 7 none))=vs.toArray.zip vs.toArray:=rfl
  rw [e1]
  apply Array.toList_inj.mp
  rw [Array.toList_map,ksk_zip,List.toList_toArray]
  refine List.ext_getElem (by simp) fun i i1 i2=> ?_
  simp
 ·rw [if_neg h2,if_neg h2]
  have h2':2<=rows.length:=by simp [hv] at h2;exact h2
  obtain ⟨fs,t1,t2,t3⟩:=KatTups.of hk
  refine wpAny_bind (kat_kind (T:=.type "int") t1 (z955 h2' t2) (fun v hv'=>by obtain ⟨i,t,rfl⟩:=t3 v hv';exact Looks.of_pure rfl) rfl ?_)
  refine wpAny_bind (wpAny_mono (Q:=fun st' s'=>s'=s/\∃p:Array Nat,p.Perm (List.range rows.length).toArray/\Up (rank rows) p rows.length/\arrOf st'.2=p.map (kas_item (vs.toArray.zip vs.toArray))/\failedOf st'.2=none) ?_ ?_ fun _ _ x=>x)
  ·rcases h64 with h64| S
   ·refine kat_run (Q:=fun st' s'=>s'=s/\∃p:Array Nat,p.Perm (List.range rows.length).toArray/\Up (rank rows) p rows.length/\arrOf st'=p.map (kas_item (vs.toArray.zip vs.toArray))/\failedOf st'=none)
     (G:=fun p s'=>s'=s/\p.Perm (List.range rows.length).toArray/\Up (rank rows) p rows.length) rfl (z878 hv h2') (z807 h64 hv) (fun p st' s' a1 a2 a3 a4=>⟨a4.1,p,a4.2.1,a4.2.2,a2,a3⟩) ?_
    rw [hv]
    obtain ⟨b1,b2⟩:=sort_spec (rk:=rank rows) h2'
    refine kasWp_all (lt:=ltR (rank rows)) (R:=fun r=>Low rows.length r) (fun i j C hi hj hC=> ?_) _ (sort_all (z956 h2')) ⟨rfl,b1,b2⟩
    refine keyLt_asked hu (hk.at hi) (hk.at hj) ?_
    rw [<-rank_lt hi hj]
    exact hC
   ·exact spc_run S (Nat.lt_of_lt_of_le (by decide) h2') hu hk
  ·rintro ⟨⟨⟩,st'⟩ s' ⟨rfl,p,a1,a2,a3,a4⟩
   have hlow:∀i∈p.toList,i<rows.length:=fun i hi=>by
    have:=(Array.perm_iff_toList_perm.mp a1).mem_iff.mp hi
    simpa using this
   have hlen:p.toList.length=rows.length:=by
    have:=(Array.perm_iff_toList_perm.mp a1).length_eq
    simpa using this
   refine h st' _ _ a4 (kat_snds rfl a3) ?_ ?_ (hk.picked p.toList hlow)
   ·have:=(Array.perm_iff_toList_perm.mp a1).map fun i=>rows.getD i []
    rw [List.toList_toArray,range_getD] at this
    exact this
   ·rw [List.pairwise_iff_getElem]
    intro i j hi hj hij
    simp only [List.length_map] at hi hj
    have hjn:j<rows.length:=z39 hj hlen
    have:=a2 i j (z24 hij) hjn
    unfold kk at this
    have ei:p.getD i 0=p.toList[i]:=by
     have:i<p.size:=by simpa using hi
     simp [Array.getD,this]
    have ej:p.getD j 0=p.toList[j]:=by
     have:j<p.size:=by simpa using hj
     simp [Array.getD,this]
    rw [ei,ej] at this
    have li:=hlow _ (List.getElem_mem hi)
    have lj:=hlow _ (List.getElem_mem hj)
    simp only [List.getElem_map]
    unfold keyLe
    rw [<-rank_lt lj li]
    simpa using this
theorem call_sortedP {sd:SD}{rows:List (List Int)}{s:Shared}{v:Value}(hL:sd.isL=true)(hd:sd.ds=rows.map keyD)(inv:sd.inv σ)(hs:rows.length<64\/Spc rows)(h64:rows.length<=16777216)(hu:A.units+20<cLine)
  (ok:Ok c A fr σ s.heap) (hv:V (keys σ++fr) s.heap sd.d v)
  (h:∀out:List (List Int),out.Perm rows->out.Pairwise keyLe->QL Q (out.map keyD) σ):W c A none fr σ (call (.builtin "sorted") [v]) V Q X s:=by
 obtain ⟨l,rfl,z⟩:=SD.of_v hv
 obtain ⟨vs,n,g,r⟩:=z.list ok inv hL
 rw [hd] at r
 have hlen:vs.length=rows.length:=by simpa using r.length
 refine Calls.call_function_entry kind_sorted plain_sorted entry_sorted (args_sorted1 _) ?_
 unfold Builtin.«sorted»
 refine wpAny_bind (m:=checkCount "sorted" 1 1 _) (wpAny_pure ?_)
 refine wpAny_bind (collect_list ⟨_,g,rfl,n,rfl⟩ ?_ (by rw [sizeLine_eq];exact z645 hlen h64))
 refine wpAny_bind (wpAny_newList ?_ (by rw [sizeLine_eq];exact z645 hlen h64))
 have hsz:((s.heap.push (seqObj "list" #[] 0)).update s.heap.objs.size (Obj.mapSeq (· ++vs.toArray))).objs.size=s.heap.objs.size+1:=by
  rw [Heap.size_update,size_push']
 have hoL:(((s.heap.push (seqObj "list" #[] 0)).update s.heap.objs.size (Obj.mapSeq (· ++vs.toArray))).push (seqObj "list" vs.toArray 0)).get? (s.heap.objs.size+1)=some (seqObj "list" vs.toArray 0):=by
  rw [<-hsz];exact Heap.get?_push_size _ rfl
 have keep:∀b o,s.heap.get? b=some o->(((s.heap.push (seqObj "list" #[] 0)).update s.heap.objs.size (Obj.mapSeq (· ++vs.toArray))).push (seqObj "list" vs.toArray 0)).get? b=some o:=fun b o q=>by
  have hlt:b<s.heap.objs.size:=Heap.lt_size q
  rw [Heap.get?_push_ne _ _ _ (by rw [hsz];exact Nat.ne_of_lt (Nat.lt_succ_of_lt hlt)),Heap.get?_update_ne _ _ _ _ (Nat.ne_of_lt hlt),Heap.get?_push_ne _ _ _ (Nat.ne_of_lt hlt)]
  exact q
 have hsz2:(((s.heap.push (seqObj "list" #[] 0)).update s.heap.objs.size (Obj.mapSeq (· ++vs.toArray))).push (seqObj "list" vs.toArray 0)).objs.size=s.heap.objs.size+2:=by rw [size_push',hsz]
 show wpAny _ _ _ _ _ {s with heap:=((s.heap.push (seqObj "list" #[] 0)).update s.heap.objs.size (Obj.mapSeq (· ++vs.toArray))).push (seqObj "list" vs.toArray 0)}
 rw [hsz]
 revert hoL keep hsz2
 generalize ((s.heap.push (seqObj "list" #[] 0)).update s.heap.objs.size (Obj.mapSeq (· ++vs.toArray))).push (seqObj "list" vs.toArray 0)=H1
 intro hoL keep hsz2
 refine wpAny_bind (wpAny_holding (wpAny_call_entry slot_list_sort ⟨_,hoL,rfl⟩ entry_list_sort ?body (args_list_sort _)))
 show wpAny (model c.prog c.w) A.in1.in1 (Builtin.«list.sort» ⟨[.ref (s.heap.objs.size+1)],[]⟩) _ _ _
 rw [list_sort_P]
 have hnone:∀b,s.heap.objs.size<=b->s.heap.get? b=none:=fun b hb=>none_of_ge hb
 refine wpAny_bind (listItems_at hoL rfl ?_)
 obtain ⟨e1,ho1⟩:∃e1,(H1.update (s.heap.objs.size+1) (Obj.mapSeq fun _=>(#[]:Array Value))).get? (s.heap.objs.size+1)=some (seqObj "list" #[] e1):=⟨_,get?_update_seq hoL fun _=> #[]⟩
 refine wpAny_bind (listUpdate_at hoL rfl ?_ (by rw [List.size_toArray,sizeLine_eq];exact z645 hlen h64) (Nat.zero_le _))
 refine wpAny_bind (seqEpoch_at ho1 rfl ?_)
 refine wpAny_bind (wpAny_newTuple ?_ (by show vs.length<=_;rw [sizeLine_eq];exact z645 hlen h64))
 refine wpAny_bind (wpAny_newList ?_ (Nat.zero_le _))
 refine wpAny_holding ?_
 have hszk:((H1.update (s.heap.objs.size+1) (Obj.mapSeq fun _=>(#[]:Array Value))).push (seqObj "tuple" vs.toArray 0)).objs.size=s.heap.objs.size+3:=by rw [size_push',Heap.size_update,hsz2]
 show wpAny (model c.prog c.w) A.in1.in1 (endP (s.heap.objs.size+1) vs.toArray e1) _ _ {s with heap:=((H1.update (s.heap.objs.size+1) (Obj.mapSeq fun _=>(#[]:Array Value))).push (seqObj "tuple" vs.toArray 0)).push (seqObj "list" #[] 0)}
 have gk:(((H1.update (s.heap.objs.size+1) (Obj.mapSeq fun _=>(#[]:Array Value))).push (seqObj "tuple" vs.toArray 0)).push (seqObj "list" #[] 0)).get? (s.heap.objs.size+3)=some (lstObj [] 0):=by rw [<-hszk];exact Heap.get?_push_size _ rfl
 have ga:(((H1.update (s.heap.objs.size+1) (Obj.mapSeq fun _=>(#[]:Array Value))).push (seqObj "tuple" vs.toArray 0)).push (seqObj "list" #[] 0)).get? (s.heap.objs.size+1)=some (lstObj [] e1):=Heap.get?_push_of_some _ (Heap.get?_push_of_some _ ho1)
 have keep4:∀b o,s.heap.get? b=some o->(((H1.update (s.heap.objs.size+1) (Obj.mapSeq fun _=>(#[]:Array Value))).push (seqObj "tuple" vs.toArray 0)).push (seqObj "list" #[] 0)).get? b=some o:=fun b o q=>by
  have hlt:b<s.heap.objs.size:=Heap.lt_size q
  refine Heap.get?_push_of_some _ (Heap.get?_push_of_some _ ?_)
  rw [Heap.get?_update_ne _ _ _ _ (Nat.ne_of_lt (Nat.lt_succ_of_lt hlt))]
  exact keep b o q
 revert gk ga keep4
 generalize ((H1.update (s.heap.objs.size+1) (Obj.mapSeq fun _=>(#[]:Array Value))).push (seqObj "tuple" vs.toArray 0)).push (seqObj "list" #[] 0)=H4
 intro gk ga keep4
 have hn:∀b∈[s.heap.objs.size+1,s.heap.objs.size+3],s.heap.get? b=none:=fun b hb=>by
  simp only [List.mem_cons,List.not_mem_nil,or_false] at hb
  rcases hb with rfl| rfl
  ·exact hnone _ (Nat.le_add_right _ _)
  ·exact hnone _ (Nat.le_add_right _ _)
 have hne13:s.heap.objs.size+1≠s.heap.objs.size+3:=fun e=>by
  have:=Nat.add_left_cancel e
  cases this
 have ok4:Ok c A.in1.in1 ([s.heap.objs.size+1,s.heap.objs.size+3]++fr) σ H4:=(ok.more keep4 hn (fun b hb=>by
  simp only [List.mem_cons,List.not_mem_nil,or_false] at hb
  rcases hb with rfl| rfl
  ·exact ⟨_,ga⟩
  ·exact ⟨_,gk⟩) (by simp only [List.nodup_cons,List.mem_singleton,List.not_mem_nil,not_false_eq_true,List.nodup_nil,and_true];exact hne13)).around rfl
 have p4:Post [] fr σ s {s with heap:=H4,toks:=s.toks} σ:=Post.keeps keep4
 have r4:Vs (keys σ++([s.heap.objs.size+1,s.heap.objs.size+3]++fr)) H4 (rows.map keyD) vs:=Vs.move (K:=keys σ++fr) (fun b o _ e=>keep4 b o e) (less_add hn) _ _ r
 generalize hA:s.heap.objs.size+1=a at*
 generalize hK:s.heap.objs.size+3=kS at*
 have hin:=ok.frames_in
 have mem_a:a∈[a,kS]++fr:=by simp
 have mem_k:kS∈[a,kS]++fr:=by simp
 refine sort_endP (by show A.units+1+1+12<cLine;exact z961 hu) hs r4 fun st us out hst l3 l4 l5 l6=> ?_
 have l2:us.length=rows.length:=by
  have e1:=l6.length
  have e2:=l4.length_eq
  rw [List.length_map] at e1;exact z1002 e1 e2
 unfold tailP
 dsimp only
 rw [l3]
 refine wpAny_bind (seqEpoch_at ga rfl ?_)
 refine wpAny_bind (listUpdate_at ga rfl ?_ (Nat.zero_le _) (Nat.le_trans (Nat.le_of_eq (by simp [l2])) (by rw [sizeLine_eq];exact z689 h64:rows.length<=sizeLine+1)))
 rw [hst]
 simp only [bne_self_eq_false,Bool.false_eq_true,if_false]
 refine wpAny_pure ⟨_,rfl,wpAny_pure ⟨_,rfl,?_⟩⟩
 obtain ⟨cz,hcz⟩:∃cz,(H4.update a (Obj.mapSeq fun _=>us.toArray)).get? a=some (lstObj us cz):=⟨_,get?_update_seq ga fun _=>us.toArray⟩
 have kp2:∀b o,b∉[a,kS]->H4.get? b=some o->(H4.update a (Obj.mapSeq fun _=>us.toArray)).get? b=some o:=fun b o hb q=>by
  simp only [List.mem_cons,List.not_mem_nil,or_false,not_or] at hb
  rw [Heap.get?_update_ne _ _ _ _ hb.1]
  exact q
 have ow:Ow [a,kS] H4 (H4.update a (Obj.mapSeq fun _=>us.toArray)):=⟨kp2,fun b hb=>by
  simp only [List.mem_cons,List.not_mem_nil,or_false] at hb
  rcases hb with rfl| rfl
  ·exact ⟨_,hcz⟩
  ·refine ⟨lstObj [] 0,?_⟩
   rw [Heap.get?_update_ne _ _ _ _ (fun e=>hne13 e.symm)];exact gk⟩
 have pw:Post [a,kS] ([a,kS]++fr) σ {s with heap:=H4,toks:=s.toks} {s with heap:=H4.update a (Obj.mapSeq fun _=>us.toArray),toks:=s.toks} σ:=Post.ow (F:=[]) (s:={s with heap:=H4,toks:=s.toks}) (tk:=s.toks) ow
 have okw:Ok c A ([a]++([kS]++fr)) σ (H4.update a (Obj.mapSeq fun _=>us.toArray)):=(ok4.ow (fun b hb o q es n=>by
  simp only [List.mem_cons,List.not_mem_nil,or_false] at hb
  rcases hb with rfl| rfl
  ·rw [ga] at q;cases q;exact fun z=>by cases z
  ·rw [gk] at q;cases q;exact fun z=>by cases z) ow).around rfl
 have pf:Post (Fo none) fr σ s {s with heap:=H4.update a (Obj.mapSeq fun _=>us.toArray),toks:=s.toks} σ:=Post.drop (F:=[]) p4 hn pw
 have hvz:Vs (keys σ++([a]++fr)) (H4.update a (Obj.mapSeq fun _=>us.toArray)) (out.map keyD) us:=by
  have:=pw.vs l6
  exact Vs.move (K:=keys σ++([a,kS]++fr)) (fun b o _ q=>q) (fun b hb=>.inl (by
   simp only [List.mem_append,List.mem_cons,List.not_mem_nil,or_false] at hb⊢
   rcases hb with hb| hb| hb
   ·exact .inl hb
   ·exact .inr (.inl (.inl hb))
   ·exact .inr (.inr hb))) _ _ this
 exact QL.use (G:=none) (h _ l4 l5) pf (Ok.less (ex:=[a]) okw hin) hin hcz hvz (hn a (by simp))
theorem At1.sortedP {sd:SD}{rows:List (List Int)}{j:Nat}(r:Room j A)(hL:sd.isL=true)(hd:sd.ds=rows.map keyD)(inv:sd.inv σ)(hs:rows.length<64\/Spc rows)(h64:rows.length<=16777216)(h:∀out:List (List Int),out.Perm rows->out.Pairwise keyLe->QL Q (out.map keyD) σ):At1 c A fr σ (.builtin "sorted") [sd.d] Q X:=
 .one fun s v ok hv=>call_sortedP hL hd inv hs h64 (by have:=r.1.2;have e:cLine=9900:=rfl;exact z966 this e) ok hv h
end
end Mine
namespace Mine
open PySem PySem.Calls PyProof.Rows
noncomputable def Hs (m l:Vars):Prop:=∀x d,l.lookup x=some d->m.lookup x=some d
theorem Hs.nil {m:Vars}:Hs m []:=fun x d e=>by cases e
theorem Hs.cons {m l:Vars}{x:Str}{d:D}(h:m.lookup x=some d)(t:Hs m l):Hs m ((x,d)::l):=fun y e z=>by
 rw [List.lookup_cons] at z
 cases q:y==x with
 | true=>
  rw [q] at z
  have:y=x:=by simpa using q
  rw [this,h];exact z
 | false=>rw [q] at z;exact t y e z
theorem Hs.both {m l:Vars}(h:Hs m l):∀g:Vars,Hs (g++m) (g++l)
 | []=>h
 | (x,d)::g=>fun y e z=>by
  rw [List.cons_append,List.lookup_cons] at z⊢
  cases q:y==x with
  | true=>rw [q] at z;exact z
  | false=>rw [q] at z;exact h.both g y e z
section
variable {c:Cx} {A:Around} {fr:List Addr} {env:Env} {m:Vars} {σ:Sto} {N:Vars->Sto->Prop} {R:D->Sto->Prop} {X:Addr->Sto->Prop}
theorem WS.base {l:Vars}{ss:List Stmt}(h:Hs m l)(k:WS c A fr env l σ ss N R X):WS c A fr env m σ ss N R X:=fun s ok fm=>k s ok (fm.turn fun x d e=>⟨d,h x d e,fun v hv=>hv⟩)
end
/-! the walk as a function:what can be stepped by the text alone is stepped by evaluation;the text is named by roads,never written out-/
structure Sp (P:Prop):Prop where
 h:P
structure Cfg where
 B:List Stmt
 bs:List (Str × Value)
 gs:List (Str × Int)
 sc:Scope
 k:Nat
 f:Bool
 c:Cx
 A:Around
 X:Addr->Sto->Prop
 env:Env
 fr:List Addr
structure Gd (B:List Stmt)(bs:List (Str × Value))(gs:List (Str × Int))(sc:Scope)(k:Nat)(f:Bool)(c:Cx)(A:Around)(env:Env):Prop where
 T:Tp c B bs
 G:Gi c gs
 r:Room k A
 s:env.scope=sc
 fe:f=true->Fe A env sc
inductive Job where
 | E (e:Expr) (Q:D->Sto->Prop)
 | T (e:Expr) (Q:Bool->Sto->Prop)
 | A (es:List Expr) (Q:List D->Sto->Prop)
 | S (ss:List Stmt) (N:Vars->Sto->Prop) (R:D->Sto->Prop)
 | X (ss:List Stmt) (N:Vars->Sto->Prop) (R:D->Sto->Prop)
 | Ts (op:BoolOp) (es:List Expr) (Q:Bool->Sto->Prop)
 | Bs (op:BoolOp) (es:List Expr) (Q:D->Sto->Prop)
 | I (it tg:Expr) (Q:List Vars->(Sto->Prop)->Sto->Prop)
noncomputable abbrev RunT:=Vars->Sto->Job->Prop
noncomputable def Job.W (Γ:Cfg)(m:Vars)(σ:Sto):Job->Prop
 | .E e Q=>WE Γ.c Γ.A Γ.fr Γ.env m σ e Q Γ.X
 | .T e Q=>WT Γ.c Γ.A Γ.fr Γ.env m σ e Q Γ.X
 | .A es Q=>WA Γ.c Γ.A Γ.fr Γ.env m σ es Q Γ.X
 | .S ss N R=>WS Γ.c Γ.A Γ.fr Γ.env m σ ss N R Γ.X
 | .X ss N R=>WS Γ.c Γ.A Γ.fr Γ.env m σ ss N R Γ.X
 | .Ts op es Q=>WTs Γ.c Γ.A Γ.fr Γ.env m σ op es Q Γ.X
 | .Bs op es Q=>WBs Γ.c Γ.A Γ.fr Γ.env m σ op es Q Γ.X
 | .I it tg Q=>WIt Γ.c Γ.A Γ.fr Γ.env m σ it tg Q Γ.X
noncomputable def Job.stop (Γ:Cfg)(m:Vars)(σ:Sto)(j:Job):Prop:=Sp (j.W Γ m σ)
noncomputable def haltE (Γ:Cfg)(m:Vars)(σ:Sto)(e:Expr)(Q:D->Sto->Prop):Prop:=match Γ with| ⟨_,_,_,_,k,_,c,A,X,env,fr⟩=>Sp (WE c A fr env m σ e Q X)
noncomputable def haltT (Γ:Cfg)(m:Vars)(σ:Sto)(e:Expr)(Q:Bool->Sto->Prop):Prop:=match Γ with| ⟨_,_,_,_,k,_,c,A,X,env,fr⟩=>Sp (WT c A fr env m σ e Q X)
noncomputable def haltAr (Γ:Cfg)(m:Vars)(σ:Sto)(es:List Expr)(Q:List D->Sto->Prop):Prop:=match Γ with| ⟨_,_,_,_,k,_,c,A,X,env,fr⟩=>Sp (WA c A fr env m σ es Q X)
noncomputable def haltBs (Γ:Cfg)(m:Vars)(σ:Sto)(op:BoolOp)(es:List Expr)(Q:D->Sto->Prop):Prop:=match Γ with| ⟨_,_,_,_,k,_,c,A,X,env,fr⟩=>Sp (WBs c A fr env m σ op es Q X)
noncomputable def haltS (Γ:Cfg)(m:Vars)(σ:Sto)(ss:List Stmt)(N:Vars->Sto->Prop)(R:D->Sto->Prop):Prop:=match Γ with| ⟨_,_,_,_,k,_,c,A,X,env,fr⟩=>Sp (WS c A fr env m σ ss N R X)
noncomputable def halt1 (Γ:Cfg)(m:Vars)(σ:Sto)(s:Stmt)(N:Vars->Sto->Prop)(R:D->Sto->Prop):Prop:=match Γ with| ⟨_,_,_,_,k,_,c,A,X,env,fr⟩=>Sp (W1 c A fr env m σ s N R X)
noncomputable def haltB (Γ:Cfg)(σ:Sto)(t:Value->Value->Sem Value)(d1 d2:D)(Q:D->Sto->Prop):Prop:=match Γ with| ⟨_,_,_,_,k,_,c,A,X,env,fr⟩=>Sp (WB c A fr σ t d1 d2 Q X)
noncomputable def haltU (Γ:Cfg)(σ:Sto)(t:Value->Sem Value)(d:D)(Q:D->Sto->Prop):Prop:=match Γ with| ⟨_,_,_,_,k,_,c,A,X,env,fr⟩=>Sp (WU c A fr σ t d Q X)
noncomputable def haltTr (Γ:Cfg)(σ:Sto)(d:D)(Q:Bool->Sto->Prop):Prop:=match Γ with| ⟨_,_,_,_,k,_,c,A,X,env,fr⟩=>Sp (WTr c A fr σ d Q X)
noncomputable def haltF (Γ:Cfg)(f:Str)(ds:List D)(σ:Sto)(Q:D->Sto->Prop):Prop:=match Γ with| ⟨_,_,_,_,k,_,c,A,X,env,fr⟩=>Sp (WF c (Room k) f ds σ Q X)
noncomputable def haltA (Γ:Cfg)(σ:Sto)(v:Value)(ds:List D)(Q:D->Sto->Prop):Prop:=match Γ with| ⟨_,_,_,_,k,_,c,A,X,env,fr⟩=>Sp (At1 c A fr σ v ds Q X)
noncomputable def haltSb (Γ:Cfg)(σ:Sto)(v s:Expr)(d1 d2:D)(Q:D->Sto->Prop):Prop:=match Γ with| ⟨_,_,_,_,k,_,c,A,X,env,fr⟩=>Sp (WSb c A fr σ v s d1 d2 Q X)
noncomputable def haltIv (Γ:Cfg)(m:Vars)(σ:Sto)(d:D)(tg:Expr)(Q:List Vars->(Sto->Prop)->Sto->Prop):Prop:=match Γ with| ⟨_,_,_,_,k,_,c,A,X,env,fr⟩=>Sp (WIv c A fr env m σ d tg Q)
noncomputable abbrev stop {α:Type}(Q:α->Sto->Prop):α->Sto->Prop:=fun a σ=>Sp (Q a σ)
noncomputable abbrev nstop (N:Vars->Sto->Prop):Vars->Sto->Prop:=fun m σ=>Sp (N m σ)
/-! roads-/
noncomputable def no0:Expr:=.Constant .none 0 ⟨0,0,0,0⟩
noncomputable def eP:Expr->Expr × Expr × List Expr
 | .BinOp l _ r _=>(l,r,[])
 | .Compare l _ es _=>(l,no0,es)
 | .UnaryOp _ x _=>(x,no0,[])
 | .Subscript v s _=>(v,s,[])
 | .Call f as _ _=>(f,no0,as)
 | .Attribute v _ _=>(v,no0,[])
 | .ListComp e _ _ _=>(e,no0,[])
 | .BoolOp _ es _=>(no0,no0,es)
 | .List es _=>(no0,no0,es)
 | .Tuple es _ _=>(no0,no0,es)
 | _=>(no0,no0,[])
noncomputable def eL (e:Expr):Expr:=(eP e).1
noncomputable def eR (e:Expr):Expr:=(eP e).2.1
noncomputable def eS (e:Expr):List Expr:=(eP e).2.2
noncomputable def cP:Expr->List Comprehension × Scope
 | .ListComp _ gs s _=>(gs,s)
 | _=>([],⟨.function,[],false,false,[]⟩)
noncomputable def cG (e:Expr):Comprehension:=(cP e).1.headD ⟨no0,no0,[],0⟩
noncomputable def cS (e:Expr):Scope:=(cP e).2
noncomputable def hE (es:List Expr):Expr:=es.headD no0
noncomputable def hS (ss:List Stmt):Stmt:=ss.headD (.Pass ⟨0,0,0,0⟩)
noncomputable def sP:Stmt->Expr × Expr × List Stmt × List Stmt
 | .Return e _=>(e.getD no0,no0,[],[])
 | .Assign _ v _=>(v,no0,[],[])
 | .Expr e _=>(e,no0,[],[])
 | .If t a b _=>(t,no0,a,b)
 | .For t it b _ _=>(it,t,b,[])
 | .While t b _ _=>(t,no0,b,[])
 | _=>(no0,no0,[],[])
noncomputable def sE (s:Stmt):Expr:=(sP s).1
noncomputable def sT (s:Stmt):Expr:=(sP s).2.1
noncomputable def sA (s:Stmt):List Stmt:=(sP s).2.2.1
noncomputable def sB (s:Stmt):List Stmt:=(sP s).2.2.2
/-! the tests-/
noncomputable def bB (b:Bool)(p z:Prop):Prop:=match b with| true=>p| false=>z
noncomputable def oO {α:Type}(o:Option α)(f:α->Prop)(z:Prop):Prop:=match o with| some a=>f a| none=>z
noncomputable def isDef (B:List Stmt)(f:Str):Bool:=B.any fun s=>match recOf s with| some d=>d.name==f| none=>false
noncomputable def odd (x:Str):Bool:=x==("__debug__":Str)|| x==("__classdict__":Str)
noncomputable def tag:Expr->Nat
 | .Constant _ _ _=>1
 | .Slice _ _ _ _=>2
 | .Set _ _ _=>3
 | .ListComp _ _ _ _=>4
 | .SetComp _ _ _ _=>5
 | .DictComp _ _ _ _ _=>5
 | .Tuple _ _ _=>6
 | .Call _ _ _ _=>7
 | _=>0
noncomputable def isCst (e:Expr):Bool:=tag e==1
noncomputable def isSlice (e:Expr):Bool:=tag e==2
noncomputable def isSet (e:Expr):Bool:=tag e==3
noncomputable def isLC (e:Expr):Bool:=tag e==4
noncomputable def isComp (e:Expr):Bool:=tag e==4|| tag e==5
noncomputable def asNm:Expr->Option (Str × Pos)
 | .Name x p=>some (x,p)
 | _=>none
noncomputable def asAt:Expr->Option (Str × Pos)
 | .Attribute _ x p=>some (x,p)
 | _=>none
noncomputable def eK:Expr->List Keyword
 | .Call _ _ k _=>k
 | _=>[]
noncomputable def atIf:List Stmt->Bool
 | .If _ _ _ _::_=>true
 | _=>false
noncomputable def kd:Option NameKind->Nat
 | some .local=>1
 | some .cell=>2
 | some .free=>3
 | some .globalImplicit=>4
 | _=>0
noncomputable def isLoc (k:Option NameKind):Bool:=kd k==1|| kd k==2
noncomputable def isVar (k:Option NameKind):Bool:=kd k==1|| (kd k==2|| kd k==3)
noncomputable def isGlo (k:Option NameKind):Bool:=kd k==4
noncomputable def vk:Value->Nat
 | .builtin _=>1
 | .type _=>2
 | _=>0
noncomputable def isBT (v:Value):Bool:=vk v==1|| vk v==2
noncomputable def asTy:Value->Option String
 | .type T=>some T
 | _=>none
noncomputable def cOk (sc:Scope)(e:Expr):Bool:=((cP e).1.length==1&&(cG e).is_async==0)&&(compOk (cS e)&&(freeOk (cS e) sc&& !isSet (cG e).iter))
noncomputable def two (ts:List Expr)(f:Str->Str->Prop)(z:Prop):Prop:=bB (ts.length==2) (oO (asNm (hE ts)) (fun x=>oO (asNm (hE ts.tail)) (fun y=>f x.1 y.1) z) z) z
/-! two data and an operator-/
noncomputable def doBin (Γ:Cfg)(op:Operator)(cst:Bool)(Q:D->Sto->Prop)(d1 d2:D)(σ:Sto):Prop:=
 match d1,d2 with
 | .int a,.int b=>(match op with
  | .Add=>Q (.int (a+b)) σ
  | .Sub=>Q (.int (a-b)) σ
  | .Mod=>if (cst&&(decide (0<b)&&decide (b.natAbs<2^64)))=true then Q (.int (a % b)) σ else haltB Γ σ (binaryOp op) d1 d2 Q
  | .FloorDiv=>if (cst&&(decide (0<b)&&decide (b.natAbs<2^64)))=true then Q (.int (a/b)) σ else haltB Γ σ (binaryOp op) d1 d2 Q
  | _=>haltB Γ σ (binaryOp op) d1 d2 Q)
 | _,_=>haltB Γ σ (binaryOp op) d1 d2 Q
noncomputable def doCmp (Γ:Cfg)(op:CmpOp)(Q:D->Sto->Prop)(d1 d2:D)(σ:Sto):Prop:=
 match d1,d2 with
 | .int a,.int b=>(match op with
  | .Lt=>Q (.bool (decide (a<b))) σ
  | .LtE=>Q (.bool (decide (a<=b))) σ
  | .Gt=>Q (.bool (decide (b<a))) σ
  | .GtE=>Q (.bool (decide (b<=a))) σ
  | .Eq=>Q (.bool (a==b)) σ
  | .NotEq=>Q (.bool (a !=b)) σ
  | _=>haltB Γ σ (compareOp op) d1 d2 Q)
 | _,_=>haltB Γ σ (compareOp op) d1 d2 Q
noncomputable def doUn (Γ:Cfg)(op:UnaryOp)(Q:D->Sto->Prop)(d:D)(σ:Sto):Prop:=
 match d with
 | .int a=>(match op with
  | .USub=>Q (.int (-a)) σ
  | _=>haltU Γ σ (unaryOp op) d Q)
 | .bool b=>(match op with
  | .Not=>Q (.bool (!b)) σ
  | _=>haltU Γ σ (unaryOp op) d Q)
 | _=>haltU Γ σ (unaryOp op) d Q
noncomputable def doTru (Γ:Cfg)(Q:Bool->Sto->Prop)(d:D)(σ:Sto):Prop:=
 match d with
 | .bool b=>Q b σ
 | _=>haltTr Γ σ d Q
/-! what is done next-/
noncomputable def kBin2 (Γ:Cfg)(op:Operator)(cst:Bool)(Q:D->Sto->Prop)(d1:D):D->Sto->Prop:=fun d2 σ=>doBin Γ op cst Q d1 d2 σ
noncomputable def kBin (Γ:Cfg)(r:RunT)(m:Vars)(op:Operator)(e:Expr)(Q:D->Sto->Prop):D->Sto->Prop:=fun d1 σ=>r m σ (.E e (kBin2 Γ op (isCst e) Q d1))
noncomputable def kCmp2 (Γ:Cfg)(op:CmpOp)(Q:D->Sto->Prop)(d1:D):D->Sto->Prop:=fun d2 σ=>doCmp Γ op Q d1 d2 σ
noncomputable def kCmp (Γ:Cfg)(r:RunT)(m:Vars)(op:CmpOp)(e:Expr)(Q:D->Sto->Prop):D->Sto->Prop:=fun d1 σ=>r m σ (.E e (kCmp2 Γ op Q d1))
noncomputable def kUn (Γ:Cfg)(op:UnaryOp)(Q:D->Sto->Prop):D->Sto->Prop:=fun d σ=>doUn Γ op Q d σ
noncomputable def kTru (Γ:Cfg)(Q:Bool->Sto->Prop):D->Sto->Prop:=fun d σ=>doTru Γ Q d σ
noncomputable def kDef (Γ:Cfg)(f:Str)(Q:D->Sto->Prop):List D->Sto->Prop:=fun ds σ=>haltF Γ f ds σ Q
noncomputable def kBlt (Γ:Cfg)(v:Value)(Q:D->Sto->Prop):List D->Sto->Prop:=fun ds σ=>haltA Γ σ v ds Q
noncomputable def kSub2 (Γ:Cfg)(v s:Expr)(Q:D->Sto->Prop)(d1:D):D->Sto->Prop:=fun d2 σ=>haltSb Γ σ v s d1 d2 Q
noncomputable def kSub (Γ:Cfg)(r:RunT)(m:Vars)(v s:Expr)(Q:D->Sto->Prop):D->Sto->Prop:=fun d1 σ=>r m σ (.E s (kSub2 Γ v s Q d1))
noncomputable def kLst (Q:D->Sto->Prop):List D->Sto->Prop:=fun ds σ=>if ds.length<=64 then Sp (QL Q ds σ) else Sp (ds.length<=sizeLine/\QL Q ds σ)
noncomputable def kTup (Q:D->Sto->Prop):List D->Sto->Prop:=fun ds σ=>if ds.length<=64 then Q (.tup ds) σ else Sp (ds.length<=sizeLine/\Q (.tup ds) σ)
noncomputable def kArg2 (Q:List D->Sto->Prop)(d:D):List D->Sto->Prop:=fun ds σ=>Q (d::ds) σ
noncomputable def kArg (r:RunT)(m:Vars)(es:List Expr)(Q:List D->Sto->Prop):D->Sto->Prop:=fun d σ=>r m σ (.A es (kArg2 Q d))
noncomputable def kNot (Q:Bool->Sto->Prop):Bool->Sto->Prop:=fun b σ=>Q (!b) σ
noncomputable def kAnd (r:RunT)(m:Vars)(es:List Expr)(Q:Bool->Sto->Prop):Bool->Sto->Prop:=fun b σ=>if b=true then r m σ (.Ts .And es Q) else Q false σ
noncomputable def kOr (r:RunT)(m:Vars)(es:List Expr)(Q:Bool->Sto->Prop):Bool->Sto->Prop:=fun b σ=>if b=true then Q true σ else r m σ (.Ts .Or es Q)
noncomputable def kAndE2 (r:RunT)(m:Vars)(es:List Expr)(Q:D->Sto->Prop)(d:D):Bool->Sto->Prop:=fun b σ=>if b=true then r m σ (.Bs .And es Q) else Q d σ
noncomputable def kAndE (Γ:Cfg)(r:RunT)(m:Vars)(es:List Expr)(Q:D->Sto->Prop):D->Sto->Prop:=fun d σ=>doTru Γ (kAndE2 r m es Q d) d σ
noncomputable def kOrE2 (r:RunT)(m:Vars)(es:List Expr)(Q:D->Sto->Prop)(d:D):Bool->Sto->Prop:=fun b σ=>if b=true then Q d σ else r m σ (.Bs .Or es Q)
noncomputable def kOrE (Γ:Cfg)(r:RunT)(m:Vars)(es:List Expr)(Q:D->Sto->Prop):D->Sto->Prop:=fun d σ=>doTru Γ (kOrE2 r m es Q d) d σ
noncomputable def kC2b (Γ:Cfg)(r:RunT)(m:Vars)(op2:CmpOp)(e3:Expr)(Q:Bool->Sto->Prop)(d2:D):Bool->Sto->Prop:=fun b σ=>if b=true then r m σ (.E e3 (kCmp2 Γ op2 (kTru Γ Q) d2)) else Q false σ
noncomputable def kC2a (Γ:Cfg)(r:RunT)(m:Vars)(op op2:CmpOp)(e3:Expr)(Q:Bool->Sto->Prop)(d1:D):D->Sto->Prop:=fun d2 σ=>doCmp Γ op (kTru Γ (kC2b Γ r m op2 e3 Q d2)) d1 d2 σ
noncomputable def kC2 (Γ:Cfg)(r:RunT)(m:Vars)(op op2:CmpOp)(e2 e3:Expr)(Q:Bool->Sto->Prop):D->Sto->Prop:=fun d1 σ=>r m σ (.E e2 (kC2a Γ r m op op2 e3 Q d1))
noncomputable def kE2b (Γ:Cfg)(r:RunT)(m:Vars)(op2:CmpOp)(e3:Expr)(Q:D->Sto->Prop)(d2 d3:D):Bool->Sto->Prop:=fun b σ=>if b=true then r m σ (.E e3 (kCmp2 Γ op2 Q d2)) else Q d3 σ
noncomputable def kE2t (Γ:Cfg)(r:RunT)(m:Vars)(op2:CmpOp)(e3:Expr)(Q:D->Sto->Prop)(d2:D):D->Sto->Prop:=fun d3 σ=>doTru Γ (kE2b Γ r m op2 e3 Q d2 d3) d3 σ
noncomputable def kE2a (Γ:Cfg)(r:RunT)(m:Vars)(op op2:CmpOp)(e3:Expr)(Q:D->Sto->Prop)(d1:D):D->Sto->Prop:=fun d2 σ=>doCmp Γ op (kE2t Γ r m op2 e3 Q d2) d1 d2 σ
noncomputable def kE2 (Γ:Cfg)(r:RunT)(m:Vars)(op op2:CmpOp)(e2 e3:Expr)(Q:D->Sto->Prop):D->Sto->Prop:=fun d1 σ=>r m σ (.E e2 (kE2a Γ r m op op2 e3 Q d1))
noncomputable def kMth (Γ:Cfg)(d:D)(Q:D->Sto->Prop):List D->Sto->Prop:=fun ds σ=>haltA Γ σ (.builtin "list.append") (d::ds) Q
inductive ApAt (Γ:Cfg)(r:RunT)(m:Vars)(as:List Expr)(Q:D->Sto->Prop)(d:D)(σ:Sto):Prop
 | mk (sd:SD) (e:d=sd.d) (hL:sd.isL=true) (hi:sd.inv σ) (h:r m σ (.A as (kMth Γ d Q))):ApAt Γ r m as Q d σ
noncomputable def kApp (Γ:Cfg)(r:RunT)(m:Vars)(as:List Expr)(Q:D->Sto->Prop):D->Sto->Prop:=fun d σ=>Sp (ApAt Γ r m as Q d σ)
noncomputable abbrev ItQ:=List Vars->(Sto->Prop)->Sto->Prop
inductive RgAt (x:Str)(Q:ItQ)(n:Int)(σ:Sto):Prop
 | mk (lo: -(2^62)<=n) (hi:n<2^62) (q:Q ((List.range n.toNat).map fun (i:Nat)=>[(x,D.int (i:Int))]) (fun _=>True) σ):RgAt x Q n σ
inductive ZpAt (x y:Str)(Q:ItQ)(d1 d2:D)(σ:Sto):Prop
 | mk (α β:Type) (sd1 sd2:SD) (is:List α) (js:List β) (f1:α->D) (f2:β->D) (e1:d1=sd1.d) (e2:d2=sd2.d) (l1:sd1.ds=is.map f1) (l2:sd2.ds=js.map f2) (i1:sd1.inv σ) (i2:sd2.inv σ)
   (q:Q ((is.zip js).map fun p=>[(y,f2 p.2),(x,f1 p.1)]) (fun σ'=>sd1.inv σ'/\sd2.inv σ') σ):ZpAt x y Q d1 d2 σ
noncomputable def kIv (Γ:Cfg)(m:Vars)(tg:Expr)(Q:ItQ):D->Sto->Prop:=fun d σ=>haltIv Γ m σ d tg Q
noncomputable def kRg (x:Str)(Q:ItQ):D->Sto->Prop:=fun d σ=>match d with
 | .int n=>Sp (RgAt x Q n σ)
 | d=>Sp (∃n:Int,d=.int n/\RgAt x Q n σ)
noncomputable def kZp2 (x y:Str)(Q:ItQ)(d1:D):D->Sto->Prop:=fun d2 σ=>Sp (ZpAt x y Q d1 d2 σ)
noncomputable def kZp (r:RunT)(m:Vars)(x y:Str)(e:Expr)(Q:ItQ):D->Sto->Prop:=fun d1 σ=>r m σ (.E e (kZp2 x y Q d1))
noncomputable abbrev kTn (Γ:Cfg)(m:Vars)(e:Expr)(Z:List D->Sto->Prop):ItQ:=match Γ with| ⟨_,_,_,_,k,_,c,A,X,env,fr⟩=>Turns c A env m (cS e) (cG e).ifs (eL e) Z
noncomputable abbrev kLp (Γ:Cfg)(m:Vars)(b:List Stmt)(N:Vars->Sto->Prop)(R:D->Sto->Prop):ItQ:=match Γ with| ⟨_,_,_,_,k,_,c,A,X,env,fr⟩=>Loop c A env m b N R X
noncomputable def kRest (r:RunT)(ss:List Stmt)(N:Vars->Sto->Prop)(R:D->Sto->Prop):Vars->Sto->Prop:=fun m σ=>r m σ (.X ss N R)
noncomputable abbrev kWS (Γ:Cfg)(ss:List Stmt)(N:Vars->Sto->Prop)(R:D->Sto->Prop):Vars->Sto->Prop:=fun m σ=>match Γ with| ⟨_,_,_,_,k,_,c,A,X,env,fr⟩=>WS c A fr env m σ ss N R X
noncomputable def kAsg (r:RunT)(m:Vars)(x:Str)(ss:List Stmt)(N:Vars->Sto->Prop)(R:D->Sto->Prop):D->Sto->Prop:=fun d σ=>r ((x,d)::m) σ (.X ss N R)
noncomputable def kExp (r:RunT)(m:Vars)(ss:List Stmt)(N:Vars->Sto->Prop)(R:D->Sto->Prop):D->Sto->Prop:=fun _ σ=>r m σ (.X ss N R)
noncomputable def kIf (r:RunT)(m:Vars)(a b:List Stmt)(N:Vars->Sto->Prop)(R:D->Sto->Prop):Bool->Sto->Prop:=fun t σ=>if t=true then r m σ (.S a N R) else r m σ (.S b N R)
/-! one step-/
noncomputable def stName (Γ:Cfg)(m:Vars)(σ:Sto)(x:Str)(Q:D->Sto->Prop)(z:Prop):Prop:=
 bB (odd x) z (bB (isVar (Γ.sc.names.lookup x)) (oO (m.lookup x) (fun d=>Q d σ) z)
  (bB (isGlo (Γ.sc.names.lookup x)) (oO (Γ.gs.lookup x) (fun i=>Q (.int i) σ) (oO (Γ.bs.lookup x) (fun v=>oO (asTy v) (fun T=>Q (.typ T) σ) z) z)) z))
noncomputable def stConst (σ:Sto)(k:Const)(Q:D->Sto->Prop)(z:Prop):Prop:=
 match k with
 | .int i=>Q (.int i) σ
 | .str x=>Q (.str x) σ
 | .bool b=>Q (.bool b) σ
 | .none=>Q .none σ
 | _=>z
noncomputable def stCallN (Γ:Cfg)(r:RunT)(m:Vars)(σ:Sto)(g:Str)(args:List Expr)(Q:D->Sto->Prop)(z:Prop):Prop:=
 bB (plainArgs args&&(isGlo (Γ.sc.names.lookup g)&& !odd g)) (bB (isDef Γ.B g) (r m σ (.A args (kDef Γ g Q)))
  (oO (Γ.bs.lookup g) (fun v=>bB (isBT v) (r m σ (.A args (kBlt Γ v Q))) z) z)) z
noncomputable def stCall (Γ:Cfg)(r:RunT)(m:Vars)(σ:Sto)(f:Expr)(args:List Expr)(pos:Pos)(Q:D->Sto->Prop)(z:Prop):Prop:=
 oO (asNm f) (fun g=>stCallN Γ r m σ g.1 args Q z) (oO (asAt f) (fun a=>bB (a.1==("append":Str)&&((asNm (eL f)).isSome&&(plainArgs args&&((a.2.endLine==pos.line)&&decide (args.length<30))))) (r m σ (.E (eL f) (kApp Γ r m args Q))) z) z)
noncomputable def stCmp (Γ:Cfg)(r:RunT)(m:Vars)(σ:Sto)(l:Expr)(ops:List CmpOp)(es:List Expr)(Q:D->Sto->Prop)(z:Prop):Prop:=
 match ops with
 | [op]=>bB (es.length==1&& !behindInMarks op (hE es)) (r m σ (.E l (kCmp Γ r m op (hE es) Q))) z
 | [op,op2]=>bB (es.length==2&& !behindInMarks op2 (hE es.tail)) (r m σ (.E l (kE2 Γ r m op op2 (hE es) (hE es.tail) Q))) z
 | _=>z
noncomputable def stCmpT (Γ:Cfg)(r:RunT)(m:Vars)(σ:Sto)(l:Expr)(ops:List CmpOp)(es:List Expr)(Q:Bool->Sto->Prop)(z:Prop):Prop:=
 match ops with
 | [op]=>bB (es.length==1&& !behindInMarks op (hE es)) (r m σ (.E l (kCmp Γ r m op (hE es) (kTru Γ Q)))) z
 | [op,op2]=>bB (es.length==2&& !behindInMarks op2 (hE es.tail)) (r m σ (.E l (kC2 Γ r m op op2 (hE es) (hE es.tail) Q))) z
 | _=>z
noncomputable def stE (Γ:Cfg)(r:RunT)(m:Vars)(σ:Sto)(e:Expr)(Q:D->Sto->Prop)(z:Prop):Prop:=
 match e with
 | .Name x _=>stName Γ m σ x Q z
 | .Constant k _ _=>stConst σ k Q z
 | .BinOp _ op _ _=>r m σ (.E (eL e) (kBin Γ r m op (eR e) Q))
 | .UnaryOp op _ _=>r m σ (.E (eL e) (kUn Γ op Q))
 | .Compare _ ops _ _=>stCmp Γ r m σ (eL e) ops (eS e) Q z
 | .BoolOp op _ _=>r m σ (.Bs op (eS e) Q)
 | .Call _ _ kws pos=>bB kws.isEmpty (stCall Γ r m σ (eL e) (eS e) pos Q z) z
 | .Subscript _ _ _=>bB (isSlice (eR e)) z (r m σ (.E (eL e) (kSub Γ r m (eL e) (eR e) Q)))
 | .List _ _=>r m σ (.A (eS e) (kLst Q))
 | .Tuple _ _ _=>r m σ (.A (eS e) (kTup Q))
 | .ListComp _ _ _ _=>bB (cOk Γ.sc e) (r m σ (.I (cG e).iter (cG e).target (kTn Γ m e (QL Q)))) z
 | _=>z
noncomputable def stT (Γ:Cfg)(r:RunT)(m:Vars)(σ:Sto)(e:Expr)(Q:Bool->Sto->Prop)(z:Prop):Prop:=
 match e with
 | .UnaryOp op _ _=>bB (op==.Not) (r m σ (.T (eL e) (kNot Q))) z
 | .BoolOp op _ _=>r m σ (.Ts op (eS e) Q)
 | .Compare _ ops _ _=>stCmpT Γ r m σ (eL e) ops (eS e) Q z
 | .IfExp _ _ _ _=>z
 | _=>r m σ (.E e (kTru Γ Q))
noncomputable def stI1 (r:RunT)(m:Vars)(σ:Sto)(tg:Expr)(T:String)(as:List Expr)(Q:ItQ)(z:Prop):Prop:=
 oO (asNm tg) (fun x=>bB (decide (T="range")&&as.length==1) (r m σ (.E (hE as) (kRg x.1 Q))) z)
  (bB (tag tg==6) (two (eS tg) (fun x y=>bB (decide (T="zip")&&as.length==2) (r m σ (.E (hE as) (kZp r m x y (hE as.tail) Q))) z) z) z)
noncomputable def stI (Γ:Cfg)(r:RunT)(m:Vars)(σ:Sto)(it tg:Expr)(Q:ItQ)(z:Prop):Prop:=
 bB (tag it==7) (oO (asNm (eL it)) (fun g=>bB ((eK it).isEmpty&&(plainArgs (eS it)&&(isGlo (Γ.sc.names.lookup g.1)&& !odd g.1))) (oO (Γ.bs.lookup g.1) (fun v=>oO (asTy v) (fun T=>stI1 r m σ tg T (eS it) Q z) z) z) z) z) z
noncomputable def stAsg (Γ:Cfg)(r:RunT)(m:Vars)(σ:Sto)(x:Str)(p:Pos)(v:Expr)(ss:List Stmt)(N:Vars->Sto->Prop)(R:D->Sto->Prop)(z:Prop):Prop:=
 bB (isLC v) (bB (kd (Γ.sc.names.lookup x)==2) (r m σ (.E v (kAsg r m x ss N R)))
    (bB (asgOk Γ.sc (cS v) x p v.pos&&cOk Γ.sc v) (r m σ (.I (cG v).iter (cG v).target (kTn Γ m v (QL (kAsg r m x ss N R))))) z))
  (bB (isComp v) z (bB (isLoc (Γ.sc.names.lookup x)) (r m σ (.E v (kAsg r m x ss N R))) z))
noncomputable def stS (Γ:Cfg)(r:RunT)(m:Vars)(σ:Sto)(s:Stmt)(ss:List Stmt)(N:Vars->Sto->Prop)(R:D->Sto->Prop)(z:Prop):Prop:=
 match s with
 | .Return v _=>bB v.isSome (r m σ (.E (sE s) R)) z
 | .Assign ts _ _=>bB (ts.length==1) (oO (asNm (hE ts)) (fun x=>stAsg Γ r m σ x.1 x.2 (sE s) ss N R z) z) z
 | .If _ _ _ _=>r m σ (.T (sE s) (kIf r m (sA s) (sB s) (kRest r ss N R) R))
 | .For _ _ _ o _=>bB (o.isEmpty&&(Γ.f&& !isSet (sE s))) (r m σ (.I (sE s) (sT s) (kLp Γ m (sA s) (kWS Γ ss N R) R))) z
 | .Expr _ _=>bB (isComp (sE s)) z (r m σ (.E (sE s) (kExp r m ss N R)))
 | _=>z
noncomputable def step (Γ:Cfg)(r:RunT):RunT:=fun m σ j=>
 match j with
 | .E e Q=>stE Γ r m σ e Q (haltE Γ m σ e Q)
 | .T e Q=>stT Γ r m σ e Q (haltT Γ m σ e Q)
 | .A es Q=>bB es.isEmpty (Q [] σ) (bB (plainArgs es) (r m σ (.E (hE es) (kArg r m es.tail Q))) (haltAr Γ m σ es Q))
 | .S ss N R=>bB ss.isEmpty (N m σ) (stS Γ r m σ (hS ss) ss.tail N R (halt1 Γ m σ (hS ss) (kWS Γ ss.tail N R) R))
 | .X ss N R=>bB (atIf ss) (haltS Γ m σ ss N R) (r m σ (.S ss N R))
 | .Ts op es Q=>(match op with
  | .And=>bB es.isEmpty (Q true σ) (r m σ (.T (hE es) (kAnd r m es.tail Q)))
  | .Or=>bB es.isEmpty (Q false σ) (r m σ (.T (hE es) (kOr r m es.tail Q))))
 | .Bs op es Q=>bB es.isEmpty (haltBs Γ m σ op es Q) (bB es.tail.isEmpty (r m σ (.E (hE es) Q)) (match op with
   | .And=>r m σ (.E (hE es) (kAndE Γ r m es.tail Q))
   | .Or=>r m σ (.E (hE es) (kOrE Γ r m es.tail Q))))
 | .I it tg Q=>stI Γ r m σ it tg Q (r m σ (.E it (kIv Γ m tg Q)))
noncomputable def run (Γ:Cfg):Nat->RunT
 | 0=>Job.stop Γ
 | n+1=>step Γ (run Γ n)
/-! the evaluation is sound-/
noncomputable def Snd (Γ:Cfg)(r:RunT):Prop:=∀m σ j,r m σ j->j.W Γ m σ
theorem bB.use {b:Bool}{p z R:Prop}(h:bB b p z)(k:b=true->p->R)(kz:b=false->z->R):R:=by
 cases b with
 | true=>exact k rfl h
 | false=>exact kz rfl h
theorem oO.use {α:Type}{o:Option α}{f:α->Prop}{z R:Prop}(h:oO o f z)(k:∀a,o=some a->f a->R)(kz:z->R):R:=by
 cases o with
 | none=>exact kz h
 | some a=>exact k a rfl h
theorem ite_use {b:Bool}{P Q R:Prop}(h:if b=true then P else Q)(h1:b=true->P->R)(h2:Q->R):R:=by
 cases b with
 | true=>exact h1 rfl h
 | false=>exact h2 h
theorem ite_to {b:Bool}{P Q P' Q':Prop}(h:if b=true then P else Q)(h1:P->P')(h2:Q->Q'):if b=true then P' else Q':=by
 cases b with
 | true=>exact h1 h
 | false=>exact h2 h
theorem dite_use {p:Prop} [Decidable p] {P Q R:Prop}(h:if p then P else Q)(h1:p->P->R)(h2:Q->R):R:=
 if q:p then h1 q ((if_pos q).mp h) else h2 ((if_neg q).mp h)
theorem and2 {a b:Bool}(h:(a&&b)=true):a=true/\b=true:=Bool.and_eq_true_iff.mp h
theorem nott {a:Bool}(h:(!a)=true):a=false:=by cases a<;>first| rfl| contradiction
theorem cst_ok {c:Bool}{b:Int}(e:(c&&(decide (0<b)&&decide (b.natAbs<2^64)))=true):0<b/\b.natAbs<2^64:=
 ⟨of_decide_eq_true (and2 (and2 e).2).1,of_decide_eq_true (and2 (and2 e).2).2⟩
theorem odd_no {x:Str}(h:odd x=false):(x==("__debug__":Str))=false/\(x==("__classdict__":Str))=false:=Bool.or_eq_false_iff.mp h
theorem ns {α:Type}{x:α}{P:Prop}(h:none=some x):P:=nomatch h
theorem ft {P:Prop}(h:false=true):P:=nomatch h
theorem comp_no {v:Expr}{t:Option Expr}{l:Nat}{env:Env}(h:isComp v=false):swapsWith v t l env=pure false:=by
 cases v<;>first| rfl| exact ft h.symm
theorem set_no {it:Expr}{env:Env}(h:isSet it=false)(x:Value):foldedSetIterable it env x=pure x:=by
 cases it<;>first| rfl| exact ft h.symm
theorem asNm_eq {e:Expr}{x:Str × Pos}(h:asNm e=some x):e=.Name x.1 x.2:=by
 cases e<;>first| exact ns h| (obtain rfl:=Option.some.inj h;rfl)
theorem asAt_eq {e:Expr}{x:Str × Pos}(h:asAt e=some x):e=.Attribute (eL e) x.1 x.2:=by
 cases e<;>first| exact ns h| (obtain rfl:=Option.some.inj h;rfl)
theorem lc_eq {e:Expr}(h:isLC e=true):e=.ListComp (eL e) (cP e).1 (cS e) e.pos:=by
 cases e<;>first| exact ft h| rfl
theorem tup_eq {e:Expr}(h:(tag e==6)=true):∃k p,e=.Tuple (eS e) k p:=by
 cases e<;>first| exact ft h| exact ⟨_,_,rfl⟩
theorem call_eq {e:Expr}(h:(tag e==7)=true):∃p,e=.Call (eL e) (eS e) (eK e) p:=by
 cases e<;>first| exact ft h| exact ⟨_,rfl⟩
theorem asTy_eq {v:Value}{T:String}(h:asTy v=some T):v=.type T:=by
 cases v<;>first| exact ns h| (obtain rfl:=Option.some.inj h;rfl)
theorem one_eq {es:List Expr}(h:(es.length==1)=true):es=[hE es]:=by
 match es,h with
 | [e],_=>rfl
theorem two_eq {es:List Expr}(h:(es.length==2)=true):es=[hE es,hE es.tail]:=by
 match es,h with
 | [e,f],_=>rfl
theorem isDef_dfn {c:Cx}{B:List Stmt}{bs:List (Str × Value)}{f:Str}(T:Tp c B bs)(h:isDef B f=true):Dfn c f:=by
 obtain ⟨s,hs,e⟩:=List.any_eq_true.mp h
 cases q:recOf s with
 | none=>rw [q] at e;contradiction
 | some d=>rw [q] at e;exact Dfn.of T (List.mem_filterMap.mpr ⟨s,hs,q⟩) (eq_of_beq e)
theorem kd_eq {o:Option NameKind}{k:Nat}(h:(kd o==k)=true):match k with| 1=>o=some .local| 2=>o=some .cell| 3=>o=some .free| 4=>o=some .globalImplicit| _=>True:=by
 cases eq_of_beq h
 cases o with
 | none=>trivial
 | some k=>cases k<;>first| rfl| trivial
theorem or2 {a b:Bool}(h:(a|| b)=true):a=true\/b=true:=Bool.or_eq_true_iff.mp h
theorem isLoc_ok {env:Env}{sc:Scope}{x:Str}(s:env.scope=sc)(h:isLoc (sc.names.lookup x)=true):env.kindOf x=some .local\/env.kindOf x=some .cell:=
 (or2 h).imp (fun q=>kindOf_of s (kd_eq q)) fun q=>kindOf_of s (kd_eq q)
theorem isGlo_ok {env:Env}{sc:Scope}{x:Str}(s:env.scope=sc)(h:isGlo (sc.names.lookup x)=true):env.kindOf x=some .globalImplicit:=kindOf_of s (kd_eq h)
section
variable {c:Cx} {A:Around} {fr:List Addr} {env:Env} {X:Addr->Sto->Prop} {m:Vars} {σ:Sto}
theorem WE.to {e:Expr}{Q Q':D->Sto->Prop}(h:WE c A fr env m σ e Q X)(k:∀d σ,Q d σ->Q' d σ):WE c A fr env m σ e Q' X:=h.mono k fun _ _ x=>x
theorem WT.to {e:Expr}{Q Q':Bool->Sto->Prop}(h:WT c A fr env m σ e Q X)(k:∀d σ,Q d σ->Q' d σ):WT c A fr env m σ e Q' X:=fun s ok fm=>(h s ok fm).mono k fun _ _ x=>x
theorem WA.to {es:List Expr}{Q Q':List D->Sto->Prop}(h:WA c A fr env m σ es Q X)(k:∀d σ,Q d σ->Q' d σ):WA c A fr env m σ es Q' X:=fun p s ok fm=>(h p s ok fm).mono k fun _ _ x=>x
theorem WB.to {t:Value->Value->Sem Value}{d1 d2:D}{Q Q':D->Sto->Prop}(h:WB c A fr σ t d1 d2 Q X)(k:∀d σ,Q d σ->Q' d σ):WB c A fr σ t d1 d2 Q' X:=fun v1 v2 s ok x1 x2=>(h v1 v2 s ok x1 x2).mono k fun _ _ y=>y
theorem WTr.to {d:D}{Q Q':Bool->Sto->Prop}(h:WTr c A fr σ d Q X)(k:∀b σ,Q b σ->Q' b σ):WTr c A fr σ d Q' X:=fun v s ok x=>(h v s ok x).mono k fun _ _ y=>y
theorem WS.toN {ss:List Stmt}{J N:Vars->Sto->Prop}{R:D->Sto->Prop}(h:WS c A fr env m σ ss J R X)(k:∀m' σ',J m' σ'->N m' σ'):WS c A fr env m σ ss N R X:=fun s ok fm=>(h s ok fm).mono (fun _ _ q=>QO.mono k q) fun _ _ x=>x
theorem WIt.to {it tg:Expr}{Q Q':ItQ}(h:WIt c A fr env m σ it tg Q X)(k:∀vs I σ,Q vs I σ->Q' vs I σ):WIt c A fr env m σ it tg Q' X:=fun s ok fm=>
 wpAny_mono (h s ok fm) (fun x s1 h1=>wpAny_mono h1 (fun y s2 ⟨I,wr,vals,Inv,St,Mid,σ',e,p,ok,okw,hn,fmw,src,st,inv,q⟩=>⟨I,wr,vals,Inv,St,Mid,σ',e,p,ok,okw,hn,fmw,src,st,inv,k _ _ _ q⟩) fun _ _ x=>x) fun _ _ x=>x
theorem Turns.to {scope:Scope}{ifs:List Expr}{elt:Expr}{Z Z':List D->Sto->Prop}{vals:List Vars}{I:Sto->Prop}(h:Turns c A env m scope ifs elt Z vals I σ)(k:∀ds σ,Z ds σ->Z' ds σ):Turns c A env m scope ifs elt Z' vals I σ:=
 match h with
 | ⟨hk,L,h0,hinv,step,fin⟩=>⟨hk,L,h0,hinv,step,fun ds σ' q=>k _ _ (fin ds σ' q)⟩
theorem QL.to {Q Q':D->Sto->Prop}{ds:List D}(h:QL Q ds σ)(k:∀d σ,Q d σ->Q' d σ):QL Q' ds σ:=h.imp (k _ _) fun h a ha=>k _ _ (h a ha)
theorem WE.nVar {sc:Scope}{x:Str}{pos:Pos}{d:D}{Q:D->Sto->Prop}(s:env.scope=sc)(o:odd x=false)(hv:m.lookup x=some d)(hk:isVar (sc.names.lookup x)=true)(h:Q d σ):WE c A fr env m σ (.Name x pos) Q X:=
 (or2 hk).elim (fun q=>WE.nLocal hv (kindOf_of s (kd_eq q)) h (odd_no o).1) fun q=>(or2 q).elim (fun q=>WE.nCell hv (kindOf_of s (kd_eq q)) h (odd_no o).1) fun q=>WE.nFree hv (kindOf_of s (kd_eq q)) h (odd_no o).1 (odd_no o).2
theorem WE.callBT {B:List Stmt}{bs:List (Str × Value)}(T:Tp c B bs){f:Str}{fp pos:Pos}{args:List Expr}{v:Value}{Q:D->Sto->Prop}(hk:env.kindOf f=some .globalImplicit)(hb:bs.lookup f=some v)(hv:isBT v=true)
  (h:WA c A fr env m σ args (fun ds σ1=>At1 c A fr σ1 v ds Q X) X) (hp:plainArgs args=true) (hdb:(f==("__debug__":Str))=false):WE c A fr env m σ (.Call (.Name f fp) args [] pos) Q X:=by
 cases v<;>first| exact ft hv| exact WE.callI T hk hb h hp hdb| exact WE.callY T hk hb h hp hdb
end
section
variable {Γ:Cfg} {r:RunT} {m:Vars} {σ:Sto}
theorem doBin_ok {op:Operator}{cst:Bool}{Q:D->Sto->Prop}{d1 d2:D}(h:doBin Γ op cst Q d1 d2 σ):WB Γ.c Γ.A Γ.fr σ (binaryOp op) d1 d2 Q Γ.X:=by
 cases d1<;>first| exact Sp.h h| skip
 cases d2<;>first| exact Sp.h h| skip
 cases op<;>first| exact Sp.h h| exact WB.add h| exact WB.sub h| exact ite_use h (fun e p=>WB.modE (cst_ok e).1 (cst_ok e).2 p) Sp.h| exact ite_use h (fun e p=>WB.fdivE (cst_ok e).1 (cst_ok e).2 p) Sp.h
theorem doCmp_ok {op:CmpOp}{Q:D->Sto->Prop}{d1 d2:D}(h:doCmp Γ op Q d1 d2 σ):WB Γ.c Γ.A Γ.fr σ (compareOp op) d1 d2 Q Γ.X:=by
 cases d1<;>first| exact Sp.h h| skip
 cases d2<;>first| exact Sp.h h| skip
 cases op<;>first| exact Sp.h h| exact WB.lt h| exact WB.le h| exact WB.gt h| exact WB.ge h| exact WB.eqI h| exact WB.neI h
theorem doUn_ok {op:UnaryOp}{Q:D->Sto->Prop}{d:D}(h:doUn Γ op Q d σ):WU Γ.c Γ.A Γ.fr σ (unaryOp op) d Q Γ.X:=by
 cases d<;>first| exact Sp.h h| (cases op<;>first| exact Sp.h h| exact WU.notB h| exact WU.neg h)
theorem doTru_ok {Q Q':Bool->Sto->Prop}{d:D}(h:doTru Γ Q d σ)(k:∀b σ,Q b σ->Q' b σ):WTr Γ.c Γ.A Γ.fr σ d Q' Γ.X:=by
 cases d<;>first| exact WTr.to (Sp.h h) k| exact WTr.bool (k _ _ h)
theorem stName_ok (g:Gd Γ.B Γ.bs Γ.gs Γ.sc Γ.k Γ.f Γ.c Γ.A Γ.env){x:Str}{p:Pos}{Q:D->Sto->Prop}(h:stName Γ m σ x Q (haltE Γ m σ (.Name x p) Q)):WE Γ.c Γ.A Γ.fr Γ.env m σ (.Name x p) Q Γ.X:=
 bB.use h (fun _=>Sp.h) fun o h=>bB.use h (fun hk h=>oO.use h (fun d hd h=>WE.nVar g.s o hd hk h) Sp.h)
  fun _ h=>bB.use h (fun hk h=>oO.use h (fun i hi h=>WE.gInt g.T g.G (isGlo_ok g.s hk) hi h (odd_no o).1) fun h=>oO.use h (fun v hv h=>oO.use h (fun T hT h=>by
   cases asTy_eq hT
   exact WE.nType g.T.good (isGlo_ok g.s hk) (g.T.bn _ _ hv).1 (g.T.bn _ _ hv).2 h (odd_no o).1) Sp.h) Sp.h) fun _=>Sp.h
theorem stConst_ok {k:Const}{j:Nat}{p:Pos}{Q:D->Sto->Prop}(h:stConst σ k Q (haltE Γ m σ (.Constant k j p) Q)):WE Γ.c Γ.A Γ.fr Γ.env m σ (.Constant k j p) Q Γ.X:=by
 cases k<;>first| exact Sp.h h| exact WE.kInt h| exact WE.kStr h| exact WE.kBool h| exact WE.kNone h
theorem stCallN_ok (g:Gd Γ.B Γ.bs Γ.gs Γ.sc Γ.k Γ.f Γ.c Γ.A Γ.env)(H:Snd Γ r){f:Str}{fp:Pos}{args:List Expr}{p:Pos}{Q:D->Sto->Prop}(h:stCallN Γ r m σ f args Q (haltE Γ m σ (.Call (.Name f fp) args [] p) Q)):WE Γ.c Γ.A Γ.fr Γ.env m σ (.Call (.Name f fp) args [] p) Q Γ.X:=
 bB.use h (fun e h=>
  have e1:=and2 e
  have e2:=and2 e1.2
  have od:=(odd_no (nott e2.2)).1
  have hk:=isGlo_ok g.s e2.1
  bB.use h (fun e3 h=>WE.callN g.T g.r hk (isDef_dfn g.T e3) ((H _ _ _ h).to fun ds σ q=>q.h) e1.1 od) fun _ h=>oO.use h (fun v hv h=>bB.use h (fun hb h=>WE.callBT g.T hk hv hb ((H _ _ _ h).to fun ds σ q=>q.h) e1.1 od) fun _=>Sp.h) Sp.h) fun _=>Sp.h
theorem app_ok (H:Snd Γ r){o:Expr}{ap:Pos}{args:List Expr}{p:Pos}{Q:D->Sto->Prop}(ho:(asNm o).isSome=true)(hp:plainArgs args=true)(hl:(ap.endLine==p.line)=true)(hn:decide (args.length<30)=true)(h:r m σ (.E o (kApp Γ r m args Q))):WE Γ.c Γ.A Γ.fr Γ.env m σ (.Call (.Attribute o "append" ap) args [] p) Q Γ.X:=by
 refine Exists.elim (Option.isSome_iff_exists.mp ho) fun x hx=> ?_
 exact WE.methL F.slot_list_append (by with_unfolding_all rfl) ((H _ _ _ h).to fun d σ q=>match q.h with
   | ⟨sd,e,hL,hi,q⟩=>⟨sd,e,hL,hi,(H _ _ _ q).to fun ds σ q=>q.h⟩) hp (fun w=>by rw [asNm_eq hx];rfl) hl hn
theorem stCall_ok (g:Gd Γ.B Γ.bs Γ.gs Γ.sc Γ.k Γ.f Γ.c Γ.A Γ.env)(H:Snd Γ r){f:Expr}{args:List Expr}{p:Pos}{Q:D->Sto->Prop}(h:stCall Γ r m σ f args p Q (haltE Γ m σ (.Call f args [] p) Q)):WE Γ.c Γ.A Γ.fr Γ.env m σ (.Call f args [] p) Q Γ.X:=
 oO.use h (fun x e h=>by
  cases asNm_eq e
  exact stCallN_ok g H h) fun h=>oO.use h (fun a e h=>bB.use h (fun e1 h=>by
   have e1:=and2 e1
   have e2:=and2 e1.2
   have e3:=and2 e2.2
   have e4:=and2 e3.2
   rw [asAt_eq e,eq_of_beq e1.1]
   exact app_ok H e2.1 e3.1 e4.1 e4.2 h) fun _=>Sp.h) Sp.h
theorem stCmp_ok (H:Snd Γ r){l:Expr}{ops:List CmpOp}{es:List Expr}{p:Pos}{Q:D->Sto->Prop}(h:stCmp Γ r m σ l ops es Q (haltE Γ m σ (.Compare l ops es p) Q)):WE Γ.c Γ.A Γ.fr Γ.env m σ (.Compare l ops es p) Q Γ.X:=by
 match ops,h with
 | [],h=>exact Sp.h h
 | [op],h=>exact bB.use h (fun e h=>by
   have e1:=and2 e
   exact (one_eq e1.1)▸WE.compare ((H _ _ _ h).to fun d1 σ1 q=>(H _ _ _ q).to fun d2 σ2 q=>doCmp_ok q) (nott e1.2)) fun _=>Sp.h
 | [op,op2],h=>exact bB.use h (fun e h=>by
   have e1:=and2 e
   exact (two_eq e1.1)▸WE.compare2 ((H _ _ _ h).to fun d1 σ1 q=>(H _ _ _ q).to fun d2 σ2 q=>WB.to (doCmp_ok q) fun d3 σ3 q=>doTru_ok q fun b σ4 q=>ite_to q (fun q=>(H _ _ _ q).to fun d4 σ5 q=>doCmp_ok q) id) (nott e1.2)) fun _=>Sp.h
 | _::_::_::_,h=>exact Sp.h h
theorem stCmpT_ok (H:Snd Γ r){l:Expr}{ops:List CmpOp}{es:List Expr}{p:Pos}{Q:Bool->Sto->Prop}(h:stCmpT Γ r m σ l ops es Q (haltT Γ m σ (.Compare l ops es p) Q)):WT Γ.c Γ.A Γ.fr Γ.env m σ (.Compare l ops es p) Q Γ.X:=by
 have tr:∀{Q:Bool->Sto->Prop} (d:D) (σ:Sto),kTru Γ Q d σ->WTr Γ.c Γ.A Γ.fr σ d Q Γ.X:=fun d σ q=>doTru_ok q fun _ _ q=>q
 match ops,h with
 | [],h=>exact Sp.h h
 | [op],h=>exact bB.use h (fun e h=>by
   have e1:=and2 e
   exact (one_eq e1.1)▸WT.compare ((H _ _ _ h).to fun d1 σ1 q=>(H _ _ _ q).to fun d2 σ2 q=>WB.to (doCmp_ok q) tr) (nott e1.2)) fun _=>Sp.h
 | [op,op2],h=>exact bB.use h (fun e h=>by
   have e1:=and2 e
   exact (two_eq e1.1)▸WT.compare2 ((H _ _ _ h).to fun d1 σ1 q=>(H _ _ _ q).to fun d2 σ2 q=>WB.to (doCmp_ok q) fun d3 σ3 q=>doTru_ok q fun b σ4 q=>ite_to q (fun q=>(H _ _ _ q).to fun d4 σ5 q=>WB.to (doCmp_ok q) tr) id) (nott e1.2)) fun _=>Sp.h
 | _::_::_::_,h=>exact Sp.h h
theorem gen_eq {gs:List Comprehension}(h1:(gs.length==1)=true)(h2:((gs.headD ⟨no0,no0,[],0⟩).is_async==0)=true):gs=[⟨(gs.headD ⟨no0,no0,[],0⟩).target,(gs.headD ⟨no0,no0,[],0⟩).iter,(gs.headD ⟨no0,no0,[],0⟩).ifs,0⟩]:=by
 match gs,h1,h2 with
 | [⟨tg,iter,ifs,a⟩],_,h2=>rw [show a=0 from eq_of_beq h2];rfl
theorem cOk_ok {sc:Scope}{e:Expr}(h:cOk sc e=true):(cP e).1=[⟨(cG e).target,(cG e).iter,(cG e).ifs,0⟩]/\compOk (cS e)=true/\freeOk (cS e) sc=true/\isSet (cG e).iter=false:=
 have e1:=and2 h
 have e2:=and2 e1.2
 have e3:=and2 e2.2
 have e0:=and2 e1.1
 ⟨gen_eq e0.1 e0.2,e2.1,e3.1,nott e3.2⟩
theorem comp_ok (g:Gd Γ.B Γ.bs Γ.gs Γ.sc Γ.k Γ.f Γ.c Γ.A Γ.env)(H:Snd Γ r){e:Expr}{Q:D->Sto->Prop}(hl:isLC e=true)(hc:cOk Γ.sc e=true)(h:r m σ (.I (cG e).iter (cG e).target (kTn Γ m e (QL Q)))):WE Γ.c Γ.A Γ.fr Γ.env m σ e Q Γ.X:=by
 obtain ⟨h1,h2,h3,h4⟩:=cOk_ok hc
 have t:=WE.comp (pos:=e.pos) (H _ _ _ h) h2 (freeOk_of g.s h3) (set_no h4)
 rw [<-h1,<-lc_eq hl] at t
 exact t
theorem stE_ok (g:Gd Γ.B Γ.bs Γ.gs Γ.sc Γ.k Γ.f Γ.c Γ.A Γ.env)(H:Snd Γ r){e:Expr}{Q:D->Sto->Prop}(h:stE Γ r m σ e Q (haltE Γ m σ e Q)):WE Γ.c Γ.A Γ.fr Γ.env m σ e Q Γ.X:=by
 cases e<;>first| exact Sp.h h| exact stName_ok g h| exact stConst_ok h| exact stCmp_ok H h| exact WE.boolop (H _ _ _ h)| exact WE.unary ((H _ _ _ h).to fun d σ q=>doUn_ok q)| exact WE.binop ((H _ _ _ h).to fun d1 σ1 q=>(H _ _ _ q).to fun d2 σ2 q=>doBin_ok q)| exact WE.list ((H _ _ _ h).to fun ds σ q=>dite_use q (fun e q=>⟨Nat.le_trans e (by unfold sizeLine;decide),q.h⟩) Sp.h)| exact WE.tuple ((H _ _ _ h).to fun ds σ q=>dite_use q (fun e q=>⟨Nat.le_trans e (by unfold sizeLine;decide),q⟩) Sp.h)| exact bB.use h (fun _=>Sp.h) fun _ h=>WE.sub ((H _ _ _ h).to fun d1 σ1 q=>(H _ _ _ q).to fun d2 σ2 q=>q.h)| skip
 ·exact bB.use h (fun e h=>comp_ok g H rfl e h) fun _=>Sp.h
 ·exact bB.use h (fun e h=>by
   cases List.isEmpty_iff.mp e
   exact stCall_ok g H h) fun _=>Sp.h
theorem stI_of (H:Snd Γ r){it tg:Expr}{Q:ItQ}(h:r m σ (.E it (kIv Γ m tg Q))):WIt Γ.c Γ.A Γ.fr Γ.env m σ it tg Q Γ.X:=WIt.of ((H _ _ _ h).to fun d σ q=>q.h)
theorem kRg_ok {x:Str}{Q:ItQ}{d:D}(h:kRg x Q d σ):∃n:Int,d=.int n/\-(2^62)<=n/\n<2^62/\Q ((List.range n.toNat).map fun (i:Nat)=>[(x,D.int (i:Int))]) (fun _=>True) σ:=by
 cases d<;>first| exact (Sp.h h).elim fun n q=>⟨n,q.1,q.2.1,q.2.2,q.2.3⟩| exact ⟨_,rfl,(Sp.h h).1,(Sp.h h).2,(Sp.h h).3⟩
theorem stI1_ok (g:Gd Γ.B Γ.bs Γ.gs Γ.sc Γ.k Γ.f Γ.c Γ.A Γ.env)(H:Snd Γ r){f:Str}{fp p:Pos}{as:List Expr}{tg:Expr}{T:String}{Q:ItQ}(hk:Γ.env.kindOf f=some .globalImplicit)(hb:Γ.bs.lookup f=some (.type T))(hp:plainArgs as=true)(od:(f==("__debug__":Str))=false)
  (h:stI1 r m σ tg T as Q (r m σ (.E (.Call (.Name f fp) as [] p) (kIv Γ m tg Q)))):WIt Γ.c Γ.A Γ.fr Γ.env m σ (.Call (.Name f fp) as [] p) tg Q Γ.X:=
 oO.use h (fun x hx h=>bB.use h (fun e h=>by
  have e1:=and2 e
  rw [of_decide_eq_true e1.1] at hb
  rw [one_eq e1.2] at hp⊢
  rw [asNm_eq hx]
  exact WIt.range g.T g.r.2 hk hb ((H _ _ _ h).to fun d σ q=>kRg_ok q) hp od) fun _=>stI_of H)
 fun h=>bB.use h (fun ht h=>bB.use h (fun e h=>oO.use h (fun x hx h=>oO.use h (fun y hy h=>by
  obtain ⟨k,q,hq⟩:=tup_eq ht
  rw [two_eq e,asNm_eq hx,asNm_eq hy] at hq
  exact hq▸bB.use h (fun e h=>by
   have e1:=and2 e
   rw [of_decide_eq_true e1.1] at hb
   rw [two_eq e1.2] at hp⊢
   exact WIt.zipX g.T g.r.2 hk hb ((H _ _ _ h).to fun d1 σ1 q=>(H _ _ _ q).to fun d2 σ2 q=>match q.h with
    | ⟨α,β,sd1,sd2,is,js,f1,f2,e1,e2,l1,l2,i1,i2,q⟩=>⟨α,β,sd1,sd2,is,js,f1,f2,e1,e2,l1,l2,i1,i2,q⟩) hp od) fun _ h=>hq▸stI_of H h) (stI_of H)) (stI_of H)) fun _=>stI_of H) fun _=>stI_of H
theorem stI_ok (g:Gd Γ.B Γ.bs Γ.gs Γ.sc Γ.k Γ.f Γ.c Γ.A Γ.env)(H:Snd Γ r){it tg:Expr}{Q:ItQ}(h:stI Γ r m σ it tg Q (r m σ (.E it (kIv Γ m tg Q)))):WIt Γ.c Γ.A Γ.fr Γ.env m σ it tg Q Γ.X:=
 bB.use h (fun hc h=>oO.use h (fun f hf h=>bB.use h (fun e h=>oO.use h (fun v hv h=>oO.use h (fun T hT h=>by
  obtain ⟨p,hq⟩:=call_eq hc
  have e1:=and2 e
  have e2:=and2 e1.2
  have e3:=and2 e2.2
  rw [asTy_eq hT] at hv
  rw [asNm_eq hf,List.isEmpty_iff.mp e1.1] at hq
  rw [hq]
  refine stI1_ok g H (isGlo_ok g.s e3.1) hv e2.1 (odd_no (nott e3.2)).1 ?_
  exact hq▸h) (stI_of H)) (stI_of H)) fun _=>stI_of H) (stI_of H)) fun _=>stI_of H
theorem stT_ok (g:Gd Γ.B Γ.bs Γ.gs Γ.sc Γ.k Γ.f Γ.c Γ.A Γ.env)(H:Snd Γ r){e:Expr}{Q:Bool->Sto->Prop}(h:stT Γ r m σ e Q (haltT Γ m σ e Q)):WT Γ.c Γ.A Γ.fr Γ.env m σ e Q Γ.X:=by
 cases e<;>first| exact Sp.h h| exact stCmpT_ok H h| exact WT.boolop (H _ _ _ h)| exact WT.plain ((H _ _ _ h).to fun d σ q=>doTru_ok q fun _ _ q=>q)| skip
 rename_i op x p
 exact bB.use h (fun e h=>by
  cases op<;>first| exact absurd e (by decide)| exact WT.not (H _ _ _ h)) fun _=>Sp.h
theorem stAsg_ok (g:Gd Γ.B Γ.bs Γ.gs Γ.sc Γ.k Γ.f Γ.c Γ.A Γ.env)(H:Snd Γ r){x:Str}{p p':Pos}{v:Expr}{ss:List Stmt}{N:Vars->Sto->Prop}{R:D->Sto->Prop}(h:stAsg Γ r m σ x p v ss N R (halt1 Γ m σ (.Assign [.Name x p] v p') (kWS Γ ss N R) R)):W1 Γ.c Γ.A Γ.fr Γ.env m σ (.Assign [.Name x p] v p') (kWS Γ ss N R) R Γ.X:=
 bB.use h (fun hl h=>bB.use h (fun hk h=>by
   have t:=(H _ _ _ h).to (Q':=fun d σ'=>kWS Γ ss N R ((x,d)::m) σ') fun d σ q=>H _ _ _ q
   rw [lc_eq hl] at t⊢
   exact W1.assignK g.s t (kd_eq hk)) fun _ h=>bB.use h (fun e h=>by
   have e1:=and2 e
   obtain ⟨h1,h2,h3,h4⟩:=cOk_ok e1.2
   have t:=W1.assignC (pos:=p') (R:=R) (N:=kWS Γ ss N R) g.s (WIt.to (H _ _ _ h) fun vs I σ q=>Turns.to q fun ds σ q=>q.to fun d σ q=>H _ _ _ q) h2 h3 e1.1 (set_no h4)
   rw [<-h1,<-lc_eq hl] at t
   exact t) fun _=>Sp.h)
  fun _ h=>bB.use h (fun _=>Sp.h) fun e h=>bB.use h (fun e2 h=>W1.assign ((H _ _ _ h).to fun d σ q=>H _ _ _ q) (isLoc_ok g.s e2) (comp_no e)) fun _=>Sp.h
theorem stS_ok (g:Gd Γ.B Γ.bs Γ.gs Γ.sc Γ.k Γ.f Γ.c Γ.A Γ.env)(H:Snd Γ r){s:Stmt}{ss:List Stmt}{N:Vars->Sto->Prop}{R:D->Sto->Prop}(h:stS Γ r m σ s ss N R (halt1 Γ m σ s (kWS Γ ss N R) R)):W1 Γ.c Γ.A Γ.fr Γ.env m σ s (kWS Γ ss N R) R Γ.X:=by
 cases s<;>first| exact Sp.h h| exact W1.ite ((H _ _ _ h).to fun b σ q=>ite_to q (fun q=>WS.toN (H _ _ _ q) fun m' σ' q=>H _ _ _ q) fun q=>WS.toN (H _ _ _ q) fun m' σ' q=>H _ _ _ q)| exact bB.use h (fun _=>Sp.h) fun e h=>W1.expr ((H _ _ _ h).to fun d σ q=>H _ _ _ q) (comp_no e)| skip
 ·rename_i v p
  cases v with
  | none=>exact Sp.h h
  | some e=>exact W1.ret (H _ _ _ h)
 ·rename_i ts v p
  exact bB.use h (fun e h=>oO.use h (fun x hx h=>by
   rw [one_eq e,asNm_eq hx] at h⊢
   exact stAsg_ok g H h) Sp.h) fun _=>Sp.h
 ·exact bB.use h (fun e h=>by
   have e1:=and2 e
   have e2:=and2 e1.2
   cases List.isEmpty_iff.mp e1.1
   exact W1.forL (g.fe e2.1) (H _ _ _ h) (set_no (nott e2.2))) fun _=>Sp.h
theorem step_ok (g:Gd Γ.B Γ.bs Γ.gs Γ.sc Γ.k Γ.f Γ.c Γ.A Γ.env)(H:Snd Γ r):Snd Γ (step Γ r):=fun m σ j h=>by
 cases j with
 | E e Q=>exact stE_ok g H h
 | T e Q=>exact stT_ok g H h
 | A es Q=>
  cases es with
  | nil=>exact WA.nil h
  | cons e es=>exact bB.use h (fun hp h=>WA.cons ((H _ _ _ h).to fun d σ q=>H _ _ _ q) hp) fun _=>Sp.h
 | S ss N R=>
  cases ss with
  | nil=>exact WS.nil h
  | cons s ss=>exact WS.cons (stS_ok g H h)
 | X ss N R=>exact bB.use h (fun _=>Sp.h) fun _ h=>H _ _ (.S ss N R) h
 | Ts op es Q=>
  cases op<;>cases es<;>first| exact WTs.nilAnd h| exact WTs.nilOr h| exact WTs.and ((H _ _ _ h).to fun b σ q=>ite_to q (fun q=>H _ _ _ q) id)| exact WTs.or ((H _ _ _ h).to fun b σ q=>ite_to q id fun q=>H _ _ _ q)
 | I it tg Q=>exact stI_ok g H h
 | Bs op es Q=>
  cases es with
  | nil=>exact Sp.h h
  | cons e es=>
   cases es with
   | nil=>exact WBs.one (H _ _ _ h)
   | cons e2 es=>
    cases op with
    | And=>exact WBs.and ((H _ _ _ h).to fun d σ q=>doTru_ok q fun b σ q=>ite_to q (fun q=>H _ _ _ q) id)
    | Or=>exact WBs.or ((H _ _ _ h).to fun d σ q=>doTru_ok q fun b σ q=>ite_to q id fun q=>H _ _ _ q)
theorem run_ok (g:Gd Γ.B Γ.bs Γ.gs Γ.sc Γ.k Γ.f Γ.c Γ.A Γ.env):∀n,Snd Γ (run Γ n)
 | 0=>fun _ _ _ h=>Sp.h h
 | n+1=>step_ok g (run_ok g n)
end
section
variable {B:List Stmt} {bs:List (Str × Value)} {gs:List (Str × Int)} {sc:Scope} {k:Nat} {f:Bool} {c:Cx} {A:Around} {X:Addr->Sto->Prop} {env:Env} {fr:List Addr} {m:Vars} {σ:Sto}
theorem WE.go (g:Gd B bs gs sc k f c A env){e:Expr}{Q:D->Sto->Prop}(h:run ⟨B,bs,gs,sc,k,f,c,A,X,env,fr⟩ 1000 m σ (.E e (stop Q))):WE c A fr env m σ e Q X:=
 WE.to (run_ok (Γ:=⟨B,bs,gs,sc,k,f,c,A,X,env,fr⟩) g _ _ _ _ h) fun _ _ q=>q.h
theorem WT.go (g:Gd B bs gs sc k f c A env){e:Expr}{Q:Bool->Sto->Prop}(h:run ⟨B,bs,gs,sc,k,f,c,A,X,env,fr⟩ 1000 m σ (.T e (stop Q))):WT c A fr env m σ e Q X:=
 WT.to (run_ok (Γ:=⟨B,bs,gs,sc,k,f,c,A,X,env,fr⟩) g _ _ _ _ h) fun _ _ q=>q.h
theorem WA.go (g:Gd B bs gs sc k f c A env){es:List Expr}{Q:List D->Sto->Prop}(h:run ⟨B,bs,gs,sc,k,f,c,A,X,env,fr⟩ 1000 m σ (.A es (stop Q))):WA c A fr env m σ es Q X:=
 WA.to (run_ok (Γ:=⟨B,bs,gs,sc,k,f,c,A,X,env,fr⟩) g _ _ _ _ h) fun _ _ q=>q.h
theorem WS.go (g:Gd B bs gs sc k f c A env){ss:List Stmt}{N:Vars->Sto->Prop}{R:D->Sto->Prop}(h:run ⟨B,bs,gs,sc,k,f,c,A,X,env,fr⟩ 1000 m σ (.S ss (nstop N) (stop R))):WS c A fr env m σ ss N R X:=fun s ok fm=>
 (run_ok (Γ:=⟨B,bs,gs,sc,k,f,c,A,X,env,fr⟩) g _ _ _ _ h s ok fm).mono (fun o σ q=>by cases o<;>exact Sp.h q) fun _ _ x=>x
theorem WS.goN (g:Gd B bs gs sc k f c A env){ss:List Stmt}{N:Vars->Sto->Prop}{R:D->Sto->Prop}(h:run ⟨B,bs,gs,sc,k,f,c,A,X,env,fr⟩ 1000 m σ (.S ss (nstop N) R)):WS c A fr env m σ ss N R X:=WS.toN (run_ok (Γ:=⟨B,bs,gs,sc,k,f,c,A,X,env,fr⟩) g _ _ _ _ h) fun _ _ q=>q.h
theorem WS.goK (g:Gd B bs gs sc k f c A env){ss:List Stmt}{N:Vars->Sto->Prop}{R:D->Sto->Prop}(h:run ⟨B,bs,gs,sc,k,f,c,A,X,env,fr⟩ 1000 m σ (.S ss N R)):WS c A fr env m σ ss N R X:=run_ok (Γ:=⟨B,bs,gs,sc,k,f,c,A,X,env,fr⟩) g _ _ _ _ h
theorem WE.base {l:Vars}{e:Expr}{Q:D->Sto->Prop}(h:Hs m l)(k:WE c A fr env l σ e Q X):WE c A fr env m σ e Q X:=fun s ok fm=>k s ok (fm.turn fun x d e=>⟨d,h x d e,fun v hv=>hv⟩)
theorem Gi.nil:Gi c []:=fun x i e=>by contradiction
theorem Gd.at (g:Gd B bs gs sc k f c A env){env':Env}{sc':Scope}(s:env'.scope=sc'):Gd B bs gs sc' k false c A env':=⟨g.T,g.G,g.r,s,fun e=>by nomatch e⟩
theorem brT {b:Bool}{P Q:Prop}(e:b=true)(h:P):if b=true then P else Q:=by rw [if_pos e];exact h
theorem brF {b:Bool}{P Q:Prop}(e:b=false)(h:Q):if b=true then P else Q:=by rw [e];exact h
theorem brNT {b:Bool}{P Q:Prop}(e:b=false)(h:P):if (!b)=true then P else Q:=by rw [e];exact h
theorem brNF {b:Bool}{P Q:Prop}(e:b=true)(h:Q):if (!b)=true then P else Q:=by rw [e];exact h
theorem brJ {b:Bool}{P Q:Prop}(h:P)(k:b=false->P->Q):if b=true then P else Q:=by
 cases b with
 | true=>exact h
 | false=>exact k rfl h
noncomputable def pickV (m:Vars):List Str->Option Vars
 | []=>some []
 | x::xs=>match m.lookup x with
  | none=>none
  | some d=>match pickV m xs with
   | none=>none
   | some l=>some ((x,d)::l)
theorem Hs.of {m:Vars}:∀(xs:List Str) {l:Vars},pickV m xs=some l->Hs m l
 | [],l,e=>by
  injection e with e;subst e;exact Hs.nil
 | x::xs,l,e=>by
  unfold pickV at e
  split at e
  ·contradiction
  ·rename_i d hd
   split at e
   ·contradiction
   ·rename_i l' hl
    injection e with e;subst e
    exact Hs.cons hd (Hs.of xs hl)
theorem Hs.lit {m l:Vars}(e:pickV m (l.map (·.1))=some l):Hs m l:=Hs.of _ e
end
end Mine
namespace Mine
open PySem PySem.Calls PyProof.Rows PySem.W
noncomputable def recAt (B:List Stmt)(i:Nat):PySem.DefRec:=((B[i]?).bind recOf).getD ⟨"",⟨[],[],none,[],[],none,[]⟩,[],⟨.function,[],false,false,[]⟩,⟨0,0,0,0⟩⟩
theorem recAt_some {B:List Stmt}{i:Nat}(h:((B[i]?).bind recOf).isSome=true):(B[i]?).bind recOf=some (recAt B i):=by
 unfold recAt
 cases q:(B[i]?).bind recOf with
 | none=>rw [q] at h;contradiction
 | some d=>rfl
section
variable {c:Cx} {A:Around} {fr:List Addr} {σ:Sto} {X:Addr->Sto->Prop} {Q:D->Sto->Prop} {env:Env} {m:Vars} {B:List Stmt} {bs:List (Str × Value)} {gs:List (Str × Int)} {K:Frag} {C:Addr} {cn:Str} {Bd:List Stmt}
theorem WF.byG (i:Nat){ps:List Str}{n:Nat}{ds:List D}{f:Str}(T:Tp c B bs)(G:Gi c gs)(hd:((B[i]?).bind recOf).isSome=true)(hf:(recAt B i).name=f)
  (hb:∀pm code doc vals,vals.length=ps.length->bindArgs (docDef (recAt B i).name (recAt B i).params (recAt B i).body (recAt B i).scope pm code doc) ⟨vals,[]⟩=pure (ps.zip vals)) (hok:fnOk (recAt B i).scope ps=true) (hl:ds.length=ps.length)
  (h:∀A fr env,Gd B bs gs (recAt B i).scope n true c A env->Room n A->A.handled=none->env.scope=(recAt B i).scope->Fe A env (recAt B i).scope->run ⟨B,bs,gs,(recAt B i).scope,n,true,c,A,X,env,Fa env++fr⟩ 1000 (ps.zip ds) σ (.S (recAt B i).body (nstop fun _ σ'=>Q .none σ') (stop Q))):WF c (Room (n+1)) f ds σ Q X:=
 WF.of T (rec_mem (recAt_some hd)) hf hb hok hl fun A fr env r hs fe=>
  have g:Gd B bs gs (recAt B i).scope n true c A env:=⟨T,G,r,hs,fun _=>fe⟩
  WS.go g (h A fr env g r r.2 hs fe)
theorem WF.byS (i:Nat){ps:List Str}{n:Nat}{ds:List D}{f:Str}(T:Tp c B bs)(hd:((B[i]?).bind recOf).isSome=true)(hf:(recAt B i).name=f)
  (hb:∀pm code doc vals,vals.length=ps.length->bindArgs (docDef (recAt B i).name (recAt B i).params (recAt B i).body (recAt B i).scope pm code doc) ⟨vals,[]⟩=pure (ps.zip vals)) (hok:fnOk (recAt B i).scope ps=true) (hl:ds.length=ps.length)
  (h:∀A fr env,Gd B bs [] (recAt B i).scope n true c A env->Room n A->A.handled=none->env.scope=(recAt B i).scope->Fe A env (recAt B i).scope->WS c A (Fa env++fr) env (ps.zip ds) σ (recAt B i).body (fun _ σ'=>Q .none σ') Q X):WF c (Room (n+1)) f ds σ Q X:=
 WF.of T (rec_mem (recAt_some hd)) hf hb hok hl fun A fr env r hs fe=>h A fr env ⟨T,Gi.nil,r,hs,fun _=>fe⟩ r r.2 hs fe
theorem WF.byA (i:Nat){ps:List Str}{n:Nat}{ds:List D}{f:Str}(T:Tp c B bs)(hd:((B[i]?).bind recOf).isSome=true)(hf:(recAt B i).name=f)
  (hb:∀pm code doc vals,vals.length=ps.length->bindArgs (docDef (recAt B i).name (recAt B i).params (recAt B i).body (recAt B i).scope pm code doc) ⟨vals,[]⟩=pure (ps.zip vals)) (hok:fnOk (recAt B i).scope ps=true) (hl:ds.length=ps.length)
  (h:∀A fr env,Gd B bs [] (recAt B i).scope n true c A env->Room n A->A.handled=none->env.scope=(recAt B i).scope->Fe A env (recAt B i).scope->run ⟨B,bs,[],(recAt B i).scope,n,true,c,A,X,env,Fa env++fr⟩ 1000 (ps.zip ds) σ (.S (recAt B i).body (nstop fun _ σ'=>Q .none σ') (stop Q))):WF c (Room (n+1)) f ds σ Q X:=
 WF.byG i T Gi.nil hd hf hb hok hl h
theorem WM.byG (i:Nat){ps:List Str}{n:Nat}{ds:List D}{f:Str}(T:Tp c B bs)(G:Gi c gs)(S:Ks c K C cn Bd)(hd:((Bd[i]?).bind recOf).isSome=true)(hf:(recAt Bd i).name=f)
  (hb:∀pm code doc qual vals,vals.length=ps.length->bindArgs {docDef (recAt Bd i).name (recAt Bd i).params (recAt Bd i).body (recAt Bd i).scope pm code doc with qualname:=qual} ⟨vals,[]⟩=pure (ps.zip vals)) (hok:fnOk (recAt Bd i).scope ps=true) (hl:ds.length=ps.length)
  (h:∀A fr env,Gd B bs gs (recAt Bd i).scope n true c A env->Room n A->A.handled=none->env.scope=(recAt Bd i).scope->Fe A env (recAt Bd i).scope->run ⟨B,bs,gs,(recAt Bd i).scope,n,true,c,A,X,env,Fa env++fr⟩ 1000 (ps.zip ds) σ (.S (recAt Bd i).body (nstop fun _ σ'=>Q .none σ') (stop Q))):WM c K C (Room (n+1)) f ds σ Q X:=by
 subst hf
 refine WM.by (name:=(recAt Bd i).name) (params:=(recAt Bd i).params) (body:=(recAt Bd i).body) (scope:=(recAt Bd i).scope) (dpos:=(recAt Bd i).pos) i T S (recAt_some hd) hb hok hl fun A fr env r hh hs fe=> ?_
 have g:Gd B bs gs (recAt Bd i).scope n true c A env:=⟨T,G,r,hs,fun _=>fe⟩
 exact WS.go g (h A fr env g r hh hs fe)
theorem WM.byA (i:Nat){ps:List Str}{n:Nat}{ds:List D}{f:Str}(T:Tp c B bs)(S:Ks c K C cn Bd)(hd:((Bd[i]?).bind recOf).isSome=true)(hf:(recAt Bd i).name=f)
  (hb:∀pm code doc qual vals,vals.length=ps.length->bindArgs {docDef (recAt Bd i).name (recAt Bd i).params (recAt Bd i).body (recAt Bd i).scope pm code doc with qualname:=qual} ⟨vals,[]⟩=pure (ps.zip vals)) (hok:fnOk (recAt Bd i).scope ps=true) (hl:ds.length=ps.length)
  (h:∀A fr env,Gd B bs [] (recAt Bd i).scope n true c A env->Room n A->A.handled=none->env.scope=(recAt Bd i).scope->Fe A env (recAt Bd i).scope->run ⟨B,bs,[],(recAt Bd i).scope,n,true,c,A,X,env,Fa env++fr⟩ 1000 (ps.zip ds) σ (.S (recAt Bd i).body (nstop fun _ σ'=>Q .none σ') (stop Q))):WM c K C (Room (n+1)) f ds σ Q X:=
 WM.byG i T Gi.nil S hd hf hb hok hl h
theorem Mth.byA (i:Nat){f:Str}(S:Ks c K C cn Bd)(hd:((Bd[i]?).bind recOf).isSome=true)(hf:(recAt Bd i).name=f):Mth K C f:=by
 subst hf
 obtain ⟨f,o,pm,code,doc,qual,h1,h2,h3,_⟩:=S.meth _ (rec_mem (recAt_some hd))
 exact ⟨f,h1,h2,h3⟩
noncomputable def kFld (C:Addr)(name:Str)(Q:D->Sto->Prop):D->Sto->Prop:=fun d σ1=>AtSys C d fun sz ru=>AtFld name sz ru fun e=>Q e σ1
theorem kFld.size {sz ru:D}(h:Q sz σ):kFld C (Str.ofString "size") Q (.sys C sz ru) σ:=AtSys.mk (AtFld.size h)
theorem kFld.rules {sz ru:D}(h:Q ru σ):kFld C (Str.ofString "rules") Q (.sys C sz ru) σ:=AtSys.mk (AtFld.rules h)
theorem WE.fldA {e:Expr}{name:Str}(he:e=.Attribute (eL e) name e.pos)(S:Ks c K C cn Bd)(h:WE c A fr env m σ (eL e) (kFld C name Q) X)(hb:∀w,attributeBase (eL e) name env w=w):WE c A fr env m σ e Q X:=by
 exact (he▸(WE.fld (pos:=e.pos) S h hb))
noncomputable def kMeth (c:Cx)(K:Frag)(C:Addr)(A:Around)(fr:List Addr)(env:Env)(m:Vars)(n:Nat)(as:List Expr)(name:Str)(Q:D->Sto->Prop)(X:Addr->Sto->Prop):D->Sto->Prop:=fun d σ1=>AtSys C d fun _ _=>WA c A fr env m σ1 as (fun ds σ2=>WM c K C (Room n) name (d::ds) σ2 Q X) X
theorem kMeth.mk {n:Nat}{as:List Expr}{name:Str}{sz ru:D}(h:WA c A fr env m σ as (fun ds σ2=>WM c K C (Room n) name (.sys C sz ru::ds) σ2 Q X) X):kMeth c K C A fr env m n as name Q X (.sys C sz ru) σ:=AtSys.mk h
theorem WE.mthA {e:Expr}{name:Str}{n:Nat}(he:e=.Call (.Attribute (eL (eL e)) name (eL e).pos) (eS e) [] e.pos)(S:Ks c K C cn Bd)(r:Room n A)(hf:Mth K C name)
  (h:WE c A fr env m σ (eL (eL e)) (kMeth c K C A fr env m n (eS e) name Q X) X) (h1:name≠"size") (h2:name≠"rules") (hp:plainArgs (eS e)=true) (hb:∀w,attributeBase (eL (eL e)) name env w=w) (hl:((eL e).pos.endLine==e.pos.line)=true) (hn:decide ((eS e).length<30)=true):WE c A fr env m σ e Q X:=by
 have t:=WE.mth S r hf h h1 h2 hp hb hl hn
 rw [<-he] at t;exact t
theorem WE.callCA {e:Expr}{n:Nat}(he:e=.Call (.Name cn (eL e).pos) (eS e) [] e.pos)(S:Ks c K C cn Bd)(T:Tp c B bs)(r:Room (n+1) A)(hk:env.kindOf cn=some .globalImplicit)(hm:Mth K C "__init__")
  (h:WA c A fr env m σ (eS e) (fun ds σ1=>∀dx,dx∉keys σ1->WM c K C (Room n) "__init__" (.own C dx::ds) ((dx,.flds [])::σ1) (NewQ C dx Q) (NewX dx X)) X) (hp:plainArgs (eS e)=true) (hdb:(cn==("__debug__":Str))=false):WE c A fr env m σ e Q X:=by
 have t:=WE.callC (pos:=e.pos) (fp:=(eL e).pos) S T r hk hm h hp hdb
 rw [<-he] at t;exact t
theorem WE.sliceA {e:Expr}{lower upper:Option Expr}(he:e=.Subscript (eL e) (.Slice lower upper none (eR e).pos) e.pos)
  (h:WE c A fr env m σ (eL e) (fun d σ1=>WPt c A fr env m σ1 lower (fun lo σ2=>WPt c A fr env m σ2 upper (fun hi σ3=>∃sd:SD,d=sd.d/\sd.isL=true/\sd.inv σ3/\sd.ds.length<=sizeLine/\QL Q (pick sd.ds lo hi) σ3) X) X) X):WE c A fr env m σ e Q X:=by
 have t:=WE.sliceLG (pos:=e.pos) (p:=(eR e).pos) h
 rw [<-he] at t;exact t
theorem At1.lenM {α:Type}{sd:SD}{l:List α}{F:α->D}(hd:sd.ds=l.map F)(inv:sd.inv σ)(hf:l.length<2^62)(h:Q (.int l.length) σ):At1 c A fr σ (.builtin "len") [sd.d] Q X:=by
 have e:sd.ds.length=l.length:=by rw [hd,List.length_map]
 exact At1.len inv (by rw [e];exact hf) (by rw [e];exact h)
theorem At1.tupM {sd:SD}{ds:List D}(hd:sd.ds=ds)(inv:sd.inv σ)(hsz:ds.length<=sizeLine)(h:Q (.tup ds) σ):At1 c A fr σ (.type "tuple") [sd.d] Q X:=by
 subst hd;exact At1.tuple inv hsz h
theorem flat_rep {x:Int}:∀n:Nat,(List.replicate n [D.int x]).flatten=(List.replicate n x).map D.int
 | 0=>rfl
 | n+1=>by simp only [List.replicate_succ,List.flatten_cons,flat_rep n];rfl
theorem WB.rep {x:Int}{n:Nat}(hn:n<1000)(h:QL Q ((List.replicate n x).map D.int) σ):WB c A fr σ (binaryOp .Mult) (.lst [.int x]) (.int n) Q X:=
 WB.mulL (sd:=.lst [.int x]) rfl trivial z967 (z998 hn) (by exact z999 hn) (by
  dsimp only [SD.ds,Int.toNat_natCast]
  rw [flat_rep];exact h)
theorem WIv.seqA {α:Type}{tg:Expr}{x:Str}(ht:tg=.Name x tg.pos){sd:SD}{l:List α}{Q:ItQ}(F:α->D)(hh:A.handled=none)(hd:sd.ds=l.map F)(hi:sd.inv σ)(h:Q (l.map fun i=>[(x,F i)]) sd.inv σ):WIv c A fr env m σ sd.d tg Q:=by
 exact (ht▸(WIv.seq (c:=c) (fr:=fr) (env:=env) (m:=m) (px:=tg.pos) F hh hd hi h))
theorem QL.sp {ds:List D}(h:QL Q ds σ):QL (stop Q) ds σ:=h.to fun _ _ q=>⟨q⟩
variable {N:Vars->Sto->Prop} {R:D->Sto->Prop}
theorem W1.whileA {s:Stmt}{p:Pos}{sc:Scope}(he:s=.While (sE s) (sA s) [] p)(fe:Fe A env sc)(L:Nat->Vars->Sto->Prop)(n:Nat)(h0:L n m σ)
  (turn:∀k m' σ',L k m' σ'->WT c A fr env m' σ' (sE s) (fun b σ1=>if b=true then WS c A fr env m' σ1 (sA s) (fun m'' σ''=>∃j,j<k/\L j m'' σ'') R X else N m' σ1) X):W1 c A fr env m σ s N R X:=by
 exact (he▸(W1.while (pos:=p) fe L n h0 turn))
theorem execs_one {s:Stmt}:execs [s] env=exec s env:=by
 refine Eq.trans (congrArg (exec s env>>=·) (funext fun fl=> ?_)) (bind_pure _)
 cases fl<;>rfl
theorem W1.ofS {s:Stmt}(h:WS c A fr env m σ [s] N R X):W1 c A fr env m σ s N R X:=fun st ok fm=>by
 exact (execs_one▸(h st ok fm))
theorem W1.go {sc:Scope}{k:Nat}{fl:Bool}(g:Gd B bs gs sc k fl c A env){s:Stmt}(h:run ⟨B,bs,gs,sc,k,fl,c,A,X,env,fr⟩ 1000 m σ (.S [s] (nstop N) (stop R))):W1 c A fr env m σ s N R X:=W1.ofS (WS.go g h)
theorem W1.goN {sc:Scope}{k:Nat}{fl:Bool}(g:Gd B bs gs sc k fl c A env){s:Stmt}(h:run ⟨B,bs,gs,sc,k,fl,c,A,X,env,fr⟩ 1000 m σ (.S [s] (nstop N) R)):W1 c A fr env m σ s N R X:=W1.ofS (WS.goN g h)
noncomputable def isCons:List Stmt->Bool
 | _::_=>true
 | []=>false
theorem WS.joinA {ss:List Stmt}(hc:isCons ss=true)(J:Vars->Sto->Prop)(h:W1 c A fr env m σ (hS ss) J R X)(k:∀m' σ',J m' σ'->WS c A fr env m' σ' ss.tail N R X):WS c A fr env m σ ss N R X:=by
 cases ss with
 | nil=>contradiction
 | cons s ss=>exact WS.cons (W1.join J h k)
theorem WS.checkA {ss:List Stmt}(hc:isCons ss=true)(h:W1 c A fr env m σ (hS ss) (fun a b=>a=m/\b=σ) R X)(k:WS c A fr env m σ ss.tail N R X):WS c A fr env m σ ss N R X:=
 WS.joinA hc _ h fun _ _ e=>by rw [e.1,e.2];exact k
theorem WT.base {l:Vars}{e:Expr}{Q:Bool->Sto->Prop}(h:Hs m l)(k:WT c A fr env l σ e Q X):WT c A fr env m σ e Q X:=fun s ok fm=>k s ok (fm.turn fun x d e=>⟨d,h x d e,fun v hv=>hv⟩)
theorem fz_self {a:Addr}{ds:List D}{x:Str}{m:Vars}:fz a ds ((x,.ref a)::m)=(x,.lst ds)::fz a ds m:=by simp [fz,fzD,isRef]
theorem fz_int {a:Addr}{ds:List D}{x:Str}{i:Int}{m:Vars}:fz a ds ((x,.int i)::m)=(x,.int i)::fz a ds m:=rfl
theorem fz_lst {a:Addr}{ds es:List D}{x:Str}{m:Vars}:fz a ds ((x,.lst es)::m)=(x,.lst es)::fz a ds m:=rfl
theorem fz_nil {a:Addr}{ds:List D}:fz a ds []=[]:=rfl
theorem fz_ne {a b:Addr}{ds:List D}{x:Str}{m:Vars}(h:b≠a):fz a ds ((x,.ref b)::m)=(x,.ref b)::fz a ds m:=by simp [fz,fzD,isRef,h,Ne.symm h]
end
end Mine
namespace Mine
open PySem PySem.Calls PyProof.Rows
theorem swapped_of {env:Env}{sc:Scope}{ts:List Expr}{v:Expr}{r:Sem (Option (List Str))}(h:env.scope=sc)(e:swappedStores ts v {env with scope:=sc}=r):swappedStores ts v env=r:=by
 subst h;exact e
end Mine
namespace Mine
noncomputable def boxL:List Nat->List (List Int)
 | []=>[[]]
 | b::bs=>(List.range b).flatMap fun (i:Nat)=>(boxL bs).map fun r=>(i:Int)::r
theorem boxL_len:∀bs:List Nat,(boxL bs).length=bs.foldr (· *·) 1
 | []=>rfl
 | b::bs=>by
  simp only [boxL,List.length_flatMap]
  simp only [List.length_map,List.foldr_cons]
  rw [boxL_len bs]
  induction b with
  | zero=>simp
  | succ b ih=>simp only [List.range_succ,List.map_append,List.sum_append,ih];simp [Nat.succ_mul]
theorem boxL_mem:∀{bs:List Nat} {v:List Int},v.length=bs.length->(∀i,i<bs.length->0<=v.getD i 0/\v.getD i 0<bs.getD i 0)->v∈boxL bs
 | [],v,hl,_=>by cases v<;>simp [boxL] at hl⊢
 | b::bs,v,hl,h=>by
  cases v with
  | nil=>contradiction
  | cons x v=>
   rw [boxL,List.mem_flatMap]
   have h0:=h 0 (by simp)
   simp at h0
   refine ⟨x.toNat,List.mem_range.mpr (z309 h0.1 h0.2),List.mem_map.mpr ⟨v,boxL_mem (by simpa using hl) fun i hi=> ?_,by rw [Int.toNat_of_nonneg h0.1]⟩⟩
   simpa using h (i+1) (by simpa using hi)
theorem count_box {l:List (List Int)}{bs:List Nat}(nd:l.Nodup)(h:∀v∈l,v.length=bs.length+1/\∀i,i<bs.length->0<=v.getD (i+1) 0/\v.getD (i+1) 0<bs.getD i 0)(inj:∀v∈l,∀u∈l,v.tail=u.tail->v=u):l.length<=bs.foldr (· *·) 1:=by
 rw [<-boxL_len,<-List.length_map (f:=List.tail)]
 refine length_le_of_nodup ?_ fun x hx=> ?_
 ·rw [List.Nodup,List.pairwise_map]
  exact List.Pairwise.imp_of_mem (fun {a b} ha hb hab e=>hab (inj a ha b hb e)) nd
 ·obtain ⟨v,hv,rfl⟩:=List.mem_map.mp hx
  obtain ⟨h1,h2⟩:=h v hv
  refine boxL_mem (by rw [List.length_tail,h1];rfl) fun i hi=> ?_
  cases v with
  | nil=>contradiction
  | cons a v=>exact (h2 i hi)
structure Fits (E:List (List Int))(n:Nat)(once:Bool):Prop where
 len:∀e∈E,e.length=n
 ends:∃K,∀k,K<=k->(stF E n once k).2=[]
 front:∀k,(stF E n once k).2.length<=16000000
 found:∀k,(stF E n once k).1.length<=16000000
 most:∀s,Least E n s->(once=true->s.getD (n-1) 0<2)->s.sum<=100000000
theorem most_of {E:List (List Int)}{n:Nat}{once:Bool}{K:Nat}(hE:∀e∈E,e.length=n)(hK:∀R v,Alive E n once R v->v.sum<=K){s:List Int}(ls:Least E n s)(ho:once=true->s.getD (n-1) 0<2):s.sum<=K:=by
 have I:=Inv.at (once:=once) hE K
 rcases Int.lt_or_le K s.sum with q| q
 ·obtain ⟨v,hv,_⟩:=(I.all s ls ho).2 (by assumption)
  obtain ⟨R,x⟩:=I.alive hv
  have:=hK R v x
  have:=(I.reach v hv).2
  exact (z127 this ‹_›).elim
 ·exact q
theorem Fits.of {E:List (List Int)}{n:Nat}{once:Bool}{bs:List Nat}{K:Nat}(hE:∀e∈E,e.length=n)(hn:n=bs.length+1)(hK:∀R v,Alive E n once R v->v.sum<=K)(hb:∀R v,Alive E n once R v->∀i,i<bs.length->v.getD (i+1) 0<bs.getD i 0)
  (h:bs.foldr (· *·) 1<=16000000) (hK2:K<=100000000:=by decide):Fits E n once where
 len:=hE
 most:=fun s ls ho=>Int.le_trans (most_of hE hK ls ho) (Int.ofNat_le.mpr hK2)
 ends:=⟨K,fun k hk=>by
  have I:=Inv.at (once:=once) hE k
  cases e:(stF E n once k).2 with
  | nil=>rfl
  | cons v r=>
   have hv:v∈(stF E n once k).2:=by rw [e];exact .head _
   obtain ⟨R,x⟩:=I.alive hv
   have:=hK R v x
   have:=(I.reach v hv).2
   lia⟩
 front:=fun k=>by
  have I:=Inv.at (once:=once) hE k
  refine Nat.le_trans (count_box I.nd (fun v hv=> ?_) fun v hv u hu e=> ?_) h
  ·obtain ⟨R,x⟩:=I.alive hv
   exact ⟨by exact (x.reach.row.len ..).trans (hn ..),fun i hi=>⟨x.reach.row.pos _,hb R v x i hi⟩⟩
  ·obtain ⟨⟨R,x⟩,hs⟩:=I.reach v hv
   obtain ⟨⟨R',x'⟩,hs'⟩:=I.reach u hu
   have h1:=x.row.len
   have h2:=x'.row.len
   cases v with
   | nil=>simp at h1;lia
   | cons a v=>
    cases u with
    | nil=>simp at h2;lia
    | cons b u=>
     simp only [List.tail_cons] at e
     subst e
     simp only [List.sum_cons] at hs hs'
     have:a=b:=z310 hs hs'
     rw [this]
 found:=fun k=>by
  have I:=Inv.at (once:=once) hE k
  have al:∀k v,v∈(stF E n once k).1->∃R,Alive E n once R v:=by
   intro k
   induction k with
   | zero=>intro v hv;contradiction
   | succ k ih=>
    intro v hv
    rcases List.mem_append.mp (show v∈(stF E n once k).1++_ from hv) with h| h
    ·exact ih v h
    ·exact (Inv.at hE k).alive (List.mem_filter.mp h).1
  refine Nat.le_trans (count_box I.ndf (fun v hv=> ?_) fun v hv u hu e=> ?_) h
  ·obtain ⟨R,x⟩:=al k v hv
   exact ⟨by exact (x.reach.row.len ..).trans (hn ..),fun i hi=>⟨x.reach.row.pos _,hb R v x i hi⟩⟩
  ·have lv:=(I.least v hv).1
   have lu:=(I.least u hu).1
   have h1:=lv.row.len
   have h2:=lu.row.len
   have key:∀a b:List Int,a.length=n->b.length=n->a.tail=b.tail->a.getD 0 0<=b.getD 0 0->Le a b:=by
    intro a b ha hb' e h0 i
    cases a with
    | nil=>simp at ha;exact (z311 ha hn).elim
    | cons x a=>
     cases b with
     | nil=>simp at hb';exact (z311 hb' hn).elim
     | cons y b=>
      simp only [List.tail_cons] at e
      subst e
      cases i with
      | zero=>trivial
      | succ i=>simp
   rcases Int.le_total (v.getD 0 0) (u.getD 0 0) with q| q
   ·exact lu.least v lv.row lv.even lv.pos (key v u h1 h2 e q)
   ·exact (lv.least u lu.row lu.even lu.pos (key u v h2 h1 e.symm q)).symm
theorem get_le_sum {n:Nat}{v:List Int}(r:Row n v)(i:Nat):v.getD i 0<=v.sum:=by
 by_cases hi:i<n
 ·rw [r.sum]
  have h:=sumN_mono (n:=n) (f:=fun j=>v.getD i 0*if j=i then 1 else 0) (g:=fun j=>v.getD j 0) fun j _=>by
   split
   ·rename_i e;subst e;simp
   ·simpa using (r.pos j)
  rw [sumN_one hi (fun _=>v.getD i 0)] at h
  exact h
 ·rw [List.getD_eq_getElem?_getD,List.getElem?_eq_none (by rw [r.len];exact z12 hi)]
  exact r.sum_nonneg
theorem Fits.level {E:List (List Int)}{n:Nat}{once:Bool}{K:Nat}(hE:∀e∈E,e.length=n)(hn:0<n)(hK:∀R v,Alive E n once R v->v.sum<=K)(h:(K+1)^(n-1)<=16000000)(hK2:K<=100000000:=by decide):Fits E n once:=
 Fits.of (bs:=List.replicate (n-1) (K+1)) (K:=K) hE (by simp;exact z312 hn) hK (fun R v x i hi=>by
  have h1:=hK R v x
  have h2:=get_le_sum x.reach.row (i+1)
  simp only [List.length_replicate] at hi
  simp [hi] at h2⊢
  exact z313 h1 h2) (by
  have:∀(m b:Nat),(List.replicate m b).foldr (· *·) 1=b^m:=by
   intro m b
   induction m with
   | zero=>rfl
   | succ m ih=>simp only [List.replicate_succ,List.foldr_cons,ih,Nat.pow_succ,Nat.mul_comm]
  rw [this];exact h) hK2
theorem Fits.none {n:Nat}{once:Bool}(hn:0<n)(hn2:n<=24):Fits [] n once:=
 Fits.level (K:=1) (by simp) hn (fun R v x=>by
  have:R=[]:=by
   cases R with
   | nil=>rfl
   | cons r R=>exact absurd (fun y hy=>by cases hy) (x.reach.back r (.head _)).2.2.2
  rw [x.reach.len,this];decide) (by
  exact Nat.le_trans (Nat.pow_le_pow_right (by decide) (show n-1<=23 by exact z314 hn2)) (by decide))
noncomputable abbrev col (E:List (List Int))(n p:Nat):List Int:=wor E (unitR n p)
theorem dot_scale (a:Int)(e v:List Int):dot (e.map (a*·)) v=a*dot e v:=by
 induction e generalizing v with
 | nil=>simp [dot_nil_l]
 | cons x e ih=>
  cases v with
  | nil=>simp [dot_nil_r]
  | cons y v=>simp only [List.map_cons,dot_cons,dot_cons,ih,Int.mul_add,Int.mul_assoc]
theorem wor_line (as:List Int)(e v:List Int):wor (as.map fun a=>e.map (a*·)) v=as.map (· *dot e v):=by
 simp [wor,dot_scale,Function.comp_def]
theorem dot_line (as:List Int)(x y:Int):dot (as.map (· *x)) (as.map (· *y))=dot as as*(x*y):=by
 induction as with
 | nil=>simp [dot_nil_l]
 | cons a as ih=>
  simp only [List.map_cons,dot_cons,dot_cons,Int.add_mul]
  congr 1
  simp only [Int.mul_assoc,<-Int.mul_assoc x a y,Int.mul_comm x a]
theorem level_line {as e:List Int}{n w:Nat}{once:Bool}(he:e.length=n)(hw:∀x∈e,-(w:Int)<=x/\x<=w)(R:List (List Int))(v:List Int)(x:Alive (as.map fun a=>e.map (a*·)) n once R v):v.sum<=(2*w+2:Nat):=by
 have:=x.level (F:=(List.range (2*w+1)).map fun (i:Nat)=>as.map (· *((i:Int)-w))) fun r hr=>by
  obtain ⟨h1,h2⟩:=(x.reach.inv (P:=fun v=> -(w:Int)<=dot e v/\dot e v<=w) (fun p hp=>by
   exact (dot_unit he hp)▸hw _ (get_mem (z23 hp he))) fun R v p y hv ne hp hd _=>by
  simp only [wor_line,wor_line,dot_line] at hd
  rw [dot_addR (by exact (y.row.len ..).trans (unitR_len ..).symm),dot_unit he hp]
  rw [dot_unit he hp] at hd
  have hp:=hw _ (get_mem (a:=e) (i:=p) (z23 hp he))
  have h0:=dot_self_nonneg as
  generalize dot e v=a at*
  generalize e.getD p 0=b at*
  have hab:a*b<0:=by
   by_cases q:a*b<0
   ·exact q
   ·have:=Int.mul_nonneg h0 (show 0<=a*b by exact z21 q);exact (z22 hd this).elim
  rcases Int.lt_trichotomy a 0 with ha| ha| ha
  ·have:0<b:=by
    by_cases q:0<b
    ·exact q
    ·have:=Int.mul_nonneg_of_nonpos_of_nonpos (show a<=0 by exact z275 ha) (show b<=0 by exact z21 q);exact (z22 hab this).elim
   exact z475 this ha hv.1 hp.2
  ·subst ha;simp at hab
  ·have:b<0:=by
    by_cases q:b<0
    ·exact q
    ·have:=Int.mul_nonneg (show 0<=a by exact z275 ha) (show 0<=b by exact z21 q);exact (z22 hab this).elim
   exact z476 ha this hv.2 hp.1).2 r hr
  simp only [wor_line]
  exact List.mem_map.mpr ⟨(dot e r+w).toNat,List.mem_range.mpr (z345 h2),by rw [Int.toNat_of_nonneg (z194 h1)];congr 1;funext a;congr 1;simp⟩
 rw [List.length_map,List.length_range] at this
 assumption
theorem Fits.line {as e:List Int}{n w:Nat}{once:Bool}(he:e.length=n)(hn:0<n)(hw:∀x∈e,-(w:Int)<=x/\x<=w)(h:(2*w+3)^(n-1)<=16000000)(hw2:w<=20:=by decide):Fits (as.map fun a=>e.map (a*·)) n once:=
 Fits.level (K:=2*w+2) (fun f hf=>by
  obtain ⟨a,_,rfl⟩:=List.mem_map.mp hf;simpa using he) hn (level_line he hw) h (z477 hw2)
theorem Fits.one {e:List Int}{n w:Nat}{once:Bool}(he:e.length=n)(hn:0<n)(hw:∀x∈e,-(w:Int)<=x/\x<=w)(h:(2*w+3)^(n-1)<=16000000)(hw2:w<=20:=by decide):Fits [e] n once:=by
 have:=Fits.line (as:=[1]) (once:=once) he hn hw h hw2
 have e1:([1]:List Int).map (fun a=>e.map (a*·))=[e]:=by simp
 rw [e1] at this;exact this
noncomputable def boxZ (lo:Int)(b:Nat):Nat->List (List Int)
 | 0=>[[]]
 | m+1=>(List.range b).flatMap fun (i:Nat)=>(boxZ lo b m).map fun r=>(lo+i)::r
theorem boxZ_mem {lo:Int}{b:Nat}:∀{v:List Int},(∀x∈v,lo<=x/\x<lo+b)->v∈boxZ lo b v.length
 | [],_=>by exact .head _
 | x::v,h=>by
  rw [List.length_cons,boxZ,List.mem_flatMap]
  have h0:=h x (.head _)
  exact ⟨(x-lo).toNat,List.mem_range.mpr (z478 h0.2 h0.1),List.mem_map.mpr ⟨v,boxZ_mem fun y hy=>h y (.tail _ hy),by rw [Int.toNat_of_nonneg (z13 h0.1)];congr 1;exact z479⟩⟩
theorem col_len (E:List (List Int))(n p:Nat):(col E n p).length=E.length:=wor_len _ _
theorem col_mem {E:List (List Int)}{n p:Nat}(hE:∀e∈E,e.length=n)(hp:p<n){w:Int}(hw:∀e∈E,∀x∈e,-w<=x/\x<=w):∀x∈col E n p,-w<=x/\x<=w:=fun x hx=>by
 obtain ⟨e,he,rfl⟩:=List.mem_map.mp hx
 exact (dot_unit (hE e he) hp)▸hw e he _ (get_mem (by exact (hE e he)▸hp))
theorem dot_col {E:List (List Int)}{n p:Nat}{v:List Int}(hE:∀e∈E,e.length=n)(r:Row n v):dot (wor E v) (col E n p)=sumN n (fun j=>v.getD j 0*dot (col E n p) (col E n j)):=by
 exact (dot_comm ..).trans (dot_wor hE r.len ..)
theorem no_steps {E:List (List Int)}{n:Nat}{once:Bool}(h:∀p,p<n->∀j,j<n->0<=dot (col E n p) (col E n j)):∀R v,Alive E n once R v->R=[]:=by
 intro R v x
 have:∀{R v},Reach E n once R v->R=[]:=by
  intro R v y
  induction y with
  | unit hp=>rfl
  | step y ne hp hd ho ih=>
   subst ih
   cases y with
   | unit hq=>exact absurd hd (Int.not_lt.mpr (h _ hq _ hp))
 exact this x.reach
theorem Fits.size1 {E:List (List Int)}{once:Bool}(hE:∀e∈E,e.length=1):Fits E 1 once:=
 Fits.level (K:=1) hE (by decide) (fun R v x=>by
  rw [x.reach.len,(no_steps (fun p hp j hj=>by
   obtain rfl:p=0:=z493 hp
   obtain rfl:j=0:=z493 hj
   exact dot_self_nonneg _) R v x)];decide) (by decide)
theorem dot_le {w:Nat}:∀{a b:List Int},a.length=b.length->(∀x∈a,-(w:Int)<=x/\x<=w)->(∀x∈b,-(w:Int)<=x/\x<=w)->-((a.length*(w*w):Nat):Int)<=dot a b/\dot a b<=(a.length*(w*w):Nat)
 | [],[],_,_,_=>by simp [dot_nil_l]
 | [],_::_,h,_,_=>by contradiction
 | _::_,[],h,_,_=>by contradiction
 | x::a,y::b,h,ha,hb=>by
  have ih:=dot_le (a:=a) (b:=b) (by simpa using h) (fun z hz=>ha z (.tail _ hz)) fun z hz=>hb z (.tail _ hz)
  have hx:=ha x (.head _)
  have hy:=hb y (.head _)
  simp only [dot_cons,List.length_cons]
  have h1:x.natAbs*y.natAbs<=w*w:=Nat.mul_le_mul (z192 hx.1 hx.2) (z192 hy.1 hy.2)
  rw [<-Int.natAbs_mul] at h1
  have h1:=nabs h1
  lia
theorem dot_zero_r:∀(w z:List Int),(∀x∈z,x=0)->dot w z=0:=by
 intro w
 induction w with
 | nil=>intro z _;rfl
 | cons a w ih=>
  intro z h
  cases z with
  | nil=>rfl
  | cons b z=>simp only [dot_cons,ih z fun x hx=>h x (.tail _ hx),h b (.head _)];simp
theorem le_mul_one {a b:Int}(ha:0<=a)(hb:1<=b):a<=b*a:=by
 have:=Int.mul_le_mul_of_nonneg_right hb ha
 exact z494 this
theorem mul_le_two {a b c d:Int}(h1:a<=c)(h2:b<=d)(ha:0<=a)(hd:0<=d):a*b<=c*d:=
 Int.le_trans (Int.mul_le_mul_of_nonneg_left h2 ha) (Int.mul_le_mul_of_nonneg_right h1 hd)
theorem size2_gram {E:List (List Int)}{once:Bool}(hE:∀e∈E,e.length=2){p q r:Int}(hp:dot (col E 2 0) (col E 2 0)=p)(hq:dot (col E 2 0) (col E 2 1)= -q)(hr:dot (col E 2 1) (col E 2 1)=r)(h0:0<q){R:List (List Int)}{v:List Int}(x:Reach E 2 once R v):
  p*v.getD 0 0-q*v.getD 1 0<=p/\r*v.getD 1 0-q*v.getD 0 0<=r:=by
 have hq':dot (col E 2 1) (col E 2 0)= -q:=by exact (dot_comm ..).trans (hq)
 have hp0:0<=p:=hp▸dot_self_nonneg _
 have hr0:0<=r:=hr▸dot_self_nonneg _
 have key:∀{v},Row 2 v->dot (wor E v) (col E 2 0)=p*v.getD 0 0-q*v.getD 1 0/\dot (wor E v) (col E 2 1)=r*v.getD 1 0-q*v.getD 0 0:=by
  intro v rv
  simp only [dot_col hE rv]
  simp only [sumN_succ,sumN_zero]
  simp only [hp,hq,hq',hr]
  refine ⟨?_,?_⟩
  ·simp only [Int.mul_neg,Int.mul_comm p,Int.mul_comm q];exact z495
  ·simp only [Int.mul_neg,Int.mul_comm r,Int.mul_comm q];exact z496
 refine (x.inv (P:=fun v=>p*v.getD 0 0-q*v.getD 1 0<=p/\r*v.getD 1 0-q*v.getD 0 0<=r) (fun j hj=> ?_) fun R v j y hv ne hj hd _=> ?_).1
 ·have:j=0\/j=1:=z252 hj
  rcases this with rfl| rfl
  ·rw [unitR_get 2 0 0 (by decide),unitR_get 2 0 1 (by decide)];simp;exact z497 h0 hr0
  ·rw [unitR_get 2 1 0 (by decide),unitR_get 2 1 1 (by decide)];simp;exact z497 h0 hp0
 ·have hl:v.length=(unitR 2 (j:Nat)).length:=by exact (y.row.len ..).trans (unitR_len ..).symm
  rw [addR_get hl,addR_get hl]
  refine And.elim (fun k1 k2=> ?_) (key y.row)
  have:j=0\/j=1:=z252 hj
  rcases this with rfl| rfl
  ·rw [k1] at hd
   rw [unitR_get 2 0 0 (by decide),unitR_get 2 0 1 (by decide)]
   lia
  ·rw [k2] at hd
   rw [unitR_get 2 1 0 (by decide),unitR_get 2 1 1 (by decide)]
   lia
theorem size2_bound {E:List (List Int)}{once:Bool}(hE:∀e∈E,e.length=2)(hm:E.length<=3)(hw:∀e∈E,∀x∈e,-20<=x/\x<=20):∀R v,Alive E 2 once R v->v.getD 0 0<=2880000/\v.getD 1 0<=2880000:=by
 intro R v x
 have hc:∀i j,i<2->j<2->-1200<=dot (col E 2 i) (col E 2 j)/\dot (col E 2 i) (col E 2 j)<=1200:=fun i j hi hj=>by
  have h1:=dot_le (w:=20) (a:=col E 2 i) (b:=col E 2 j) (by exact (col_len ..).trans (col_len ..).symm) (col_mem hE hi hw) (col_mem hE hj hw)
  rw [col_len] at h1
  exact z498 h1.1 h1.2 hm
 have hP:=hc 0 0 (by decide) (by decide)
 have hQ:=hc 0 1 (by decide) (by decide)
 have hR:=hc 1 1 (by decide) (by decide)
 have hp0:=dot_self_nonneg (col E 2 0)
 have hr0:=dot_self_nonneg (col E 2 1)
 obtain ⟨p,ep⟩:∃p,dot (col E 2 0) (col E 2 0)=p:=⟨_,rfl⟩
 obtain ⟨q,eq⟩:∃q,dot (col E 2 0) (col E 2 1)= -q:=⟨-dot (col E 2 0) (col E 2 1),by simp⟩
 obtain ⟨r,er⟩:∃r,dot (col E 2 1) (col E 2 1)=r:=⟨_,rfl⟩
 rw [ep] at hP hp0;rw [eq] at hQ;rw [er] at hR hr0
 have rv:=x.reach.row
 by_cases h0:0<q
 ·obtain ⟨k1,k2⟩:=size2_gram hE ep eq er h0 x.reach
  have hx:=rv.pos 0
  have hy:=rv.pos 1
  have hs0:=get_le_sum rv 0
  obtain ⟨X,eX⟩:∃X,v.getD 0 0=X:=⟨_,rfl⟩
  obtain ⟨Y,eY⟩:∃Y,v.getD 1 0=Y:=⟨_,rfl⟩
  rw [eX,eY] at k1 k2
  rw [eX] at hx⊢
  rw [eY] at hy⊢
  have hr1:1<=r:=by
   by_cases q1:1<=r
   ·exact q1
   ·have:=dot_zero_r (col E 2 0) (col E 2 1) (dot_self_zero (by rw [er];exact z273 q1));exact (z274 h0 eq this).elim
  have hp1:1<=p:=by
   by_cases q1:1<=p
   ·exact q1
   ·have:=dot_zero_r (col E 2 1) (col E 2 0) (dot_self_zero (by rw [ep];exact z273 q1));rw [dot_comm] at this;exact (z274 h0 eq this).elim
  by_cases hD:1<=p*r-q*q
  ·have a1:(p*r-q*q)*X=r*(p*X-q*Y)+q*(r*Y-q*X):=by grind
   have a2:(p*r-q*q)*Y=q*(p*X-q*Y)+p*(r*Y-q*X):=by grind
   have b1:=Int.mul_le_mul_of_nonneg_left k1 hr0
   have b2:=Int.mul_le_mul_of_nonneg_left k2 (show 0<=q by exact z275 h0)
   have b3:=Int.mul_le_mul_of_nonneg_left k1 (show 0<=q by exact z275 h0)
   have b4:=Int.mul_le_mul_of_nonneg_left k2 hp0
   have c1:=le_mul_one hx hD
   have c2:=le_mul_one hy hD
   have d1:=mul_le_two (show r<=1200 by exact hR.2) (show p<=1200 by exact hP.2) hr0 (by decide)
   have d2:=mul_le_two (show q<=1200 by exact z499 hQ.1) (show r<=1200 by exact hR.2) (z275 h0) (by decide)
   have d3:=mul_le_two (show q<=1200 by exact z499 hQ.1) (show p<=1200 by exact hP.2) (z275 h0) (by decide)
   have d4:=mul_le_two (show p<=1200 by exact hP.2) (show r<=1200 by exact hR.2) hp0 (by decide)
   exact z500 a2 a1 d4 d2 d3 d1 c2 b4 b3 b2 b1 c1
  ·have ru:Row 2 [q,p]:=.of rfl fun z hz=>by
    simp at hz;rcases hz with rfl| rfl<;>lia
   have eu:Even E [q,p]:=by
    refine dot_self_zero ?_
    have h1:∀w,dot w (wor E [q,p])=q*dot w (col E 2 0)+p*dot w (col E 2 1):=fun w=>by
     rw [dot_wor hE (d:=[q,p]) rfl]
     simp only [sumN_succ,sumN_zero]
     simp
     rfl
    rw [h1,dot_comm _ (col E 2 0),dot_comm _ (col E 2 1),h1,h1,ep,er,eq,dot_comm (col E 2 1),eq]
    have:q*(q*p+p* -q)+p*(q* -q+p*r)=p*(p*r-q*q):=by grind
    rw [this]
    exact Int.mul_nonpos_of_nonneg_of_nonpos hp0 (z273 hD)
   have hb:=x.bare [q,p] ru eu (by simp;exact z501 hp1 h0)
   by_cases hX:X<q
   ·have b1:=mul_le_two (show q<=1200 by exact z499 hQ.1) (show X<=1200 by exact z502 hQ.1 hX) (z275 h0) (by decide)
    have c2:=le_mul_one hy hr1
    exact z503 hQ.1 k2 hX hR.2 b1 c2
   ·by_cases hY:Y<p
    ·have b1:=Int.mul_le_mul_of_nonneg_left (show Y<=p by exact z275 hY) (show 0<=q by exact z275 h0)
     have b2:p*X<=p*(1+q):=by rw [Int.mul_add,Int.mul_one,Int.mul_comm p q];exact z504 k1 b1
     have:=Int.le_of_mul_le_mul_left b2 (z283 hp1)
     exact z505 hQ.1 hY this hP.2
    ·have:=hb fun i=>by
      match i with
      | 0=>rw [eX];simp;exact z21 hX
      | 1=>rw [eY];simp;exact z21 hY
      | i+2=>have:=rv.pos (i+2);simpa using this
     rw [<-this] at eX eY
     simp at eX eY
     exact z506 hQ.1 eX eY hP.2
 ·have h:=no_steps (fun i hi j hj=>by
   have:i=0\/i=1:=z252 hi
   have:j=0\/j=1:=z252 hj
   rcases ‹i=0\/i=1› with rfl| rfl<;>rcases ‹j=0\/j=1› with rfl| rfl
   ·rw [ep];exact hp0
   ·rw [eq];exact z61 h0
   ·rw [dot_comm,eq];exact z61 h0
   ·rw [er];exact hr0) R v x
  have h1:=x.reach.len
  rw [h] at h1
  have:=get_le_sum rv 0
  have:=get_le_sum rv 1
  simp at h1
  exact z507 h1 this ‹_›
theorem Fits.size2 {E:List (List Int)}{once:Bool}(hE:∀e∈E,e.length=2)(hm:E.length<=3)(hw:∀e∈E,∀x∈e,-20<=x/\x<=20):Fits E 2 once:=
 Fits.of (bs:=[2880001]) (K:=5760000) hE rfl (fun R v x=>by
  have h:=size2_bound hE hm hw R v x
  have hs:=x.reach.row.sum
  simp only [sumN_succ,sumN_zero] at hs
  exact z508 hs h.2 h.1) (fun R v x i hi=>by
  have h:=size2_bound hE hm hw R v x
  simp at hi;subst hi
  simp at h⊢
  exact z509 h.2) (by decide)
noncomputable def comb:List Int->List (Nat->Int)->Nat->Int
 | a::as,v::vs,i=>a*v i+comb as vs i
 | _,_,_=>0
noncomputable def Dep (vs:List (Nat->Int)):Prop:=∃as:List Int,as.length=vs.length/\(∃a∈as,a≠0)/\∀i,comb as vs i=0
noncomputable def Dm (V:(Nat->Int)->Prop)(k:Nat):Prop:=∀vs:List (Nat->Int),vs.length=k+1->(∀v∈vs,V v)->Dep vs
theorem Dep.cons {vs:List (Nat->Int)}(v:Nat->Int)(h:Dep vs):Dep (v::vs):=by
 obtain ⟨as,h1,⟨a,ha,h2⟩,h3⟩:=h
 exact ⟨0::as,congrArg (· +1) h1,⟨a,.tail _ ha,h2⟩,fun i=>by simp only [comb,h3,Int.zero_mul];rfl⟩
theorem comb_perm {us vs:List (Nat->Int)}(h:us.Perm vs):∀as:List Int,as.length=us.length->∃bs:List Int,bs.length=vs.length/\(∀x∈as,x∈bs)/\∀i,comb bs vs i=comb as us i:=by
 induction h with
 | nil=>exact fun as h=>⟨as,h,fun _ h=>h,fun _=>rfl⟩
 | cons x _ ih=>
  intro as h
  cases as with
  | nil=>contradiction
  | cons a as=>
   obtain ⟨bs,h1,h2,h3⟩:=ih as (Nat.succ.inj h)
   refine ⟨a::bs,congrArg (· +1) h1,fun x hx=> ?_,fun i=>by simp only [comb,comb,h3]⟩
   rcases List.mem_cons.mp hx with h| h
   ·exact h▸.head _
   ·exact .tail _ (h2 x h)
 | swap x y l=>
  intro as h
  rcases as with _| ⟨a,_| ⟨b,as⟩⟩
  ·contradiction
  ·nomatch h
  ·refine ⟨b::a::as,h,fun x hx=>by simp only [List.mem_cons] at hx⊢;rcases hx with h| h| h<;>simp [h],fun i=> ?_⟩
   simp only [comb];exact z51
 | trans _ _ ih1 ih2=>
  intro as h
  obtain ⟨bs,h1,h2,h3⟩:=ih1 as h
  obtain ⟨cs,h4,h5,h6⟩:=ih2 bs h1
  exact ⟨cs,h4,fun x hx=>h5 x (h2 x hx),fun i=>(h6 i).trans (h3 i)⟩
theorem Dep.perm {us vs:List (Nat->Int)}(h:us.Perm vs)(d:Dep us):Dep vs:=by
 obtain ⟨as,h1,⟨a,ha,h2⟩,h3⟩:=d
 obtain ⟨bs,h4,h5,h6⟩:=comb_perm h as h1
 exact ⟨bs,h4,⟨a,h5 a ha,h2⟩,fun i=>(h6 i).trans (h3 i)⟩
theorem comb_scale (c:Int)(i:Nat):∀(as:List Int) (vs:List (Nat->Int)),comb (as.map (c*·)) vs i=c*comb as vs i
 | [],_=>by simp [comb]
 | _::_,[]=>by simp [comb]
 | a::as,v::vs=>by simp only [List.map_cons,comb,comb,comb_scale c i as vs,Int.mul_add,Int.mul_assoc]
theorem comb_elim (c:Int)(p:Nat->Int)(n i:Nat):∀(as:List Int) (vs:List (Nat->Int)),comb as (vs.map fun v i=>c*v i-v n*p i) i=c*comb as vs i-comb as vs n*p i
 | [],_=>by simp [comb]
 | _::_,[]=>by simp [comb]
 | a::as,v::vs=>by simp only [List.map_cons,comb,comb,comb,comb_elim c p n i as vs];grind
theorem Dm.all:∀n,Dm (fun v=>∀i,n<=i->v i=0) n
 | 0,[v],_,h=>⟨[1],rfl,⟨1,.head _,by decide⟩,fun i=>by simp only [comb,h v (.head _) i (Nat.zero_le _)];rfl⟩
 | n+1,vs,hl,h=>by
  by_cases q:∃p∈vs,p n≠0
  ·obtain ⟨p,hp,hn⟩:=q
   obtain ⟨l1,l2,rfl⟩:=List.append_of_mem hp
   refine Dep.perm List.perm_middle.symm ?_
   have hm:∀v∈l1++l2,v∈l1++p::l2:=fun v hv=>(List.perm_middle.mem_iff).mpr (.tail _ hv)
   have hl':=Nat.succ.inj ((List.perm_middle (a:=p) (l₁:=l1) (l₂:=l2)).length_eq.symm.trans hl)
   generalize l1++l2=us at hm hl'
   obtain ⟨as,h1,⟨a,ha,h2⟩,h3⟩:=Dm.all n (us.map fun v i=>p n*v i-v n*p i) (by exact (List.length_map ..).trans (hl' ..)) fun w hw=>by
    obtain ⟨v,hv,rfl⟩:=List.mem_map.mp hw
    intro i hi
    by_cases e:i=n
    ·subst e;show p i*v i-v i*p i=0;rw [Int.mul_comm];simp
    ·show p n*v i-v n*p i=0
     simp only [(h v (hm v hv)) i (z52 hi e),h p hp i (z52 hi e)];simp
   refine ⟨-(comb as us n)::as.map (p n*·),by rw [List.length_cons,List.length_map,h1,List.length_map];rfl,⟨p n*a,.tail _ (List.mem_map.mpr ⟨a,ha,rfl⟩),Int.mul_ne_zero hn h2⟩,fun i=> ?_⟩
   have:=h3 i
   rw [comb_elim] at this
   simp only [comb,comb_scale,Int.neg_mul];exact z53 this
  ·match vs,hl with
   | v::vs,hl=>
    refine Dep.cons v (Dm.all n vs (Nat.succ.inj hl) fun w hw i hi=> ?_)
    by_cases e:i=n
    ·subst e;exact Classical.byContradiction fun z=>q ⟨w,.tail _ hw,z⟩
    ·exact h w (.tail _ hw) i (z52 hi e)
structure Ln (f:(Nat->Int)->Int):Prop where
 add:∀a v w,f (fun i=>a*v i+w i)=a*f v+f w
 zero:f (fun _=>0)=0
theorem Ln.comb {f:(Nat->Int)->Int}(L:Ln f):∀(as:List Int) (vs:List (Nat->Int)),(∀v∈vs,f v=0)->f (Mine.comb as vs)=0
 | [],_,_=>L.zero
 | _::_,[],_=>L.zero
 | a::as,v::vs,h=>by
  have:=L.add a v (Mine.comb as vs)
  simp only [h v (.head _),L.comb as vs fun w hw=>h w (.tail _ hw),Int.mul_zero] at this
  exact this
theorem Dm.cut {V:(Nat->Int)->Prop}{k:Nat}{f:(Nat->Int)->Int}(D:Dm V (k+1))(L:Ln f){d:Nat->Int}(hd:V d)(hf:f d≠0):Dm (fun v=>V v/\f v=0) k:=fun vs hl hv=>by
 obtain ⟨as,h1,⟨b,hb,h2⟩,h3⟩:=D (d::vs) (congrArg (· +1) hl) fun v h=>by
  rcases List.mem_cons.mp h with h| h
  ·exact h▸hd
  ·exact (hv v h).1
 cases as with
 | nil=>contradiction
 | cons a as=>
  have h4:=L.add a d (Mine.comb as vs)
  simp only [L.comb as vs fun v h=>(hv v h).2,show (fun i=>a*d i+Mine.comb as vs i)=fun _=>0 from funext h3,L.zero,Int.add_zero] at h4
  have ha:a=0:=(Int.mul_eq_zero.mp h4.symm).resolve_right hf
  subst ha
  refine ⟨as,Nat.succ.inj h1,⟨b,(List.mem_cons.mp hb).resolve_left h2,h2⟩,fun i=> ?_⟩
  have:=h3 i
  simp only [Mine.comb,Int.zero_mul,Int.zero_add] at this
  exact this
theorem Dm.nil {V:(Nat->Int)->Prop}(D:Dm V 0){v:Nat->Int}(h:V v)(i:Nat):v i=0:=by
 obtain ⟨as,h1,⟨b,hb,h2⟩,h3⟩:=D [v] rfl fun w hw=>(List.mem_singleton.mp hw)▸h
 obtain ⟨a,rfl⟩:=List.length_eq_one_iff.mp h1
 ·have:a*v i+0=0:=h3 i
  rw [Int.add_zero] at this
  exact (Int.mul_eq_zero.mp this).resolve_left (List.mem_singleton.mp hb▸h2)
noncomputable def ev (n:Nat)(e:List Int)(v:Nat->Int):Int:=sumN n fun i=>e.getD i 0*v i
theorem ev_ln (n:Nat)(e:List Int):Ln (ev n e) where
 add:=fun a v w=>by
  unfold ev
  rw [<-sumN_mul,<-sumN_add]
  exact sumN_congr fun i _=>by rw [Int.mul_add,<-Int.mul_assoc,<-Int.mul_assoc,Int.mul_comm a]
 zero:=(sumN_congr fun i _=>Int.mul_zero _).trans (sumN_const0 n)
noncomputable def Ker (n:Nat)(F:List (List Int))(v:Nat->Int):Prop:=(∀i,n<=i->v i=0)/\∀f∈F,ev n f v=0
theorem basis (n:Nat):∀E:List (List Int),∃(F:List (List Int)) (k:Nat),F.Sublist E/\F.length+k=n/\Dm (Ker n F) k/\∀v,Ker n F v->Ker n E v
 | []=>⟨[],n,.slnil,by simp,fun vs hl h=>Dm.all n vs hl fun v hv=>(h v hv).1,fun _ h=>h⟩
 | e::E=>by
  obtain ⟨F,k,h1,h2,h3,h4⟩:=basis n E
  by_cases q:∃d,Ker n F d/\ev n e d≠0
  ·obtain ⟨d,hd,ne⟩:=q
   cases k with
   | zero=>exact absurd ((congrArg (ev n e) (funext (h3.nil hd))).trans (ev_ln n e).zero) ne
   | succ k=>
    refine ⟨e::F,k,h1.cons₂ e,by simp only [List.length_cons];exact z54 h2,fun vs hl h=>h3.cut (ev_ln n e) hd ne vs hl fun v hv=> ?_,fun v hv=> ?_⟩
    ·have:=h v hv
     exact ⟨⟨this.1,fun f hf=>this.2 f (.tail _ hf)⟩,this.2 e (.head _)⟩
    ·refine ⟨hv.1,fun f hf=> ?_⟩
     rcases List.mem_cons.mp hf with rfl| hf
     ·exact hv.2 _ (.head _)
     ·exact (h4 v ⟨hv.1,fun f hf=>hv.2 f (.tail _ hf)⟩).2 f hf
  ·refine ⟨F,k,h1.cons e,h2,h3,fun v hv=>⟨hv.1,fun f hf=> ?_⟩⟩
   rcases List.mem_cons.mp hf with rfl| hf
   ·exact Classical.byContradiction fun z=>q ⟨v,hv,z⟩
   ·exact (h4 v hv).2 f hf
section
variable {E:List (List Int)} {n:Nat} {x y:List Int}
theorem Row.beyond (r:Row n x){i:Nat}(h:n<=i):x.getD i 0=0:=by
 rw [List.getD_eq_getElem?_getD,List.getElem?_eq_none (by rw [r.len];exact h)];rfl
theorem ev_dot {e:List Int}(he:e.length=n)(r:Row n x):ev n e (fun i=>x.getD i 0)=dot e x:=by
 rw [dot_eq_sumN (by exact (he ..).trans (r.len ..).symm),r.len];rfl
theorem Least.ker (hE:∀e∈E,e.length=n)(L:Least E n x):Ker n E fun i=>x.getD i 0:=
 ⟨fun i h=>L.row.beyond h,fun e he=>(ev_dot (hE e he) L.row).trans (Even.iff.mp L.even e he)⟩
theorem Ker.even (hE:∀e∈E,e.length=n)(r:Row n x)(h:Ker n E fun i=>x.getD i 0):Even E x:=
 Even.iff.mpr fun e he=>(ev_dot (hE e he) r).symm.trans (h.2 e he)
theorem Least.via {F:List (List Int)}(hE:∀e∈E,e.length=n)(hs:F.Sublist E)(hk:∀v,Ker n F v->Ker n E v)(L:Least E n x):Least F n x where
 row:=L.row
 even:=Even.iff.mpr fun e he=>Even.iff.mp L.even e (hs.subset he)
 pos:=L.pos
 least:=fun g rg eg pg lg=>L.least g rg (Ker.even hE rg (hk _ ⟨fun i h=>rg.beyond h,fun e he=>(ev_dot (hE e (hs.subset he)) rg).trans (Even.iff.mp eg e he)⟩)) pg lg
theorem Least.ne (L:Least E n x):∃i,x.getD i 0≠0:=Classical.byContradiction fun q=>by
 have h:=L.pos
 rw [L.row.sum,sumN_congr (g:=fun _=>0) fun i _=>Classical.byContradiction fun z=>q ⟨i,z⟩,sumN_const0] at h
 exact absurd h (by decide)
theorem Least.le (a:Least E n x)(b:Least E n y)(h:∀i,x.getD i 0<=y.getD i 0):x=y:=b.least x a.row a.even a.pos h
theorem Least.prop (a:Least E n x)(b:Least E n y){p q:Int}{u:Nat->Int}(hp:p≠0)(h:∀i,p*(x.getD i 0-y.getD i 0)=q*u i)(hu:∀i,0<=u i):x=y:=by
 have aux:∀{p q t u:Int},0<p->0<=q->0<=u->p*t=q*u->0<=t:=fun {p q t u} hp hq hu e=>by
  apply Classical.byContradiction
  intro z
  have h1:=Int.mul_neg_of_pos_of_neg hp (show t<0 by exact z15 z)
  have h2:=Int.mul_nonneg hq hu
  exact z55 h1 e h2
 have key:∀{p q:Int},0<p->(∀i,p*(x.getD i 0-y.getD i 0)=q*u i)->x=y:=fun {p q} hp h=>by
  by_cases hq:0<=q
  ·exact (b.le a fun i=>Int.sub_nonneg.mp (aux hp hq (hu i) (h i))).symm
  ·refine a.le b fun i=>Int.sub_nonneg.mp (aux hp (show 0<=-q by exact z56 hq) (hu i) ?_)
   simp only [Int.neg_mul,<-(h i),<-Int.mul_neg,Int.neg_sub]
 rcases Int.lt_or_gt_of_ne hp with z| z
 ·exact key (p:= -p) (q:= -q) (z57 z) fun i=>by simp only [Int.neg_mul,h]
 ·exact key z h
noncomputable def Pr (d u:Nat->Int):Prop:=∃p q:Int,p≠0/\∀i,p*d i=q*u i
theorem Dm.ray:∀(k:Nat) {V:(Nat->Int)->Prop} {u:Nat->Int} {Z:Nat->Prop},Dm V (k+1)->V u->(∃i,u i≠0)->(∀i,Z i->u i=0)->(∀d,V d->(∀i,Z i->d i=0)->Pr d u)->∃is:List Nat,is.length<=k/\∀d,V d->(∀i∈is,d i=0)->Pr d u
 | 0,V,u,Z,D,hu,hne,hz,hp=>⟨[],Nat.le_refl _,fun d hd _=>by
  obtain ⟨as,h1,⟨c,hc,h2⟩,h3⟩:=D [d,u] rfl fun v hv=>by
   rcases List.mem_cons.mp hv with rfl| hv
   ·exact hd
   ·exact List.mem_singleton.mp hv▸hu
  obtain ⟨p,q,rfl⟩:=ln2 h1
  ·have h3:∀i,p*d i+(q*u i+0)=0:=h3
   refine ⟨p,-q,fun z=> ?_,fun i=>by have:=h3 i;simp only [Int.neg_mul];exact z58 this⟩
   subst z
   obtain ⟨i,hi⟩:=hne
   have h4:=h3 i
   have hq:=(Int.mul_eq_zero.mp (show q*u i=0 by exact z59 h4)).resolve_right hi
   subst hq
   rcases List.mem_cons.mp hc with e| e
   ·exact h2 e
   ·exact h2 (List.mem_singleton.mp e)⟩
 | k+1,V,u,Z,D,hu,hne,hz,hp=>by
  by_cases q:∀d,V d->Pr d u
  ·exact ⟨[],Nat.zero_le _,fun d hd _=>q d hd⟩
  ·refine Exists.elim (Classical.not_forall.mp q) fun d hd=> ?_
   obtain ⟨hd,nd⟩:=Classical.not_imp.mp hd
   obtain ⟨i,hi⟩:=Classical.not_forall.mp fun z=>nd (hp d hd z)
   obtain ⟨zi,di⟩:=Classical.not_imp.mp hi
   obtain ⟨is,h1,h2⟩:=Dm.ray k (Z:=Z) (D.cut (f:=fun v=>v i) ⟨fun _ _ _=>rfl,rfl⟩ hd di) ⟨hu,hz i zi⟩ hne hz fun d hd h=>hp d hd.1 h
   exact ⟨i::is,Nat.succ_le_succ h1,fun d hd h=>h2 d ⟨hd,h i (.head _)⟩ fun j hj=>h j (.tail _ hj)⟩
theorem ratio {x y:Nat->Int}{i:Nat}(hi:0<y i):∀m,∃i,0<y i/\∀j,j<m->0<y j->x i*y j<=x j*y i
 | 0=>⟨i,hi,fun j hj=>absurd hj (Nat.not_lt_zero _)⟩
 | m+1=>by
  obtain ⟨k,hk,h⟩:=ratio (x:=x) hi m
  by_cases z:0<y m/\x m*y k<x k*y m
  ·refine ⟨m,z.1,fun j hj hp=> ?_⟩
   by_cases e:j=m
   ·subst e;exact Int.le_refl _
   ·have h2:=Int.mul_le_mul_of_nonneg_right (Int.le_of_lt z.2) (Int.le_of_lt hp)
    refine Int.le_of_mul_le_mul_right (a:=y k) ?_ hk
    rw [Int.mul_right_comm (x m),Int.mul_right_comm (x j)]
    rw [Int.mul_right_comm (x k)] at h2
    exact Int.le_trans h2 (Int.mul_le_mul_of_nonneg_right (h j (z6 hj e) hp) (Int.le_of_lt z.1))
  ·refine ⟨k,hk,fun j hj hp=> ?_⟩
   by_cases e:j=m
   ·subst e;exact Int.not_lt.mp fun q=>z ⟨hp,q⟩
   ·exact h j (z6 hj e) hp
theorem exists_min {α:Type}{P:α->Prop}(f:α->Nat):∀(k:Nat) {a:α},f a<=k->P a->∃a,P a/\∀b,P b->f a<=f b
 | 0,a,h,pa=>⟨a,pa,fun b _=>Nat.le_trans h (Nat.zero_le _)⟩
 | k+1,a,h,pa=>by
  by_cases q:∃b,P b/\f b<=k
  ·obtain ⟨b,pb,hb⟩:=q;exact exists_min f k hb pb
  ·exact ⟨a,pa,fun b pb=>Nat.le_trans h (Nat.lt_of_not_le fun z=>q ⟨b,pb,z⟩)⟩
theorem row_of {f:Nat->Int}(hE:∀e∈E,e.length=n)(k:Ker n E f)(hp:∀i,0<=f i):∃z,Row n z/\Even E z/\∀i,z.getD i 0=f i:=by
 have hg:∀i,((List.range n).map f).getD i 0=f i:=fun i=>by
  by_cases h:i<n
  ·simp [h]
  ·simp only [k.1 i (z12 h)];simp [h]
 have r:Row n ((List.range n).map f):=⟨by simp,fun i=>by rw [hg];exact hp i⟩
 exact ⟨_,r,Ker.even hE r (by rw [show (fun i=>((List.range n).map f).getD i 0)=f from funext hg];exact k),hg⟩
theorem comb2 {e:List Int}{v w:Nat->Int}(h:ev n e v=0)(h':ev n e w=0)(p q:Int):ev n e (comb [p,q] [v,w])=0:=(ev_ln n e).comb _ _ fun z hz=>by
 rcases List.mem_cons.mp hz with rfl| hz
 ·exact h
 ·exact List.mem_singleton.mp hz▸h'
theorem Least.ray (hE:∀e∈E,e.length=n)(a:Least E n x):∃u,Least E n u/\∀d,Ker n E d->(∀i,u.getD i 0=0->d i=0)->Pr d fun i=>u.getD i 0:=by
 obtain ⟨u,lu,hu⟩:=exists_min (P:=Least E n) (fun s=>(sumN n fun i=>if s.getD i 0=0 then 0 else 1).toNat) _ (Nat.le_refl _) a
 have key:∀d,Ker n E d->(∀i,u.getD i 0=0->d i=0)->(∃j,0<d j)->Pr d fun i=>u.getD i 0:=by
  intro d kd hv ⟨j,hj⟩
  obtain ⟨i,hi,h⟩:=ratio (x:=fun i=>u.getD i 0) hj n
  have ui:u.getD i 0≠0:=fun z=>by rw [hv i z] at hi;exact absurd hi (by decide)
  have hz:∀j,comb [d i,-u.getD i 0] [fun i=>u.getD i 0,d] j=d i*u.getD j 0-u.getD i 0*d j:=fun j=>by
   show d i*u.getD j 0+(-u.getD i 0*d j+0)=_
   rw [Int.neg_mul];exact z60
  obtain ⟨z,rz,ez,gz⟩:=row_of (f:=comb [d i,-u.getD i 0] [fun i=>u.getD i 0,d]) hE ⟨fun j hj=>by
   simp only [hz,lu.row.beyond hj,kd.1 j hj];simp,fun e he=>comb2 ((lu.ker hE).2 e he) (kd.2 e he) _ _⟩ fun j=>by
   rw [hz]
   by_cases q:0<d j
   ·by_cases hn:j<n
    ·have h1:=h j hn q
     rw [Int.mul_comm (d i)];exact z13 h1
    ·rw [kd.1 j (z12 hn)] at q;exact absurd q (by decide)
   ·have h1:=Int.mul_nonneg (Int.le_of_lt hi) (lu.row.pos j)
    have h2:=Int.mul_nonneg (lu.row.pos i) (show 0<=-d j by exact z61 q)
    rw [Int.mul_neg] at h2;exact z62 h2 h1
  by_cases pz:0<z.sum
  ·obtain ⟨s,ls,hs⟩:=least_below _ (Nat.le_refl _) rz ez pz
   exfalso
   have h0:s.getD i 0=0:=by
    have h1:=hs i
    simp only [gz,hz,Int.mul_comm (d i),Int.sub_self] at h1
    exact Int.le_antisymm h1 (ls.row.pos i)
   have m2:=sumN_mono (n:=n) fun j _=>(fun j=>by
    by_cases q:j=i
    ·cases q;rw [if_pos h0,if_pos rfl,if_neg ui];exact (by decide:(0:Int)+1*1<=1)
    ·rw [if_neg q]
     by_cases q2:u.getD j 0=0
     ·rw [if_pos q2,if_pos ((fun j q=>by
    have h1:=hs j
    simp only [gz,hz,q,hv j q,Int.mul_zero] at h1
    exact Int.le_antisymm h1 (ls.row.pos j):∀j,u.getD j 0=0->s.getD j 0=0) j q2)];exact (by decide:(0:Int)+1*0<=0)
     ·rw [if_neg q2];split
      ·exact (by decide:(0:Int)+1*0<=1)
      ·exact (by decide:(1:Int)+1*0<=1):∀j,(if s.getD j 0=0 then (0:Int) else 1)+(fun _=>1) j*(if j=i then 1 else 0)<=if u.getD j 0=0 then 0 else 1) j
   simp only [sumN_add,sumN_one (Nat.lt_of_not_le fun q=>ui (lu.row.beyond q))] at m2
   have m3:=hu s ls
   have m4:=sumN_mono (n:=n) (f:=fun _=>0) (g:=fun j=>if s.getD j 0=0 then (0:Int) else 1) fun j _=>by split<;>decide
   simp only [sumN_const0] at m4
   exact z63 m4 m2 m3
  ·have h1:=fun j=>Int.le_antisymm (Int.le_trans (get_le_sum rz j) (z21 pz)) (rz.pos j)
   refine ⟨u.getD i 0,d i,ui,fun j=> ?_⟩
   have h2:=h1 j
   rw [gz,hz] at h2
   exact (Int.eq_of_sub_eq_zero h2).symm
 refine ⟨u,lu,fun d kd hv=> ?_⟩
 by_cases q:∃j,0<d j
 ·exact key d kd hv q
 ·by_cases q2:∃j,d j<0
  ·obtain ⟨j,hj⟩:=q2
   obtain ⟨p,r,hp,h⟩:=key (comb [-1,0] [d,d]) ⟨fun i hi=>by show-1*d i+(0*d i+0)=0;rw [kd.1 i hi];rfl,fun e he=>comb2 (kd.2 e he) (kd.2 e he) _ _⟩ (fun i hi=>by show-1*d i+(0*d i+0)=0;rw [hv i hi];rfl) ⟨j,by show 0< -1*d j+(0*d j+0);exact z64 hj⟩
   refine ⟨p,-r,hp,fun i=> ?_⟩
   have h1:p*(-1*d i+(0*d i+0))=r*u.getD i 0:=h i
   simp only [show-1*d i+(0*d i+0)= -d i by simp,Int.mul_neg] at h1
   simp only [Int.neg_mul,<-h1,Int.neg_neg]
  ·refine ⟨1,0,by decide,fun i=> ?_⟩
   have:d i=0:=Int.le_antisymm (Int.not_lt.mp fun z=>q ⟨i,z⟩) (Int.not_lt.mp fun z=>q2 ⟨i,z⟩)
   simp only [this,Int.mul_zero,Int.zero_mul]
end
section
variable {E:List (List Int)} {n:Nat} {l:List (List Int)}
theorem boxZ_len (lo:Int)(b:Nat):∀m,(boxZ lo b m).length=b^m
 | 0=>rfl
 | m+1=>by
  simp only [boxZ,List.length_flatMap]
  simp only [List.length_map,boxZ_len lo b m,List.map_const',List.sum_replicate_nat,List.length_range]
  simp only [Nat.pow_succ,Nat.mul_comm]
theorem Dm.count {k B:Nat}(D:Dm (Ker n E) (k+1))(hE:∀e∈E,e.length=n)(nd:l.Nodup)(hl:∀s∈l,Least E n s)(hB:∀s∈l,∀i,s.getD i 0<=B):l.length<=(B+1)^k:=by
 match l,nd,hl,hB with
 | [],_,_,_=>exact Nat.zero_le _
 | x::l,nd,hl,hB=>
  obtain ⟨u,lu,hu⟩:=(hl x (.head _)).ray hE
  obtain ⟨is,h1,h2⟩:=D.ray k (Z:=fun i=>u.getD i 0=0) (lu.ker hE) lu.ne (fun _ h=>h) hu
  refine Nat.le_trans ?_ (Nat.pow_le_pow_right (Nat.succ_pos B) h1)
  rw [<-boxZ_len 0 (B+1) is.length,<-List.length_map (f:=fun s:List Int=>is.map fun i=>s.getD i 0)]
  refine length_le_of_nodup ?_ fun v hv=> ?_
  ·rw [List.Nodup,List.pairwise_map]
   refine List.Pairwise.imp_of_mem (fun {a b} ha hb hab e=>hab ?_) nd
   have e:=List.map_inj_left.mp e
   have hc:∀i,comb [1,-1] [fun i=>a.getD i 0,fun i=>b.getD i 0] i=a.getD i 0-b.getD i 0:=fun i=>by
    show 1*a.getD i 0+(-1*b.getD i 0+0)=_
    exact z65
   obtain ⟨p,q,hp,h⟩:=h2 (comb [1,-1] [fun i=>a.getD i 0,fun i=>b.getD i 0]) ⟨fun j hj=>by
     rw [hc,(hl a ha).row.beyond hj,(hl b hb).row.beyond hj];rfl,fun e he=>comb2 (((hl a ha).ker hE).2 e he) (((hl b hb).ker hE).2 e he) _ _⟩ fun i hi=>by rw [hc,e i hi,Int.sub_self]
   exact (hl a ha).prop (hl b hb) hp (fun i=>by exact (congrArg _ (hc ..).symm).trans (h i)) lu.row.pos
  ·obtain ⟨s,hs,rfl⟩:=List.mem_map.mp hv
   have:=boxZ_mem (lo:=0) (b:=B+1) (v:=is.map fun i=>s.getD i 0) fun x hx=>by
    obtain ⟨i,_,rfl⟩:=List.mem_map.mp hx
    have:=hB s hs i
    have:=(hl s hs).row.pos i
    exact z66 this ‹_›
   rwa [List.length_map] at this
noncomputable def rowsTo:Nat->Nat->List (List Int)
 | 0,_=>[[]]
 | n+1,s=>(List.range (s+1)).flatMap fun (i:Nat)=>(rowsTo n (s-i)).map fun r=>(i:Int)::r
theorem mem_rowsTo:∀{v:List Int} {s:Nat},(∀x∈v,0<=x)->v.sum<=s->v∈rowsTo v.length s
 | [],s,_,_=>by exact .head _
 | x::v,s,h,hs=>by
  have h0:=h x (.head _)
  have h1:=(Row.of (n:=v.length) rfl fun y hy=>h y (.tail _ hy)).sum_nonneg
  simp only [List.sum_cons] at hs
  rw [List.length_cons,rowsTo,List.mem_flatMap]
  exact ⟨x.toNat,List.mem_range.mpr (z67 h1 hs),List.mem_map.mpr ⟨v,mem_rowsTo (fun y hy=>h y (.tail _ hy)) (by lia),by rw [Int.toNat_of_nonneg h0]⟩⟩
theorem rowsTo_len (n:Nat)(h:n<=5):(rowsTo n 3).length<64:=by
 have:n∈List.range 6:=List.mem_range.mpr (z69 h)
 exact (show ∀n∈List.range 6,(rowsTo n 3).length<64 by decide+kernel) n this
theorem count_sum (h5:n<=5)(nd:l.Nodup)(hl:∀s∈l,Least E n s)(hB:∀s∈l,s.sum<=3):l.length<64:=
 Nat.lt_of_le_of_lt (length_le_of_nodup nd fun s hs=>by
  have:=mem_rowsTo (v:=s) (s:=3) (hl s hs).row.mem (hB s hs)
  rwa [(hl s hs).row.len] at this) (rowsTo_len n h5)
end
theorem sumN_pos_some {n:Nat}{f:Nat->Int}(h:0<sumN n f):∃i,i<n/\0<f i:=Classical.byContradiction fun q=>by
 have:=sumN_mono (n:=n) (f:=f) (g:=fun _=>0) fun i hi=>Int.not_lt.mp fun z=>q ⟨i,hi,z⟩
 simp only [sumN_const0] at this
 exact absurd h (Int.not_lt.mpr this)
section
variable {α:Type} [DecidableEq α] {n:Nat} {c:Nat->α} {x:Nat->Int}
noncomputable def tot (n:Nat)(c:Nat->α)(x:Nat->Int)(t:α):Int:=sumN n fun i=>if c i=t then x i else 0
theorem pickT {t:α}:∀(k:Nat) {x:Nat->Int},(∀i,0<=x i)->(k:Int)<=tot n c x t->∃is:List Nat,is.map c=List.replicate k t/\(∀i∈is,i<n)/\∀j,(is.count j:Int)<=x j
 | 0,x,h,_=>⟨[],rfl,fun _ h=>(List.not_mem_nil h).elim,h⟩
 | k+1,x,h,hk=>by
  obtain ⟨i,hi,hp⟩:=sumN_pos_some (show 0<tot n c x t by exact z70 hk)
  have hc:c i=t:=Classical.byContradiction fun z=>by rw [if_neg z] at hp;exact absurd hp (by decide)
  rw [if_pos hc] at hp
  have ht:tot n c (fun j=>x j+ -1*if j=i then 1 else 0) t=tot n c x t+ -1:=by
   have e1:=sumN_add n (fun j=>if c j=t then x j else 0) (fun j=> -1*if j=i then 1 else 0)
   simp only [sumN_one hi (fun _=> -1)] at e1
   refine (sumN_congr fun j _=> ?_).trans e1
   show (if c j=t then x j+ -1*(if j=i then 1 else 0) else 0)=_
   by_cases q:j=i
   ·cases q;rw [if_pos hc,if_pos hc]
   ·rw [if_neg q,Int.mul_zero,Int.add_zero]
    exact (Int.add_zero _).symm
  obtain ⟨is,h1,h2,h3⟩:=pickT k (x:=fun j=>x j+ -1*if j=i then 1 else 0) (fun j=>by
   by_cases q:j=i
   ·subst q;lia
   ·rw [if_neg q];have:=h j;exact z71 this) (by rw [ht];exact z72 hk)
  refine ⟨i::is,by simp only [List.map_cons,h1,hc];rfl,fun j hj=> ?_,fun j=> ?_⟩
  ·rcases List.mem_cons.mp hj with rfl| hj
   ·exact hi
   ·exact h2 j hj
  ·have h4:=h3 j
   by_cases q:j=i
   ·subst q;rw [List.count_cons_self];lia
   ·rw [if_neg q] at h4;rw [List.count_cons_of_ne (fun e=>q e.symm)];exact z73 h4
end
theorem count_sumN {n:Nat}(f:Nat->Int):∀{is:List Nat},(∀i∈is,i<n)->sumN n (fun j=>f j*(is.count j:Int))=(is.map f).sum
 | [],_=>by
  exact (sumN_congr fun i _=>by exact Int.mul_zero _).trans (sumN_const0 n)
 | i::is,h=>by
  simp only [List.map_cons,List.sum_cons,<-count_sumN f fun j hj=>h j (.tail _ hj),<-sumN_one (h i (.head _)) f,<-sumN_add]
  refine sumN_congr fun j _=> ?_
  by_cases q:j=i
  ·subst q;rw [List.count_cons_self,if_pos rfl,<-Int.mul_add,Int.add_comm];rfl
  ·rw [List.count_cons_of_ne fun e=>q e.symm,if_neg q,Int.mul_zero,Int.zero_add]
theorem Least.hit {E:List (List Int)}{n:Nat}{x:List Int}(hE:∀e∈E,e.length=n)(L:Least E n x){is:List Nat}(ne:is≠[])(hi:∀i∈is,i<n)(hc:∀j,(is.count j:Int)<=x.getD j 0)(hz:∀e∈E,(is.map fun i=>e.getD i 0).sum=0):
  (∀j,x.getD j 0=is.count j)/\x.sum=is.length:=by
 obtain ⟨z,rz,ez,gz⟩:=row_of (f:=fun j=>(is.count j:Int)) hE ⟨fun j hj=>by
  have:is.count j=0:=List.count_eq_zero.mpr fun q=>by have:=hi j q;exact z74 this hj
  show ((is.count j:Nat):Int)=0
  rw [this];rfl,fun e he=>(count_sumN _ hi).trans (hz e he)⟩ fun j=>Int.natCast_nonneg _
 have hs:z.sum=is.length:=by
  rw [rz.sum,sumN_congr (g:=fun j=>1*(is.count j:Int)) fun j _=>by exact (gz ..).trans (Int.one_mul ..).symm,count_sumN (fun _=>1) hi]
  clear hi hc hz ez gz rz ne
  induction is with
  | nil=>rfl
  | cons a is ih=>simp only [List.map_cons,List.sum_cons,ih,List.length_cons];exact z75
 have e:=L.least z rz ez (by rw [hs];have:=List.length_pos_iff.mpr ne;exact z76 this) fun j=>by rw [gz];exact hc j
 subst e
 exact ⟨gz,hs⟩
theorem sum_none {n:Nat}{x:List Int}(L:Least [] n x):x.sum<=3:=by
 have h:=L.pos
 rw [L.row.sum] at h
 obtain ⟨i,hi,hp⟩:=sumN_pos_some h
 rw [((L.hit (by simp) (is:=[i]) (by simp) (fun j hj=>List.mem_singleton.mp hj▸hi) (fun j=>by
  by_cases q:i=j
  ·subst q;rw [List.count_cons_self];exact hp
  ·rw [List.count_cons_of_ne q];exact L.row.pos j) fun e he=>(List.not_mem_nil he).elim).2)];show (1:Int)<=3;decide
theorem Dm.mono {V:(Nat->Int)->Prop}{k:Nat}(D:Dm V k):Dm V (k+1):=fun vs hl h=>by
 cases vs with
 | nil=>contradiction
 | cons v vs=>exact (D vs (Nat.succ.inj hl) fun w hw=>h w (.tail _ hw)).cons v
theorem few1 {E:List (List Int)}{n:Nat}{l:List (List Int)}(D:Dm (Ker n E) 1)(hE:∀e∈E,e.length=n)(nd:l.Nodup)(hl:∀s∈l,Least E n s):l.length<64:=by
 have:∀l:List (List Int),∃B:Nat,∀s∈l,∀i,s.getD i 0<=B:=fun l=>by
  induction l with
  | nil=>exact ⟨0,fun s hs=>(List.not_mem_nil hs).elim⟩
  | cons a l ih=>
   obtain ⟨B,hB⟩:=ih
   refine ⟨B+(a.map Int.natAbs).sum,fun s hs i=> ?_⟩
   rcases List.mem_cons.mp hs with rfl| hs
   ·have:∀(a:List Int) (i:Nat),a.getD i 0<=((a.map Int.natAbs).sum:Nat):=fun a=>by
     induction a with
     | nil=>intro i;simp
     | cons y a ih=>
      intro i
      cases i with
      | zero=>simp only [List.map_cons,List.sum_cons,List.getD_cons_zero];exact z89
      | succ i=>have:=ih i;simp only [List.map_cons,List.sum_cons,List.getD_cons_succ];exact z90 this
    have:=this s i
    exact z90 this
   ·have:=hB s hs i;exact z91 this
 obtain ⟨B,hB⟩:=this l
 exact Nat.lt_of_le_of_lt (D.count (k:=0) hE nd hl hB) (by simp only [Nat.pow_zero];decide)
noncomputable def Fits6 (E:List (List Int))(n:Nat):Prop:=Fits E n false/\∀l:List (List Int),l.Nodup->(∀s∈l,Least E n s)->l.length<64
theorem block {a:Nat}(ha:0<a){js:List Int}(hl:js.length=a):∃p q,p<q/\q<=a/\∃t:Int,(js.take q).sum-(js.take p).sum=a*t:=by
 apply Classical.byContradiction
 intro h
 have nd:((List.range (a+1)).map fun k=>(js.take k).sum % (a:Int)).Nodup:=by
  rw [List.Nodup,List.pairwise_map]
  refine List.Pairwise.imp_of_mem (fun {p q} hp hq lt e=>h ⟨p,q,lt,by have:=List.mem_range.mp hq;exact z371 this,?_⟩) List.pairwise_lt_range
  have h1:=Int.emod_add_mul_ediv (js.take q).sum a
  have h2:=Int.emod_add_mul_ediv (js.take p).sum a
  exact ⟨(js.take q).sum/a-(js.take p).sum/a,by rw [Int.mul_sub];exact z372 h1 h2 e⟩
 have:=length_le_of_nodup (F:=(List.range a).map fun (k:Nat)=>(k:Int)) nd fun x hx=>by
  obtain ⟨k,_,rfl⟩:=List.mem_map.mp hx
  have h1:=Int.emod_nonneg (js.take k).sum (show (a:Int)≠0 by exact z373 ha)
  exact List.mem_map.mpr ⟨((js.take k).sum % (a:Int)).toNat,List.mem_range.mpr (z309 h1 (Int.emod_lt_of_pos (js.take k).sum (show (0:Int)<a by exact z76 ha))),z374 h1⟩
 simp only [List.length_map,List.length_range] at this
 exact z375 this
theorem sum_take_drop (js:List Int){p q:Nat}(h:p<=q):(js.take q).sum=(js.take p).sum+((js.take q).drop p).sum:=by
 conv=>lhs;rw [<-List.take_append_drop p (js.take q)]
 simp only [List.sum_append,List.take_take,Nat.min_eq_left h]
theorem sum_ge {js:List Int}{w:Nat}(h:∀x∈js,-(w:Int)<=x/\x<=-1): -((w*js.length:Nat):Int)<=js.sum/\js.sum<=-(js.length:Int):=by
 induction js with
 | nil=>simp
 | cons a js ih=>
  have h1:=h a (.head _)
  have h2:=ih fun x hx=>h x (.tail _ hx)
  exact z376 h1.1 h2.1 h2.2 h1.2
theorem sum_rep (k:Nat)(a:Int):(List.replicate k a).sum=k*a:=by
 induction k with
 | zero=>simp
 | succ k ih=>simp only [List.replicate_succ,List.sum_cons,ih,Int.natCast_add,Int.add_mul];exact z377
theorem entry_pos {n w:Nat}{x e:List Int}(he:e.length=n)(L:Least [e] n x){v:Nat->Int}(hv:(∀i,v i=e.getD i 0)\/(∀i,v i= -e.getD i 0))(hw:∀i,-(w:Int)<=v i/\v i<=w){i:Nat}(hi:i<n)(hp:0<v i):x.getD i 0<=w:=by
 apply Classical.byContradiction
 intro hx
 have ev:sumN n (fun j=>v j*x.getD j 0)=0:=by
  have h1:=Even.iff.mp L.even e (.head _)
  rw [dot_eq_sumN (by exact (he ..).trans (L.row.len ..).symm),L.row.len] at h1
  rcases hv with h| h
  ·exact (sumN_congr fun j _=>by rw [h]).trans h1
  ·have:=sumN_mul n (-1) (fun j=>e.getD j 0*x.getD j 0)
   rw [h1] at this
   exact (sumN_congr fun j _=>by simp only [h,Int.neg_mul,Int.one_mul]).trans this
 obtain ⟨a,ea⟩:∃a:Nat,v i=a:=⟨(v i).toNat,z378 hp⟩
 have ht:(a:Int)<=tot n (fun j=>decide (v j<0)) (fun j=>x.getD j 0) true:=by
  have k:=sumN_mono (n:=n) (f:=fun j=> -(w:Int)*(if decide (v j<0)=true then x.getD j 0 else 0)+(fun _=>(a:Int)*x.getD i 0) j*if j=i then 1 else 0) (g:=fun j=>v j*x.getD j 0) fun j _=>by
   have xj:=L.row.pos j
   by_cases q:j=i
   ·subst q
    rw [if_neg (by simp;exact z275 hp),if_pos rfl,ea,Int.mul_zero,Int.mul_one,Int.zero_add];exact Int.le_refl _
   ·rw [if_neg q,Int.mul_zero,Int.add_zero]
    by_cases s:v j<0
    ·rw [if_pos (by simpa using s)];exact Int.mul_le_mul_of_nonneg_right (hw j).1 xj
    ·rw [if_neg (by simpa using s),Int.mul_zero];exact Int.mul_nonneg (z21 s) xj
  simp only [sumN_add,sumN_mul,sumN_one hi,ev] at k
  have k: -(w:Int)*tot n (fun j=>decide (v j<0)) (fun j=>x.getD j 0) true+(a:Int)*x.getD i 0<=0:=k
  generalize tot n (fun j=>decide (v j<0)) (fun j=>x.getD j 0) true=t at*
  apply Classical.byContradiction
  intro q
  have h1:(a:Int)*(w+1)<=a*x.getD i 0:=Int.mul_le_mul_of_nonneg_left (z128 hx) z289
  have h2:(w:Int)*t<=w*(a-1):=Int.mul_le_mul_of_nonneg_left (z379 q) z289
  simp only [Int.mul_sub,Int.mul_one,Int.mul_comm (w:Int) a] at h2
  rw [Int.neg_mul] at k
  exact z380 k h1 hp ea h2
 obtain ⟨is,hc,hin,hcount⟩:=pickT (t:=true) a (fun j=>L.row.pos j) ht
 have hneg:∀j∈is,v j<0:=fun j hj=>by
  have:=List.mem_map_of_mem (f:=fun j=>decide (v j<0)) hj
  rw [hc] at this
  simpa using (List.mem_replicate.mp this).2
 have hlen:is.length=a:=by have:=congrArg List.length hc;simpa using this
 have a0:0<a:=z381 hp ea
 obtain ⟨p,q,hpq,hqa,t,hs⟩:=block a0 (js:=is.map v) (by rw [List.length_map];exact hlen)
 have hsp:=sum_take_drop (is.map v) (Nat.le_of_lt hpq)
 have hB:((is.map v).take q).drop p=((is.take q).drop p).map v:=by rw [<-List.map_take,<-List.map_drop]
 rw [hB] at hsp
 have sub:((is.take q).drop p).Sublist is:=(List.drop_sublist _ _).trans (List.take_sublist _ _)
 have bl:((is.take q).drop p).length=q-p:=by rw [List.length_drop,List.length_take];exact z382 hlen hqa
 generalize hBB:(is.take q).drop p=B at*
 have hb:=sum_ge (js:=B.map v) (w:=w) fun y hy=>by
  obtain ⟨j,hj,rfl⟩:=List.mem_map.mp hy
  have:=hneg j (sub.subset hj)
  have:=hw j
  exact z383 ‹_› this.1
 rw [List.length_map] at hb
 have st:(B.map v).sum=a*t:=z384 hs hsp
 have hwl:w*B.length<=w*a:=Nat.mul_le_mul_left _ (z385 bl hqa)
 have t1:t<0:=by
  apply Classical.byContradiction
  intro z
  have:=Int.mul_nonneg (show 0<=(a:Int) by exact z289) (show 0<=t by lia)
  exact z386 this hs hsp hb.2 hpq bl
 have t2: -(w:Int)<=t:=by
  apply Classical.byContradiction
  intro z
  have:=Int.mul_le_mul_of_nonneg_left (show t<=-(w:Int)-1 by exact z379 z) (show 0<=(a:Int) by exact z289)
  rw [Int.mul_sub,Int.mul_one,Int.mul_neg] at this
  have c:((w*a:Nat):Int)=(a:Int)*w:=by rw [Int.natCast_mul,Int.mul_comm]
  exact z387 c hb.1 hp ea st this hwl
 obtain ⟨k,ek⟩:∃k:Nat,t= -(k:Int):=⟨(-t).toNat,z388 t1⟩
 have nin:i∉B:=fun hi'=>by have:=hneg i (sub.subset hi');exact z389 hp this
 have hz:((B++List.replicate k i).map v).sum=0:=by
  rw [List.map_append,List.sum_append,st,List.map_replicate,ek,ea]
  rw [sum_rep,Int.mul_neg,Int.mul_comm];exact z390
 have cnt:∀j,((B++List.replicate k i).count j:Int)<=x.getD j 0:=fun j=>by
  rw [List.count_append,List.count_replicate]
  by_cases q:i=j
  ·subst q
   rw [List.count_eq_zero.mpr nin,if_pos (beq_self_eq_true i),Nat.zero_add]
   exact z391 t2 ek hx
  ·have:¬(i==j)=true:=by simpa using q
   have h1:=hcount j
   have h2:=sub.count_le j
   rw [if_neg this,Nat.add_zero]
   exact z392 h1 h2
 have hit:=(L.hit (fun f hf=>by rw [List.mem_singleton.mp hf];exact he) (is:=B++List.replicate k i) (fun z=>by
   have:=congrArg List.length z
   rw [List.length_append] at this
   simp at this
   have:B=[]:=this.1
   rw [this] at bl;simp at bl;exact z393 bl hpq) (fun j hj=>by
   rcases List.mem_append.mp hj with z| z
   ·exact hin j (sub.subset z)
   ·rw [(List.mem_replicate.mp z).2];exact hi) cnt fun f hf=>by
   rw [List.mem_singleton.mp hf]
   rcases hv with h| h
   ·exact (congrArg List.sum (List.map_congr_left fun j _=>(h j).symm)).trans hz
   ·have:∀l:List Nat,(l.map fun j=>e.getD j 0).sum= -(l.map v).sum:=fun l=>by
     induction l with
     | nil=>rfl
     | cons b l ih=>rw [List.map_cons,List.sum_cons,ih,List.map_cons,List.sum_cons,h];exact z394
    rw [this,hz];rfl).1 i
 rw [List.count_append,List.count_replicate,List.count_eq_zero.mpr nin,if_pos (beq_self_eq_true i),Nat.zero_add] at hit
 exact z395 t2 ek hit hx
theorem entry_le {n w:Nat}{x e:List Int}(he:e.length=n)(L:Least [e] n x)(hw:∀i,-(w:Int)<=e.getD i 0/\e.getD i 0<=w)(w1:1<=w)(i:Nat):x.getD i 0<=w:=by
 by_cases hi:i<n
 ·rcases Int.lt_trichotomy (e.getD i 0) 0 with q| q| q
  ·exact entry_pos he L (v:=fun i=> -e.getD i 0) (.inr fun _=>rfl) (fun j=>by have:=hw j;exact z258 this.1 this.2) hi (z57 q)
  ·by_cases z:0<x.getD i 0
   ·rw [((L.hit (fun f hf=>by rw [List.mem_singleton.mp hf];exact he) (is:=[i]) (by simp) (fun j hj=>List.mem_singleton.mp hj▸hi) (fun j=>by
     by_cases q:i=j
     ·subst q;rw [List.count_cons_self];exact z
     ·rw [List.count_cons_of_ne q];exact L.row.pos j) fun f hf=>by rw [List.mem_singleton.mp hf];simpa using q).1 i)];simp;exact z177 w1
   ·exact z396 z
  ·exact entry_pos he L (v:=fun i=>e.getD i 0) (.inl fun _=>rfl) hw hi q
 ·rw [Row.beyond L.row (z12 hi)];exact z289
noncomputable def anyB (p:Nat->Bool)(l:List Nat):Bool:=List.rec false (fun a _ ih=>Bool.rec ih true (p a)) l
noncomputable def domB (T f:Nat):Bool:=Nat.beq (Nat.land (Nat.sub T f) 9223512776490647552) 9223512776490647552
noncomputable def outB (fd:List Nat)(S:Nat):Bool:=anyB (domB (Nat.add (Nat.mod S 18446744073709551616) 9223512776490647552)) fd
noncomputable def fltB (fd l:List Nat):List Nat:=List.rec [] (fun S _ ih=>Bool.rec (List.cons S ih) ih (outB fd S)) l
noncomputable def evB (S:Nat):Bool:=Nat.beq (Nat.div S 18446744073709551616) 9223512776490647552
noncomputable def candB (c D:Nat)(l:List Nat):List Nat:=
 List.rec [] (fun S _ ih=>Bool.rec ih (List.cons (Nat.mod (Nat.add S D) 340282366920938463463374607431768211456) ih) (Nat.beq (Nat.land S c) 0)) l
noncomputable def mrgB (xs:List Nat):List Nat->List Nat:=
 List.rec (fun ys=>ys) (fun x xs' ih ys=>List.rec (List.cons x xs') (fun y ys' ih2=>Bool.rec (List.cons y ih2) (List.cons x (ih (Bool.rec (List.cons y ys') ys' (Nat.beq x y)))) (Nat.ble x y)) ys) xs
noncomputable def opB (l:List Nat):List Nat:=List.rec [] (fun S _ ih=>Bool.rec (List.cons S ih) ih (evB S)) l
noncomputable def fdB (l fd:List Nat):List Nat:=List.rec fd (fun S _ ih=>Bool.rec ih (List.cons (Nat.mod S 18446744073709551616) ih) (evB S)) l
noncomputable def lenB (l:List Nat):Nat:=List.rec 0 (fun _ _ ih=>Nat.succ ih) l
noncomputable def nextB (D0 D1 D2 D3:Nat)(fd op:List Nat):List Nat:=
 fltB fd (mrgB (mrgB (candB 604462909807314587353088 D0 op) (candB 39614081257132168796771975168 D1 op)) (mrgB (candB 2596148429267413814265248164610048 D2 op) (candB 170141183460469231731687303715884105728 D3 op)))
noncomputable def bfsB (D0 D1 D2 D3:Nat):Nat->List Nat->List Nat->Bool:=
 Nat.rec (fun _ _=>false) fun _ ih fr fd=>List.rec (Nat.blt (lenB fd) 64) (fun _ _ _=>ih (nextB D0 D1 D2 D3 (fdB fr fd) (opB fr)) (fdB fr fd)) fr
noncomputable def addB (D:Nat):Nat:=Nat.mod (Nat.add 170143779648513184865543545075408044032 D) 340282366920938463463374607431768211456
noncomputable def frB (three:Bool)(D0 D1 D2 D3:Nat):List Nat:=mrgB (mrgB [addB D0] [addB D1]) (mrgB (Bool.rec [addB D2] [] three) [addB D3])
noncomputable def runB (three:Bool)(K D0 D1 D2 D3:Nat):Bool:=bfsB D0 D1 D2 D3 K (frB three D0 D1 D2 D3) []
noncomputable def colB (u a b c t:Nat):Nat:=Nat.mod (Nat.add u (Nat.add (Nat.add (Nat.mul a 18446744073709551616) (Nat.mul b 1208925819614629174706176)) (Nat.add (Nat.mul c 79228162514264337593543950336) (Nat.add (Nat.mul t 5192296858534827628530496329220096) 340277174544850557195662124712720334848)))) 340282366920938463463374607431768211456
structure Fld (x0 x1 x2 x3 g0 g1 g2 g3:Int)(S:Nat):Prop where
 b0:0<=x0/\x0<32768
 b1:0<=x1/\x1<32768
 b2:0<=x2/\x2<32768
 b3:0<=x3/\x3<32768
 c0: -32768<g0/\g0<32768
 c1: -32768<g1/\g1<32768
 c2: -32768<g2/\g2<32768
 c3: -32768<g3/\g3<32768
 eq:(S:Int)=x0+x1*65536+x2*4294967296+x3*281474976710656+((g0+32768)*18446744073709551616+(g1+32768)*1208925819614629174706176+(g2+32768)*79228162514264337593543950336+(g3+32768)*5192296858534827628530496329220096)
noncomputable def Inn (M L:Int):Prop:=0<=L/\L<M
theorem Inn.cons {M M' L d:Int}(h:Inn M L)(i:Inn 65536 d)(e:M*65536=M'):Inn M' (L+d*M):=by
 have hM:0<=M:=Int.le_of_lt (Int.lt_of_le_of_lt h.1 h.2)
 refine ⟨Int.add_nonneg h.1 (Int.mul_nonneg i.1 hM),?_⟩
 have h1:=Int.mul_le_mul_of_nonneg_right i.2 hM
 rw [Int.add_mul,Int.one_mul] at h1
 simp only [<-e,Int.mul_comm M]
 exact Int.lt_of_lt_of_le (Int.add_lt_add_right h.2 _) (Int.add_comm _ _▸h1)
theorem Inn.half {x:Int}(h:0<=x/\x<32768):Inn 65536 x:=⟨h.1,Int.lt_trans h.2 (by decide)⟩
theorem Inn.up {x:Int}(h: -32768<x/\x<32768):Inn 65536 (x+32768):=⟨Int.le_of_lt (Int.add_lt_add_right h.1 32768:(-32768:Int)+32768<x+32768),(Int.add_lt_add_right h.2 32768:x+32768<32768+32768)⟩
theorem fld_div {a M:Nat}{L T:Int}(i:Inn M L)(h:(a:Int)=L+T*M):((a/M:Nat):Int)=T:=by
 simp only [Int.natCast_ediv,h,Int.add_mul_ediv_right _ _ (Int.ne_of_gt (Int.lt_of_le_of_lt i.1 i.2)),Int.ediv_eq_zero_of_lt i.1 i.2,Int.zero_add]
theorem fld_mod {a M:Nat}{L T:Int}(i:Inn M L)(h:(a:Int)=L+T*M):((a % M:Nat):Int)=L:=by
 simp only [Int.natCast_emod,h,Int.add_mul_emod_self_right,Int.emod_eq_of_lt i.1 i.2]
theorem dig2 {M L L' T T':Int}(i:Inn M L)(i':Inn M L')(h:L+T*M=L'+T'*M):L=L'/\T=T':=by
 have e1:=congrArg (· % M) h
 simp only [Int.add_mul_emod_self_right,Int.emod_eq_of_lt i.1 i.2,Int.emod_eq_of_lt i'.1 i'.2] at e1
 subst e1
 exact ⟨rfl,Int.eq_of_mul_eq_mul_right (Int.ne_of_gt (Int.lt_of_le_of_lt i.1 i.2)) (Int.add_left_cancel h)⟩
theorem half_bit {t:Nat}{b H:Int}(h:(t:Int)=b+32768+H*65536)(hb: -32768<b/\b<32768):t/32768 % 2=0↔b<0:=by
 by_cases q:b<0
 ·refine ⟨fun _=>q,fun _=>Int.ofNat_inj.mp ?_⟩
  rw [Int.natCast_emod,fld_div (M:=32768) (L:=b+32768) (T:=H*2) ⟨(Inn.up hb).1,Int.add_lt_add_right q 32768⟩ (by rw [h,Int.mul_assoc];rfl)]
  exact Int.mul_emod_left _ _
 ·refine ⟨fun z=> ?_,fun z=>absurd z q⟩
  have h2:((t/32768 % 2:Nat):Int)=1:=by
   rw [Int.natCast_emod,fld_div (M:=32768) (L:=b) (T:=1+H*2) ⟨Int.not_lt.mp q,hb.2⟩ (by simp only [h,Int.add_mul,Int.mul_assoc,Int.add_assoc];rfl)]
   exact Int.add_mul_emod_self_right ..
  rw [z] at h2;contradiction
theorem horn {a b c d:Int}:a+b*65536+c*4294967296+d*281474976710656=a+(b+(c+d*65536)*65536)*65536:=by
 rw [Int.add_mul b,Int.mul_assoc _ 65536 65536,Int.add_mul c,Int.mul_assoc d,<-Int.add_assoc,<-Int.add_assoc];rfl
section
variable {x0 x1 x2 x3 g0 g1 g2 g3:Int} {S:Nat}
theorem Fld.lo (F:Fld x0 x1 x2 x3 g0 g1 g2 g3 S):Inn 18446744073709551616 (x0+x1*65536+x2*4294967296+x3*281474976710656):=
 (((Inn.half F.b0).cons (.half F.b1) (by decide)).cons (.half F.b2) (by decide)).cons (.half F.b3) (by decide)
theorem horn4 {L a b c d:Int}:L+(a*18446744073709551616+b*1208925819614629174706176+c*79228162514264337593543950336+d*5192296858534827628530496329220096)=L+(a+(b+(c+d*65536)*65536)*65536)*18446744073709551616:=by
 simp only [<-horn,Int.add_mul _ _ 18446744073709551616,Int.mul_assoc b,Int.mul_assoc c,Int.mul_assoc d];rfl
theorem Fld.top (F:Fld x0 x1 x2 x3 g0 g1 g2 g3 S):(S:Int)=(x0+x1*65536+x2*4294967296+x3*281474976710656)+(g0+32768+(g1+32768+(g2+32768+(g3+32768)*65536)*65536)*65536)*18446744073709551616:=F.eq.trans horn4
theorem Fld.low (F:Fld x0 x1 x2 x3 g0 g1 g2 g3 S):((S % 18446744073709551616:Nat):Int)=x0+x1*65536+x2*4294967296+x3*281474976710656:=fld_mod F.lo F.top
theorem Fld.t0 (F:Fld x0 x1 x2 x3 g0 g1 g2 g3 S):((S/18446744073709551616:Nat):Int)=g0+32768+(g1+32768+(g2+32768+(g3+32768)*65536)*65536)*65536:=fld_div F.lo F.top
theorem Fld.t1 (F:Fld x0 x1 x2 x3 g0 g1 g2 g3 S):((S/18446744073709551616/65536:Nat):Int)=g1+32768+(g2+32768+(g3+32768)*65536)*65536:=fld_div (Inn.up F.c0) F.t0
theorem Fld.t2 (F:Fld x0 x1 x2 x3 g0 g1 g2 g3 S):((S/18446744073709551616/65536/65536:Nat):Int)=g2+32768+(g3+32768)*65536:=fld_div (Inn.up F.c1) F.t1
theorem Fld.t3 (F:Fld x0 x1 x2 x3 g0 g1 g2 g3 S):((S/18446744073709551616/65536/65536/65536:Nat):Int)=g3+32768+0*65536:=(fld_div (Inn.up F.c2) F.t2).trans (Int.add_zero _).symm
theorem Fld.high (F:Fld x0 x1 x2 x3 g0 g1 g2 g3 S):evB S=true↔g0=0/\g1=0/\g2=0/\g3=0:=by
 have:evB S=true↔S/18446744073709551616=9223512776490647552:=Iff.of_eq Nat.beq_eq
 rw [this]
 have e:=F.t0
 have i:Inn 65536 (0+32768):=⟨by decide,by decide⟩
 constructor
 ·intro h
  rw [h] at e
  obtain ⟨e0,e⟩:=dig2 i (.up F.c0) ((show (0+32768+(0+32768+(0+32768+(0+32768)*65536)*65536)*65536:Int)=((9223512776490647552:Nat):Int) by decide).trans e)
  obtain ⟨e1,e⟩:=dig2 i (.up F.c1) e
  obtain ⟨e2,e⟩:=dig2 i (.up F.c2) e
  exact ⟨((Int.add_left_inj _).mp e0).symm,((Int.add_left_inj _).mp e1).symm,((Int.add_left_inj _).mp e2).symm,((Int.add_left_inj _).mp e).symm⟩
 ·rintro ⟨rfl,rfl,rfl,rfl⟩
  exact Int.ofNat_inj.mp e
theorem and_bit (S e:Nat):Nat.beq (Nat.land S (2^e)) 0=true↔S/2^e % 2=0:=by
 have h:S.testBit e=decide (S/2^e % 2=1):=Nat.testBit_eq_decide_div_mod_eq
 rw [Nat.beq_eq]
 constructor
 ·intro q
  have q2:(S&&&2^e).testBit e=false:=by
   have:S&&&2^e=0:=q
   rw [this,Nat.zero_testBit]
  rw [Nat.testBit_and,h] at q2
  simp at q2
  exact q2
 ·intro q
  show S&&&2^e=0
  refine Nat.eq_of_testBit_eq fun i=> ?_
  simp only [Nat.testBit_and,Nat.zero_testBit]
  by_cases hi:e=i
  ·subst hi;rw [h,q];rfl
  ·rw [Nat.testBit_two_pow_of_ne hi,Bool.and_false]
theorem Fld.neg0 (F:Fld x0 x1 x2 x3 g0 g1 g2 g3 S):Nat.beq (Nat.land S 604462909807314587353088) 0=true↔g0<0:=by
 refine (and_bit S 79).trans ?_
 have:=half_bit F.t0 F.c0
 rw [Nat.div_div_eq_div_mul] at this
 exact this
theorem Fld.neg1 (F:Fld x0 x1 x2 x3 g0 g1 g2 g3 S):Nat.beq (Nat.land S 39614081257132168796771975168) 0=true↔g1<0:=by
 refine (and_bit S 95).trans ?_
 have:=half_bit F.t1 F.c1
 rw [Nat.div_div_eq_div_mul,Nat.div_div_eq_div_mul] at this
 exact this
theorem Fld.neg2 (F:Fld x0 x1 x2 x3 g0 g1 g2 g3 S):Nat.beq (Nat.land S 2596148429267413814265248164610048) 0=true↔g2<0:=by
 refine (and_bit S 111).trans ?_
 have:=half_bit F.t2 F.c2
 rw [Nat.div_div_eq_div_mul,Nat.div_div_eq_div_mul,Nat.div_div_eq_div_mul] at this
 exact this
theorem Fld.neg3 (F:Fld x0 x1 x2 x3 g0 g1 g2 g3 S):Nat.beq (Nat.land S 170141183460469231731687303715884105728) 0=true↔g3<0:=by
 refine (and_bit S 127).trans ?_
 have:=half_bit F.t3 F.c3
 rw [Nat.div_div_eq_div_mul,Nat.div_div_eq_div_mul,Nat.div_div_eq_div_mul,Nat.div_div_eq_div_mul] at this
 exact this
theorem and_bits {T:Nat}(h:Nat.beq (Nat.land T 9223512776490647552) 9223512776490647552=true)(e:Nat)(he:Nat.testBit 9223512776490647552 e=true):T/2^e % 2=1:=by
 have h2:T.testBit e=true:=by
  have:=congrArg (fun x=>Nat.testBit x e) (Nat.eq_of_beq_eq_true h:T&&&9223512776490647552=9223512776490647552)
  simp only [Nat.testBit_and,he,Bool.and_true] at this
  exact this
 have h3:T.testBit e=decide (T/2^e % 2=1):=Nat.testBit_eq_decide_div_mod_eq
 simp only [h2] at h3
 exact of_decide_eq_true h3.symm
theorem sub4 {a b c d x y z w:Int}:a+b*65536+c*4294967296+d*281474976710656+((9223512776490647552:Nat):Int)-(x+y*65536+z*4294967296+w*281474976710656)=(a-x+32768)+(b-y+32768)*65536+(c-z+32768)*4294967296+(d-w+32768)*281474976710656:=by omega
theorem dom_le {y0 y1 y2 y3:Int}{f:Nat}(F:Fld x0 x1 x2 x3 g0 g1 g2 g3 S)(h0:0<=y0/\y0<32768)(h1:0<=y1/\y1<32768)(h2:0<=y2/\y2<32768)(h3:0<=y3/\y3<32768)(hf:(f:Int)=y0+y1*65536+y2*4294967296+y3*281474976710656)
  (h:domB (Nat.add (Nat.mod S 18446744073709551616) 9223512776490647552) f=true):y0<=x0/\y1<=x1/\y2<=x2/\y3<=x3:=by
 have l:=F.low
 have h':Nat.beq (Nat.land (S % 18446744073709551616+9223512776490647552-f) 9223512776490647552) 9223512776490647552=true:=h
 have a0:=and_bits h' 15 (by decide)
 have a1:=and_bits h' 31 (by decide)
 have a2:=and_bits h' 47 (by decide)
 have a3:=and_bits h' 63 (by decide)
 have hle:f<=9223512776490647552:=Int.ofNat_le.mp (hf▸Int.add_le_add (Int.add_le_add (Int.add_le_add (Int.le_of_lt h0.2) (Int.mul_le_mul_of_nonneg_right (Int.le_of_lt h1.2) (by decide))) (Int.mul_le_mul_of_nonneg_right (Int.le_of_lt h2.2) (by decide))) (Int.mul_le_mul_of_nonneg_right (Int.le_of_lt h3.2) (by decide)))
 generalize S % 18446744073709551616=L at*
 clear h h'
 have e:((L+9223512776490647552-f:Nat):Int)=(x0-y0+32768)+(x1-y1+32768)*65536+(x2-y2+32768)*4294967296+(x3-y3+32768)*281474976710656:=by
  rw [Int.natCast_sub (Nat.le_trans hle (Nat.le_add_left ..)),Int.natCast_add,l,hf]
  exact sub4
 replace e:=e.trans (horn ..)
 generalize L+9223512776490647552-f=T at*
 have sub:∀{x y:Int},0<=x/\x<32768->0<=y/\y<32768->-32768<x-y/\x-y<32768:=fun hx hy=>⟨Int.lt_of_lt_of_le (Int.neg_lt_neg hy.2) (Int.zero_sub _▸Int.sub_le_sub_right hx.1 _),Int.lt_of_le_of_lt (Int.sub_le_self _ hy.1) hx.2⟩
 have le:∀{t:Nat} {x y H:Int},(t:Int)=x-y+32768+H*65536->0<=x/\x<32768->0<=y/\y<32768->t/32768 % 2=1->y<=x:=fun h hx hy q=>Int.not_lt.mp fun z=>by
  replace q:=((half_bit h (sub hx hy)).mpr (Int.sub_neg_of_lt z) ..).symm.trans q;contradiction
 have e1:=fld_div (M:=65536) (Inn.up (sub F.b0 h0)) e
 have e2:=fld_div (M:=65536) (Inn.up (sub F.b1 h1)) e1
 refine ⟨le e F.b0 h0 a0,le e1 F.b1 h1 ?_,le e2 F.b2 h2 ?_,le (H:=0) ((fld_div (M:=65536) (Inn.up (sub F.b2 h2)) e2).trans (by simp only [Int.zero_mul,Int.add_zero])) F.b3 h3 ?_⟩
 ·rw [Nat.div_div_eq_div_mul];exact a1
 ·rw [Nat.div_div_eq_div_mul,Nat.div_div_eq_div_mul];exact a2
 ·rw [Nat.div_div_eq_div_mul,Nat.div_div_eq_div_mul,Nat.div_div_eq_div_mul];exact a3
end
theorem mem_anyB {p:Nat->Bool}:∀{l:List Nat},anyB p l=true->∃a∈l,p a=true
 | [],h=>absurd (show false=true from h) Bool.false_ne_true
 | a::l,h=>by
  have h:(Bool.rec (anyB p l) true (p a):Bool)=true:=h
  cases q:p a with
  | true=>exact ⟨a,.head _,q⟩
  | false=>
   rw [q] at h
   obtain ⟨b,hb,e⟩:=mem_anyB (l:=l) h
   exact ⟨b,.tail _ hb,e⟩
theorem mem_fltB {fd:List Nat}{S:Nat}:∀{l:List Nat},S∈fltB fd l↔S∈l/\outB fd S=false
 | []=>⟨fun h=>absurd (show S∈[] from h) List.not_mem_nil,fun h=>absurd h.1 List.not_mem_nil⟩
 | a::l=>by
  have e:fltB fd (a::l)=(Bool.rec (a::fltB fd l) (fltB fd l) (outB fd a):List Nat):=rfl
  rw [e]
  cases q:outB fd a with
  | true=>
   rw [mem_fltB,List.mem_cons]
   exact ⟨fun h=>⟨.inr h.1,h.2⟩,fun h=>⟨h.1.resolve_left fun e=>by rw [e,q] at h;exact absurd h.2 (by decide),h.2⟩⟩
  | false=>
   rw [List.mem_cons,mem_fltB,List.mem_cons]
   exact ⟨fun h=>h.elim (fun e=>⟨.inl e,e▸q⟩) fun h=>⟨.inr h.1,h.2⟩,fun h=>h.1.elim .inl fun m=>.inr ⟨m,h.2⟩⟩
theorem mem_opB {S:Nat}:∀{l:List Nat},S∈opB l↔S∈l/\evB S=false
 | []=>⟨fun h=>absurd (show S∈[] from h) List.not_mem_nil,fun h=>absurd h.1 List.not_mem_nil⟩
 | a::l=>by
  have e:opB (a::l)=(Bool.rec (a::opB l) (opB l) (evB a):List Nat):=rfl
  rw [e]
  cases q:evB a with
  | true=>
   rw [mem_opB,List.mem_cons]
   exact ⟨fun h=>⟨.inr h.1,h.2⟩,fun h=>⟨h.1.resolve_left fun e=>by rw [e,q] at h;exact absurd h.2 (by decide),h.2⟩⟩
  | false=>
   rw [List.mem_cons,mem_opB,List.mem_cons]
   exact ⟨fun h=>h.elim (fun e=>⟨.inl e,e▸q⟩) fun h=>⟨.inr h.1,h.2⟩,fun h=>h.1.elim .inl fun m=>.inr ⟨m,h.2⟩⟩
theorem mem_fdB {fd:List Nat}{f:Nat}:∀{l:List Nat},f∈fdB l fd↔f∈fd\/∃S∈l,evB S=true/\f=S % 18446744073709551616
 | []=>⟨.inl,fun h=>h.elim id fun ⟨S,h,_⟩=>absurd h List.not_mem_nil⟩
 | a::l=>by
  have e:fdB (a::l) fd=(Bool.rec (fdB l fd) (a % 18446744073709551616::fdB l fd) (evB a):List Nat):=rfl
  rw [e]
  cases q:evB a with
  | true=>
   rw [List.mem_cons,mem_fdB]
   constructor
   ·rintro (h| h| ⟨S,h1,h2⟩)
    ·exact .inr ⟨a,.head _,q,h⟩
    ·exact .inl h
    ·exact .inr ⟨S,.tail _ h1,h2⟩
   ·rintro (h| ⟨S,h1,h2,h3⟩)
    ·exact .inr (.inl h)
    ·rcases List.mem_cons.mp h1 with rfl| h1
     ·exact .inl h3
     ·exact .inr (.inr ⟨S,h1,h2,h3⟩)
  | false=>
   rw [mem_fdB]
   constructor
   ·rintro (h| ⟨S,h1,h2⟩)
    ·exact .inl h
    ·exact .inr ⟨S,.tail _ h1,h2⟩
   ·rintro (h| ⟨S,h1,h2,h3⟩)
    ·exact .inl h
    ·rcases List.mem_cons.mp h1 with rfl| h1
     ·rw [q] at h2;exact absurd h2 (by decide)
     ·exact .inr ⟨S,h1,h2,h3⟩
theorem mem_candB {c D T:Nat}:∀{l:List Nat},T∈candB c D l↔∃S∈l,Nat.beq (Nat.land S c) 0=true/\T=(S+D) % 340282366920938463463374607431768211456
 | []=>⟨fun h=>absurd (show T∈[] from h) List.not_mem_nil,fun ⟨_,h,_⟩=>absurd h List.not_mem_nil⟩
 | a::l=>by
  have e:candB c D (a::l)=(Bool.rec (candB c D l) ((a+D) % 340282366920938463463374607431768211456::candB c D l) (Nat.beq (Nat.land a c) 0):List Nat):=rfl
  simp only [e]
  cases q:Nat.beq (Nat.land a c) 0 with
  | true=>
   rw [List.mem_cons,mem_candB]
   constructor
   ·rintro (h| ⟨S,h1,h2⟩)
    ·exact ⟨a,.head _,q,h⟩
    ·exact ⟨S,.tail _ h1,h2⟩
   ·rintro ⟨S,h1,h2,h3⟩
    rcases List.mem_cons.mp h1 with rfl| h1
    ·exact .inl h3
    ·exact .inr ⟨S,h1,h2,h3⟩
  | false=>
   rw [mem_candB]
   constructor
   ·rintro ⟨S,h1,h2⟩
    exact ⟨S,.tail _ h1,h2⟩
   ·rintro ⟨S,h1,h2,h3⟩
    rcases List.mem_cons.mp h1 with rfl| h1
    ·rw [q] at h2;exact absurd h2 (by decide)
    ·exact ⟨S,h1,h2,h3⟩
theorem mem_mrgB {z:Nat}:∀{xs ys:List Nat},z∈mrgB xs ys↔z∈xs\/z∈ys:=by
 intro xs
 induction xs with
 | nil=>exact fun {ys}=>⟨.inr,fun h=>h.resolve_left List.not_mem_nil⟩
 | cons x xs ihx=>
  intro ys
  induction ys with
  | nil=>exact ⟨fun h=>.inl h,fun h=>h.resolve_right List.not_mem_nil⟩
  | cons y ys ihy=>
   have e:mrgB (x::xs) (y::ys)=(Bool.rec (y::mrgB (x::xs) ys) (x::mrgB xs (Bool.rec (y::ys) ys (Nat.beq x y))) (Nat.ble x y):List Nat):=rfl
   rw [e]
   cases Nat.ble x y with
   | false=>
    show z∈y::mrgB (x::xs) ys↔_
    rw [List.mem_cons,ihy,List.mem_cons (b:=y),or_left_comm]
   | true=>
    rw [List.mem_cons,ihx,List.mem_cons (b:=x),or_assoc]
    cases q:Nat.beq x y with
    | false=>exact Iff.rfl
    | true=>
     have:=Nat.eq_of_beq_eq_true q
     subst this
     show _\/_\/z∈ys↔_\/_\/z∈x::ys
     rw [List.mem_cons]
     constructor
     ·rintro (h| h| h)
      ·exact .inl h
      ·exact .inr (.inl h)
      ·exact .inr (.inr (.inr h))
     ·rintro (h| h| h| h)
      ·exact .inl h
      ·exact .inr (.inl h)
      ·exact .inl h
      ·exact .inr (.inr h)
theorem lenB_eq:∀l:List Nat,lenB l=l.length
 | []=>rfl
 | a::l=>by show Nat.succ (lenB l)=_;rw [lenB_eq l];rfl
noncomputable def gp (E:List (List Int))(n i:Nat)(v:List Int):Int:=dot (wor E v) (col E n i)
theorem gp_add {E:List (List Int)}{n i:Nat}{a b:List Int}(h:a.length=b.length):gp E n i (addR a b)=gp E n i a+gp E n i b:=by
 unfold gp
 rw [wor_addR h,dot_comm,dot_addR (by exact (wor_len ..).trans (wor_len ..).symm),dot_comm,dot_comm (col E n i)]
theorem gp_none {E:List (List Int)}{n i:Nat}(h:n<=i)(v:List Int):gp E n i v=0:=by
 refine dot_zero_r _ _ fun x hx=> ?_
 obtain ⟨e,_,rfl⟩:=List.mem_map.mp hx
 refine dot_zero_r _ _ fun y hy=> ?_
 obtain ⟨j,hj,rfl⟩:=List.mem_map.mp hy
 rw [List.mem_range] at hj
 have:¬((j:Int)==(i:Int))=true:=by
  rw [beq_iff_eq];exact z149 hj h
 exact (if_neg this ..)
noncomputable def lowv (i0 i1 i2 i3:Nat)(v:List Int):Int:=v.getD i0 0+v.getD i1 0*65536+v.getD i2 0*4294967296+v.getD i3 0*281474976710656
noncomputable def lin4 (E:List (List Int))(n i0 i1 i2 i3:Nat)(v:List Int):Int:=lowv i0 i1 i2 i3 v+(gp E n i0 v*18446744073709551616+gp E n i1 v*1208925819614629174706176+gp E n i2 v*79228162514264337593543950336+gp E n i3 v*5192296858534827628530496329220096)
theorem lin4_add {E:List (List Int)}{n i0 i1 i2 i3:Nat}{a b:List Int}(h:a.length=b.length):lin4 E n i0 i1 i2 i3 (addR a b)=lin4 E n i0 i1 i2 i3 a+lin4 E n i0 i1 i2 i3 b:=by
 delta lin4 lowv
 simp only [gp_add h,gp_add h,gp_add h,gp_add h,addR_get h,addR_get h,addR_get h,addR_get h]
 exact z150
structure Lay (E:List (List Int))(n i0 i1 i2 i3:Nat)(D0 D1 D2 D3 K:Nat)(three:Bool):Prop where
 len:∀e∈E,e.length=n
 cov:∀p,p<n->p=i0\/p=i1\/p=i2\/p=i3
 in0:i0<n
 in1:i1<n
 in2:three=false->i2<n
 no2:three=true->n<=i2
 in3:i3<n
 small:∃gm:Nat,K*gm<32768/\K<32768/\∀p,p<n->∀i,-(gm:Int)<=gp E n i (unitR n p)/\gp E n i (unitR n p)<=gm
 d0:∃t:Int,(D0:Int)=lin4 E n i0 i1 i2 i3 (unitR n i0)+340282366920938463463374607431768211456*t
 d1:∃t:Int,(D1:Int)=lin4 E n i0 i1 i2 i3 (unitR n i1)+340282366920938463463374607431768211456*t
 d2:three=false->∃t:Int,(D2:Int)=lin4 E n i0 i1 i2 i3 (unitR n i2)+340282366920938463463374607431768211456*t
 d3:∃t:Int,(D3:Int)=lin4 E n i0 i1 i2 i3 (unitR n i3)+340282366920938463463374607431768211456*t
noncomputable def Cod (E:List (List Int))(n i0 i1 i2 i3:Nat)(v:List Int)(S:Nat):Prop:=(S:Int)=lin4 E n i0 i1 i2 i3 v+170143779648513184865543545075408044032
section
variable {E:List (List Int)} {n i0 i1 i2 i3 D0 D1 D2 D3 K:Nat} {three:Bool} {R:List (List Int)} {v:List Int}
theorem Reach.gp {gm:Nat}(h:∀p,p<n->∀i,-(gm:Int)<=gp E n i (unitR n p)/\gp E n i (unitR n p)<=gm)(x:Reach E n false R v)(i:Nat): -(v.sum*gm)<=gp E n i v/\gp E n i v<=v.sum*gm:=by
 induction x with
 | unit hp=>rw [sum_unit hp,Int.one_mul];exact h _ hp i
 | @step R v p x ne hp hd ho ih=>
  rw [sum_add_unit x.row hp,gp_add (by exact (x.row.len ..).trans (unitR_len ..).symm),Int.add_mul,Int.one_mul]
  have:=h _ hp i
  exact z151 ih.1 this.1 ih.2 this.2
theorem Lay.fld (L:Lay E n i0 i1 i2 i3 D0 D1 D2 D3 K three)(x:Reach E n false R v)(hs:v.sum<=K):∃S:Nat,Cod E n i0 i1 i2 i3 v S/\Fld (v.getD i0 0) (v.getD i1 0) (v.getD i2 0) (v.getD i3 0) (gp E n i0 v) (gp E n i1 v) (gp E n i2 v) (gp E n i3 v) S:=by
 obtain ⟨gm,h1,h2,h3⟩:=L.small
 have hx:∀i,0<=v.getD i 0/\v.getD i 0<32768:=fun i=>⟨x.row.pos i,by have:=get_le_sum x.row i;exact z152 hs this h2⟩
 have hm:v.sum*gm<=((K*gm:Nat):Int):=by
  exact Int.mul_le_mul_of_nonneg_right hs (Int.natCast_nonneg _)
 have hg:=fun i=>by
  have:=x.gp h3 i
  exact z153 this.1 hm this.2 h1
 have b0:=hx i0
 have b1:=hx i1
 have b2:=hx i2
 have b3:=hx i3
 have c0:=hg i0
 have c1:=hg i1
 have c2:=hg i2
 have c3:=hg i3
 have e:0<=lin4 E n i0 i1 i2 i3 v+170143779648513184865543545075408044032:=by
  exact z154 c0.1 c3.1 c2.1 c1.1 b0.1 b3.1 b2.1 b1.1
 obtain ⟨S,hS⟩:=Int.eq_ofNat_of_zero_le e
 refine ⟨S,hS.symm,b0,b1,b2,b3,c0,c1,c2,c3,?_⟩
 simp only [<-hS]
 delta lin4 lowv
 exact z155
theorem Fld.lt {x0 x1 x2 x3 g0 g1 g2 g3:Int}{S:Nat}(F:Fld x0 x1 x2 x3 g0 g1 g2 g3 S):S<340282366920938463463374607431768211456:=by
 refine Int.ofNat_lt.mp (Int.lt_of_le_of_lt (Int.le_of_eq (F.eq.trans ?_)) ((((F.lo.cons (.up F.c0) (by decide)).cons (.up F.c1) (by decide)).cons (.up F.c2) (by decide)).cons (.up F.c3) (by decide):Inn 340282366920938463463374607431768211456 (x0+x1*65536+x2*4294967296+x3*281474976710656+(g0+32768)*18446744073709551616+(g1+32768)*1208925819614629174706176+(g2+32768)*79228162514264337593543950336+(g3+32768)*5192296858534827628530496329220096)).2)
 simp only [<-Int.add_assoc]
theorem mod_step {S D T:Nat}{L l t:Int}(hS:(S:Int)=L+170143779648513184865543545075408044032)(hD:(D:Int)=l+340282366920938463463374607431768211456*t)(hT:(T:Int)=L+l+170143779648513184865543545075408044032)(lt:T<340282366920938463463374607431768211456):(S+D) % 340282366920938463463374607431768211456=T:=by
 exact z157 hD hS hT lt
theorem Lay.step (L:Lay E n i0 i1 i2 i3 D0 D1 D2 D3 K three)(x:Reach E n false R v)(hs:v.sum+1<=K){p D S:Nat}(hp:p<n)(hD:∃t:Int,(D:Int)=lin4 E n i0 i1 i2 i3 (unitR n p)+340282366920938463463374607431768211456*t)(hS:Cod E n i0 i1 i2 i3 v S)(ne:¬Even E v)(hd:gp E n p v<0):
  Reach E n false (v::R) (addR v (unitR n p))/\Cod E n i0 i1 i2 i3 (addR v (unitR n p)) ((S+D) % 340282366920938463463374607431768211456):=by
 have y:Reach E n false (v::R) (addR v (unitR n p)):=.step x ne hp hd (fun h=>by contradiction)
 obtain ⟨T,hT,F⟩:=L.fld y (by rw [sum_add_unit x.row hp];exact hs)
 obtain ⟨t,ht⟩:=hD
 simp only [mod_step hS ht (by exact ((lin4_add (E:=E) (n:=n) (i0:=i0) (i1:=i1) (i2:=i2) (i3:=i3) (a:=v) (b:=unitR n p) (by exact (x.row.len ..).trans (unitR_len ..).symm)))▸hT) F.lt]
 exact ⟨y,hT⟩
theorem Lay.ev (L:Lay E n i0 i1 i2 i3 D0 D1 D2 D3 K three)(r:Row n v)(h:gp E n i0 v=0/\gp E n i1 v=0/\gp E n i2 v=0/\gp E n i3 v=0):Even E v:=by
 refine dot_self_zero (Int.le_of_eq ?_)
 rw [dot_wor L.len r.len]
 refine (sumN_congr (g:=fun _=>0) fun j hj=> ?_).trans (sumN_const0 n)
 have:gp E n j v=0:=by
  rcases L.cov j hj with rfl| rfl| rfl| rfl
  ·exact h.1
  ·exact h.2.1
  ·exact h.2.2.1
  ·exact h.2.2.2
 show v.getD j 0*gp E n j v=0
 rw [this,Int.mul_zero]
theorem ev_gp (h:Even E v)(i:Nat):gp E n i v=0:=by
 exact (dot_comm ..).trans (dot_zero_r _ _ h)
theorem Alive.prev {p:Nat}(x:Alive E n false (v::R) (addR v (unitR n p)))(y:Reach E n false R v)(hp:p<n):Alive E n false R v where
 reach:=y
 bare:=fun g rg eg pg lg=>by
  have h1:=lg.sum rg y.row
  rw [(x.bare g rg eg pg (lg.trans (le_add_unit y.row))),sum_add_unit y.row hp] at h1
  omega
structure Stg (E:List (List Int))(n i0 i1 i2 i3:Nat)(s:Int)(fr fd:List Nat):Prop where
 sound:∀S∈fr,∃R v,Reach E n false R v/\v.sum=s/\Cod E n i0 i1 i2 i3 v S
 all:∀R v,Alive E n false R v->v.sum=s->∃S∈fr,Cod E n i0 i1 i2 i3 v S
 fsound:∀f∈fd,∃g,Row n g/\Even E g/\0<g.sum/\g.sum<s/\(f:Int)=lowv i0 i1 i2 i3 g
 fall:∀R v,Alive E n false R v->Even E v->v.sum<s->∃f∈fd,(f:Int)=lowv i0 i1 i2 i3 v
theorem Cod.inj {S T:Nat}(h:Cod E n i0 i1 i2 i3 v S)(h':Cod E n i0 i1 i2 i3 v T):S=T:=by
 exact z158 h h'
theorem Lay.found (L:Lay E n i0 i1 i2 i3 D0 D1 D2 D3 K three){s:Int}{fr fd:List Nat}(G:Stg E n i0 i1 i2 i3 s fr fd)(hs:s<=K)(h0:0<s):
  (∀f∈fdB fr fd,∃g,Row n g/\Even E g/\0<g.sum/\g.sum<s+1/\(f:Int)=lowv i0 i1 i2 i3 g)/\∀R v,Alive E n false R v->Even E v->v.sum<s+1->∃f∈fdB fr fd,(f:Int)=lowv i0 i1 i2 i3 v:=by
 constructor
 ·intro f hf
  rcases mem_fdB.mp hf with h| ⟨S,hS,he,rfl⟩
  ·obtain ⟨g,a,b,c,d,e⟩:=G.fsound f h
   exact ⟨g,a,b,c,z159 d,e⟩
  ·obtain ⟨R,v,x,hv,hc⟩:=G.sound S hS
   obtain ⟨T,hT,F⟩:=L.fld x (z47 hv hs)
   simp only [hT.inj hc] at F
   exact ⟨v,x.row,L.ev x.row (F.high.mp he),z160 h0 hv,z161 hv,F.low⟩
 ·intro R v x he hv
  by_cases q:v.sum<s
  ·obtain ⟨f,hf,e⟩:=G.fall R v x he q
   exact ⟨f,mem_fdB.mpr (.inl hf),e⟩
  ·obtain ⟨S,hS,hc⟩:=G.all R v x (z162 hv q)
   obtain ⟨T,hT,F⟩:=L.fld x.reach (z163 hv hs)
   simp only [hT.inj hc] at F
   exact ⟨S % 18446744073709551616,mem_fdB.mpr (.inr ⟨S,hS,F.high.mpr ⟨ev_gp he _,ev_gp he _,ev_gp he _,ev_gp he _⟩,rfl⟩),F.low⟩
theorem bool_ne {b:Bool}(h:¬b=true):b=false:=by cases b<;>simp at h⊢
theorem Lay.next (L:Lay E n i0 i1 i2 i3 D0 D1 D2 D3 K three){s:Int}{fr fd:List Nat}(G:Stg E n i0 i1 i2 i3 s fr fd)(hs:s+1<=K)(h0:0<s):Stg E n i0 i1 i2 i3 (s+1) (nextB D0 D1 D2 D3 (fdB fr fd) (opB fr)) (fdB fr fd):=by
 have fo:=L.found G (z164 hs) h0
 refine ⟨fun T hT=> ?_,fun R v x hv=> ?_,fo.1,fo.2⟩
 ·have key:∀{p D c:Nat},(p<n\/n<=p)->(p<n->∃t:Int,(D:Int)=lin4 E n i0 i1 i2 i3 (unitR n p)+340282366920938463463374607431768211456*t)->(∀{v S},Fld (v.getD i0 0) (v.getD i1 0) (v.getD i2 0) (v.getD i3 0) (gp E n i0 v) (gp E n i1 v) (gp E n i2 v) (gp E n i3 v) S->Nat.beq (Nat.land S c) 0=true->gp E n p v<0)->T∈candB c D (opB fr)->∃R v,Reach E n false R v/\v.sum=s+1/\Cod E n i0 i1 i2 i3 v T:=by
   intro p D c hp hD hc hm
   obtain ⟨S,hS,hb,rfl⟩:=mem_candB.mp hm
   obtain ⟨hS,ho⟩:=mem_opB.mp hS
   obtain ⟨R,v,x,hv,hcod⟩:=G.sound S hS
   obtain ⟨S',hS',F⟩:=L.fld x (z165 hs hv)
   simp only [hS'.inj hcod] at F
   have hd:=hc F hb
   have hp:p<n:=hp.resolve_right fun q=>by rw [gp_none q] at hd;exact absurd hd (by decide)
   have ne:¬Even E v:=fun q=>by
    rw [F.high.mpr ⟨ev_gp q _,ev_gp q _,ev_gp q _,ev_gp q _⟩] at ho
    exact absurd ho (by decide)
   obtain ⟨y,hy⟩:=L.step x (z166 hs hv) hp (hD hp) hcod ne hd
   exact ⟨_,_,y,by rw [sum_add_unit x.row hp,hv],hy⟩
  rcases mem_mrgB.mp ((mem_fltB.mp hT).1) with h| h
  ·rcases mem_mrgB.mp h with h| h
   ·exact key (.inl L.in0) (fun _=>L.d0) (fun F=>F.neg0.mp) h
   ·exact key (.inl L.in1) (fun _=>L.d1) (fun F=>F.neg1.mp) h
  ·rcases mem_mrgB.mp h with h| h
   ·refine key (p:=i2) (Nat.lt_or_ge _ _) (fun q=>L.d2 ?_) (fun F=>F.neg2.mp) h
    cases three with
    | false=>rfl
    | true=>exact absurd q (Nat.not_lt.mpr (L.no2 rfl))
   ·exact key (.inl L.in3) (fun _=>L.d3) (fun F=>F.neg3.mp) h
 ·cases hx:x.reach with
  | unit hp=>
   rename_i p
   have:=sum_unit hp
   omega
  | @step R v p y ne hp hd ho=>
   have hv':v.sum=s:=by have:=sum_add_unit y.row hp;exact z167 hv this
   obtain ⟨S,hS,hc⟩:=G.all R v (Alive.prev x y hp) hv'
   obtain ⟨S',hS',F⟩:=L.fld y (z165 hs hv')
   simp only [hS'.inj hc] at F
   have key:∀{D c:Nat},(∃t:Int,(D:Int)=lin4 E n i0 i1 i2 i3 (unitR n p)+340282366920938463463374607431768211456*t)->(gp E n p v<0->Nat.beq (Nat.land S c) 0=true)->((S+D) % 340282366920938463463374607431768211456∈candB c D (opB fr)->(S+D) % 340282366920938463463374607431768211456∈mrgB (mrgB (candB 604462909807314587353088 D0 (opB fr)) (candB 39614081257132168796771975168 D1 (opB fr))) (mrgB (candB 2596148429267413814265248164610048 D2 (opB fr)) (candB 170141183460469231731687303715884105728 D3 (opB fr))))->∃T∈nextB D0 D1 D2 D3 (fdB fr fd) (opB fr),Cod E n i0 i1 i2 i3 (addR v (unitR n p)) T:=by
    intro D c hD hb hm
    refine And.elim (fun z hz=> ?_) (L.step y (z166 hs hv') hp hD hc ne hd)
    refine ⟨_,mem_fltB.mpr ⟨hm (mem_candB.mpr ⟨S,(mem_opB.mpr ⟨hS,bool_ne fun q=>ne (L.ev y.row (F.high.mp q))⟩),hb hd,rfl⟩),bool_ne fun q=> ?_⟩,hz⟩
    obtain ⟨f,hf,hdom⟩:=mem_anyB q
    obtain ⟨g,rg,eg,pg,sg,hlow⟩:=fo.1 f hf
    obtain ⟨T',hT',F'⟩:=L.fld z (z47 hv hs)
    simp only [hT'.inj hz] at F'
    have bd:∀i,0<=g.getD i 0/\g.getD i 0<32768:=fun i=>⟨rg.pos i,by
     have:=get_le_sum rg i
     obtain ⟨_,_,_,_⟩:=L.small
     exact z168 sg hs this ‹_›⟩
    obtain ⟨l0,l1,l2,l3⟩:=dom_le F' (bd i0) (bd i1) (bd i2) (bd i3) hlow hdom
    have:=x.bare g rg eg pg (fun j=>by
     by_cases hj:j<n
     ·rcases L.cov j hj with rfl| rfl| rfl| rfl<;>assumption
     ·simp only [Row.beyond rg (z12 hj),Row.beyond z.row (z12 hj)];decide)
    exact z169 (this▸sg) hv
   rcases L.cov p hp with rfl| rfl| rfl| rfl
   ·exact key L.d0 F.neg0.mpr fun h=>mem_mrgB.mpr (.inl (mem_mrgB.mpr (.inl h)))
   ·exact key L.d1 F.neg1.mpr fun h=>mem_mrgB.mpr (.inl (mem_mrgB.mpr (.inr h)))
   ·refine key (L.d2 ?_) F.neg2.mpr fun h=>mem_mrgB.mpr (.inr (mem_mrgB.mpr (.inl h)))
    cases three with
    | false=>rfl
    | true=>exact absurd hp (Nat.not_lt.mpr (L.no2 rfl))
   ·exact key L.d3 F.neg3.mpr fun h=>mem_mrgB.mpr (.inr (mem_mrgB.mpr (.inr h)))
theorem none_above {s:Int}(h:∀R v,Alive E n false R v->v.sum≠s)(h0:1<=s):∀(d:Nat) R v,Alive E n false R v->v.sum≠s+d
 | 0,R,v,x=>by simpa using h R v x
 | d+1,R,v,x=>fun e=>by
  cases hx:x.reach with
  | unit hp=>have:=sum_unit hp;exact z170 this e h0
  | @step R v p y ne hp hd ho=>
   have:=none_above h h0 d R v (Alive.prev x y hp)
   exact z171 e (sum_add_unit y.row hp) ‹_›
theorem Lay.run (L:Lay E n i0 i1 i2 i3 D0 D1 D2 D3 K three):∀(k:Nat) (s:Int) (fr fd:List Nat),Stg E n i0 i1 i2 i3 s fr fd->0<s->s+k<=K->bfsB D0 D1 D2 D3 k fr fd=true->
  (∀R v,Alive E n false R v->v.sum<=K)/\∃fd:List Nat,fd.length<64/\∀R v,Alive E n false R v->Even E v->∃f∈fd,(f:Int)=lowv i0 i1 i2 i3 v
 | 0,s,fr,fd,G,h0,hs,h=>absurd (show false=true from h) (by decide)
 | k+1,s,[],fd,G,h0,hs,h=>by
  have lt:∀R v,Alive E n false R v->v.sum<s:=fun R v x=>by
   by_cases q:v.sum<s
   ·exact q
   ·have:=(none_above (fun R v x e=>by obtain ⟨S,hS,_⟩:=G.all R v x e;cases hS) (z172 h0)) (v.sum-s).toNat R v x
    exact (z173 this q).elim
  refine ⟨fun R v x=>by exact z174 hs (lt R v x),fd,?_,fun R v x e=>G.fall R v x e (lt R v x)⟩
  rw [<-lenB_eq]
  exact Nat.le_of_ble_eq_true h
 | k+1,s,S::fr,fd,G,h0,hs,h=>
  L.run k (s+1) _ _ (L.next G (z175 hs) h0) (z159 h0) (z176 hs) h
theorem Lay.zero (L:Lay E n i0 i1 i2 i3 D0 D1 D2 D3 K three)(hK:1<=K):Stg E n i0 i1 i2 i3 1 (frB three D0 D1 D2 D3) []:=by
 have cod:∀{p D:Nat},p<n->(∃t:Int,(D:Int)=lin4 E n i0 i1 i2 i3 (unitR n p)+340282366920938463463374607431768211456*t)->Cod E n i0 i1 i2 i3 (unitR n p) (addB D):=by
  intro p D hp ⟨t,ht⟩
  obtain ⟨T,hT,F⟩:=L.fld (.unit hp) (by rw [sum_unit hp];exact z177 hK)
  show Cod E n i0 i1 i2 i3 (unitR n p) ((170143779648513184865543545075408044032+D) % 340282366920938463463374607431768211456)
  exact (mod_step (S:=170143779648513184865543545075408044032) (D:=D) (L:=0) (by decide) ht (by exact (hT ..).trans (z178)) F.lt)▸hT
 have got:∀{p D S:Nat},p<n->(∃t:Int,(D:Int)=lin4 E n i0 i1 i2 i3 (unitR n p)+340282366920938463463374607431768211456*t)->S∈[addB D]->∃R v,Reach E n false R v/\v.sum=1/\Cod E n i0 i1 i2 i3 v S:=by
  intro p D S hp hD h
  rw [List.mem_singleton.mp h]
  exact ⟨_,_,.unit hp,sum_unit hp,cod hp hD⟩
 refine ⟨fun S hS=> ?_,fun R v x hv=> ?_,fun f hf=>absurd hf List.not_mem_nil,fun R v x e hv=> ?_⟩
 ·rcases mem_mrgB.mp hS with h| h
  ·rcases mem_mrgB.mp h with h| h
   ·exact got L.in0 L.d0 h
   ·exact got L.in1 L.d1 h
  ·rcases mem_mrgB.mp h with h| h
   ·cases three with
    | false=>exact got (L.in2 rfl) (L.d2 rfl) h
    | true=>exact absurd h List.not_mem_nil
   ·exact got L.in3 L.d3 h
 ·cases hx:x.reach with
  | @step R v p y ne hp hd ho=>
   have:=sum_add_unit y.row hp
   have:=y.len
   omega
  | @unit p hp=>
   rcases L.cov p hp with rfl| rfl| rfl| rfl
   ·exact ⟨_,mem_mrgB.mpr (.inl (mem_mrgB.mpr (.inl (.head _)))),cod hp L.d0⟩
   ·exact ⟨_,mem_mrgB.mpr (.inl (mem_mrgB.mpr (.inr (.head _)))),cod hp L.d1⟩
   ·cases three with
    | false=>exact ⟨_,mem_mrgB.mpr (.inr (mem_mrgB.mpr (.inl (.head _)))),cod hp (L.d2 rfl)⟩
    | true=>exact absurd hp (Nat.not_lt.mpr (L.no2 rfl))
   ·exact ⟨_,mem_mrgB.mpr (.inr (mem_mrgB.mpr (.inr (.head _)))),cod hp L.d3⟩
 ·have:=x.reach.len
  omega
theorem Least.alive (hE:∀e∈E,e.length=n){s:List Int}(l:Least E n s){K:Nat}(hK:∀R v,Alive E n false R v->v.sum<=K):∃R,Alive E n false R s:=by
 have al:∀k v,v∈(stF E n false k).1->∃R,Alive E n false R v:=by
  intro k
  induction k with
  | zero=>intro v hv;contradiction
  | succ k ih=>
   intro v hv
   rcases List.mem_append.mp (show v∈(stF E n false k).1++_ from hv) with h| h
   ·exact ih v h
   ·exact (Inv.at hE k).alive (List.mem_filter.mp h).1
 exact al K s (((Inv.at (once:=false) hE K).all s l (fun h=>by cases h)).1 (most_of hE hK l (fun h=>by cases h)))
theorem Lay.fits (L:Lay E n i0 i1 i2 i3 D0 D1 D2 D3 K three)(hn:0<n)(hp:(K+1)^(n-1)<=16000000){k:Nat}(hk:1+k<=K)(h:runB three k D0 D1 D2 D3=true):Fits6 E n:=by
 obtain ⟨h1,fd,h2,h3⟩:=L.run k 1 _ _ (L.zero (z32 hk)) (by decide) (z179 hk) h
 refine ⟨Fits.level L.len hn h1 hp (by obtain ⟨_,_,_,_⟩:=L.small;exact z180 ‹_›),fun l nd hl=> ?_⟩
 refine Nat.lt_of_le_of_lt (Nat.le_trans (Nat.le_of_eq (List.length_map (fun s=>lowv i0 i1 i2 i3 s)).symm) (Nat.le_trans (length_le_of_nodup (F:=fd.map fun (f:Nat)=>(f:Int)) ?_ ?_) (Nat.le_of_eq (List.length_map _)))) h2
 ·rw [List.Nodup,List.pairwise_map]
  refine List.Pairwise.imp_of_mem (fun {a b} ha hb ne e=>ne ?_) nd
  have la:=hl a ha
  have lb:=hl b hb
  have bd:∀{s},Least E n s->∀i,0<=s.getD i 0/\s.getD i 0<32768:=fun {s} ls i=>⟨ls.row.pos i,by
   obtain ⟨R,x⟩:=ls.alive L.len h1
   have:=get_le_sum ls.row i
   obtain ⟨_,_,_,_⟩:=L.small
   exact z152 (h1 R s x) ‹_› ‹_›⟩
  have a2:=bd la i2
  have a3:=bd la i3
  have b2:=bd lb i2
  unfold lowv at e
  simp only [horn,horn] at e
  obtain ⟨q0,e⟩:=dig2 (.half (bd la i0)) (.half (bd lb i0)) e
  obtain ⟨q1,e⟩:=dig2 (.half (bd la i1)) (.half (bd lb i1)) e
  obtain ⟨q2,q3⟩:=dig2 (.half a2) (.half b2) e
  refine ext_get (by exact (la.row.len ..).trans (lb.row.len ..).symm) fun j hj=> ?_
  rw [la.row.len] at hj
  rcases L.cov j hj with rfl| rfl| rfl| rfl
  ·exact q0
  ·exact q1
  ·exact q2
  ·exact q3
 ·intro y hy
  obtain ⟨s,hs,rfl⟩:=List.mem_map.mp hy
  obtain ⟨R,x⟩:=(hl s hs).alive L.len h1
  obtain ⟨f,hf,e⟩:=h3 R s x (hl s hs).even
  exact List.mem_map.mpr ⟨f,hf,e⟩
end
theorem unit_get {n p:Nat}(hp:p<n)(i:Nat):(unitR n p).getD i 0=if i=p then 1 else 0:=by
 by_cases hi:i<n
 ·exact unitR_get n p i hi
 ·rw [Row.beyond (Row.unit (n:=n) (p:=p)) (z12 hi),if_neg (z182 hp hi)]
section
variable {E:List (List Int)} {n i0 i1 i2 i3 p0 p1 p2 q01 q02 q12 r0 r1 r2 K:Nat} {three:Bool} {r:List Int}
theorem colB_eq {u a b c t:Nat}{A B C T s:Int}(ha:(a:Int)=65536+A)(hb:(b:Int)=65536+B)(hc:(c:Int)=65536+C)(ht:(t:Int)=65536*s+T):∃z:Int,((colB u a b c t:Nat):Int)=(u:Int)+(A*18446744073709551616+B*1208925819614629174706176+C*79228162514264337593543950336+T*5192296858534827628530496329220096)+340282366920938463463374607431768211456*z:=by
 have e:colB u a b c t=(u+((a*18446744073709551616+b*1208925819614629174706176)+(c*79228162514264337593543950336+(t*5192296858534827628530496329220096+340277174544850557195662124712720334848)))) % 340282366920938463463374607431768211456:=rfl
 rw [e]
 generalize hX:(u+((a*18446744073709551616+b*1208925819614629174706176)+(c*79228162514264337593543950336+(t*5192296858534827628530496329220096+340277174544850557195662124712720334848))))=X
 have hX':(X:Int)=(u:Int)+(A*18446744073709551616+B*1208925819614629174706176+C*79228162514264337593543950336+T*5192296858534827628530496329220096)+340282366920938463463374607431768211456*(s+1):=z186 ht ha hc hb hX
 refine ⟨s+1-(X/340282366920938463463374607431768211456:Nat),?_⟩
 exact z187 hX'
end
noncomputable def allB (p:Nat->Bool)(l:List Nat):Bool:=List.rec true (fun a _ ih=>Bool.rec false ih (p a)) l
theorem allB_mem {p:Nat->Bool}{a:Nat}:∀{l:List Nat},allB p l=true->a∈l->p a=true
 | [],_,m=>absurd m List.not_mem_nil
 | b::l,h,m=>by
  have h:(Bool.rec false (allB p l) (p b):Bool)=true:=h
  cases q:p b with
  | false=>rw [q] at h;exact absurd (show false=true from h) (by decide)
  | true=>
   rw [q] at h
   rcases List.mem_cons.mp m with rfl| m
   ·exact q
   ·exact allB_mem h m
section
variable {E:List (List Int)} {n:Nat}
theorem gp_small (hE:∀e∈E,e.length=n)(hm:E.length<=3){w:Nat}(hw:∀e∈E,∀i,-(w:Int)<=e.getD i 0/\e.getD i 0<=w){p:Nat}(hp:p<n)(i:Nat): -((3*(w*w):Nat):Int)<=gp E n i (unitR n p)/\gp E n i (unitR n p)<=(3*(w*w):Nat):=by
 by_cases hi:i<n
 ·have cm:∀{j},j<n->∀x∈col E n j,-(w:Int)<=x/\x<=w:=fun hj x hx=>by
   obtain ⟨e,he,rfl⟩:=List.mem_map.mp hx
   exact (dot_unit (hE e he) hj)▸hw e he _
  have:=dot_le (w:=w) (by exact (col_len ..).trans (col_len ..).symm) (cm hp) (cm hi)
  rw [col_len] at this
  have h3:E.length*(w*w)<=3*(w*w):=Nat.mul_le_mul_right _ hm
  show _<=dot (col E n p) _/\dot (col E n p) _<=_
  exact z198 this.1 this.2 h3
 ·rw [gp_none (z12 hi)]
  exact z199
end
theorem cross_le2 {a0 a1 b0 b1:Int}(h:a0*b1=a1*b0)(ha:0<=a0)(hb:0<=b0)(ha1:0<=a1)(hb1:0<=b1)(l:a0<=b0):(a0<=b0/\a1<=b1)\/(b0<=a0/\b1<=a1):=by
 by_cases q:b0<=0
 ·have:a0=0:=z231 ha q l
  have:b0=0:=z232 this l q
  exact z233 this ‹_›
 ·refine .inl ⟨l,Classical.byContradiction fun n=> ?_⟩
  have h1:a0*b1<=b0*b1:=Int.mul_le_mul_of_nonneg_right l hb1
  have h2:(b1+1)*b0<=a1*b0:=Int.mul_le_mul_of_nonneg_right (z128 n) hb
  rw [Int.add_mul,Int.one_mul,Int.mul_comm] at h2
  exact z234 h2 h h1 q
theorem dot2 {e v:List Int}(he:e.length=2)(hv:v.length=2):dot e v=e.getD 0 0*v.getD 0 0+e.getD 1 0*v.getD 1 0:=by
 rw [dot_eq_sumN (by rw [he,hv]),hv,sumN_succ,sumN_succ,sumN_zero,Int.zero_add]
theorem few2 {E:List (List Int)}(hE:∀e∈E,e.length=2){l:List (List Int)}(nd:l.Nodup)(hl:∀s∈l,Least E 2 s):l.length<=2:=by
 have ord:∀{a b},Least E 2 a->Least E 2 b->a.getD 0 0*b.getD 1 0=a.getD 1 0*b.getD 0 0->a.getD 0 0<=b.getD 0 0->a=b:=by
  intro a b la lb h hle
  have le:∀{x y:List Int},Row 2 x->Row 2 y->x.getD 0 0<=y.getD 0 0->x.getD 1 0<=y.getD 1 0->Le x y:=fun rx ry h0 h1 i=>by
   match i with
   | 0=>exact h0
   | 1=>exact h1
   | i+2=>rw [Row.beyond rx z235,Row.beyond ry z235];decide
  rcases cross_le2 h (la.row.pos 0) (lb.row.pos 0) (la.row.pos 1) (lb.row.pos 1) hle with ⟨h0,h1⟩| ⟨h0,h1⟩
  ·exact lb.least a la.row la.even la.pos (le la.row lb.row h0 h1)
  ·exact (la.least b lb.row lb.even lb.pos (le lb.row la.row h0 h1)).symm
 match l,nd,hl with
 | [],_,_=>exact Nat.zero_le _
 | [_],_,_=>exact Nat.le_succ 1
 | a::b::l,nd,hl=>
  have la:=hl a (.head _)
  have lb:=hl b (.tail _ (.head _))
  have ne:a≠b:=fun e=>by rw [List.nodup_cons,e] at nd;exact nd.1 (.head _)
  have cr:a.getD 0 0*b.getD 1 0≠a.getD 1 0*b.getD 0 0:=fun h=>ne (by
   rcases Int.le_total (a.getD 0 0) (b.getD 0 0) with q| q
   ·exact ord la lb h q
   ·exact (ord lb la (by rw [Int.mul_comm,<-h,Int.mul_comm]) q).symm)
  have zero:∀e∈E,e.getD 0 0=0/\e.getD 1 0=0:=fun e he=>by
   have h1:=Even.iff.mp la.even e he
   have h2:=Even.iff.mp lb.even e he
   rw [dot2 (hE e he) la.row.len] at h1
   rw [dot2 (hE e he) lb.row.len] at h2
   generalize e.getD 0 0=x at*
   generalize e.getD 1 0=y at*
   generalize a.getD 0 0=a0 at*
   generalize a.getD 1 0=a1 at*
   generalize b.getD 0 0=b0 at*
   generalize b.getD 1 0=b1 at*
   have d0:a0*b1-a1*b0≠0:=fun q=>cr (z236 q cr).elim
   have k1:x*(a0*b1-a1*b0)=(x*a0+y*a1)*b1-(x*b0+y*b1)*a1:=by grind
   have k2:y*(a0*b1-a1*b0)=(x*b0+y*b1)*a0-(x*a0+y*a1)*b0:=by grind
   rw [h1,h2,Int.zero_mul,Int.zero_mul,Int.sub_self] at k1 k2
   exact ⟨(Int.mul_eq_zero.mp k1).resolve_right d0,(Int.mul_eq_zero.mp k2).resolve_right d0⟩
  refine length_le_of_nodup (F:=[unitR 2 (0:Nat),unitR 2 (1:Nat)]) nd fun s hs=> ?_
  have ls:=hl s hs
  have ev:∀p:Nat,Even E (unitR 2 p):=fun p=>Even.iff.mpr fun e he=>by
   rw [dot2 (hE e he) (unitR_len _ _),(zero e he).1,(zero e he).2,Int.zero_mul,Int.zero_mul];rfl
  have get:∀{p},p<2->1<=s.getD p 0->unitR 2 (p:Nat)=s:=fun {p} hp h=>ls.least _ .unit (ev p) (by rw [sum_unit hp];decide) fun i=>by
   rw [unit_get hp]
   split
   ·rename_i e;rw [e];exact h
   ·exact ls.row.pos i
  have sm:=ls.pos
  rw [ls.row.sum,sumN_succ,sumN_succ,sumN_zero] at sm
  by_cases q:1<=s.getD 0 0
  ·rw [<-get (by decide) q];exact .head _
  ·rw [<-get (p:=1) (by decide) (z237 sm q)];exact .tail _ (.head _)
theorem few3 {E:List (List Int)}{n:Nat}(h3:n<=3)(hE:∀e∈E,e.length=n)(hm:E.length<=3)(hw:∀e∈E,∀x∈e,-20<=x/\x<=20){l:List (List Int)}(nd:l.Nodup)(hl:∀s∈l,Least E n s):l.length<64:=by
 obtain ⟨F,k,hs,hk,D,hK⟩:=basis n E
 have hF:=fun e he=>hE e (hs.subset he)
 have hw:=fun e he=>hw e (hs.subset he)
 have hl:=fun s h=>(hl s h).via hE hs hK
 rcases F with _| ⟨e,_| ⟨f,F⟩⟩
 ·exact count_sum (z397 h3) nd hl fun s hs=>sum_none (hl s hs)
 ·have D2:Dm (Ker n [e]) 2:=by
   have:k=0\/k=1\/k=2:=by simp at hk;exact z398 hk h3
   rcases this with rfl| rfl| rfl
   ·exact D.mono.mono
   ·exact D.mono
   ·exact D
  refine Nat.lt_of_le_of_lt (D2.count (k:=1) (B:=42) hF nd hl fun s hs i=>Int.le_trans (get_le_sum (hl s hs).row i) ?_) (by decide)
  refine most_of (once:=false) (K:=42) hF (fun R v x=> ?_) (hl s hs) fun q=>by contradiction
  have e1:([1]:List Int).map (fun a=>e.map (a*·))=[e]:=by simp
  exact level_line (w:=20) (hF e (.head _)) (fun y hy=>hw e (.head _) y hy) R v (e1▸x)
 ·have D1:Dm (Ker n (e::f::F)) 1:=by
   have:k=0\/k=1:=by simp at hk;exact z399 hk h3
   rcases this with rfl| rfl
   ·exact D.mono
   ·exact D
  exact few1 D1 hF nd hl
theorem count_at {l:List (List Int)}{i b:Nat}(nd:l.Nodup)(hb:∀s∈l,0<=s.getD i 0/\s.getD i 0<=b)(inj:∀s∈l,∀t∈l,s.getD i 0=t.getD i 0->s=t):l.length<=b+1:=by
 have:=length_le_of_nodup (l:=l.map fun s=>s.getD i 0) (F:=(List.range (b+1)).map fun (k:Nat)=>(k:Int)) (by
  rw [List.Nodup,List.pairwise_map]
  exact List.Pairwise.imp_of_mem (fun {s t} hs ht ne e=>ne (inj s hs t ht e)) nd) fun x hx=>by
  obtain ⟨s,hs,rfl⟩:=List.mem_map.mp hx
  have:=hb s hs
  exact List.mem_map.mpr ⟨(s.getD i 0).toNat,List.mem_range.mpr (z401 this.2),z374 this.1⟩
 rwa [List.length_map,List.length_map,List.length_range] at this
section
variable {E:List (List Int)} {n:Nat}
theorem Fits6.three (h3:n<=3)(F:Fits E n false)(hm:E.length<=3)(hw:∀e∈E,∀x∈e,-20<=x/\x<=20):Fits6 E n:=⟨F,fun l nd hl=>few3 h3 F.len hm hw nd hl⟩
theorem Fits6.small (hn:n=1\/n=2)(hE:∀e∈E,e.length=n)(hm:E.length<=3)(hw:∀e∈E,∀x∈e,-20<=x/\x<=20):Fits6 E n:=by
 rcases hn with rfl| rfl
 ·exact .three (by decide) (.size1 hE) hm hw
 ·exact .three (by decide) (.size2 hE hm hw) hm hw
theorem Fits6.line3 (hE:∀e∈E,e.length=3)(hm:E.length<=1)(hw:∀e∈E,∀x∈e,-5<=x/\x<=5):Fits6 E 3:=by
 refine .three (by decide) ?_ (z471 hm) fun e he x hx=>by have:=hw e he x hx;exact z472 this.1 this.2
 rcases ln01 hm with rfl| ⟨e,rfl⟩
 ·exact .none (by decide) (by decide)
 ·exact .one (w:=5) (hE e (.head _)) (by decide) (hw e (.head _)) (by decide)
end
noncomputable def g3B (x0 x1 y0 y1:Nat):Nat:=Nat.sub (Nat.add 65554 (Nat.add (Nat.mul x0 y0) (Nat.mul x1 y1))) (Nat.mul 3 (Nat.add (Nat.add x0 x1) (Nat.add y0 y1)))
noncomputable def r3B (x0 x1 y0 y1 z0 z1:Nat):Bool:=runB true 40 (colB 1 (g3B x0 x1 x0 x1) (g3B x0 x1 y0 y1) 65536 (g3B x0 x1 z0 z1)) (colB 65536 (g3B x0 x1 y0 y1) (g3B y0 y1 y0 y1) 65536 (g3B y0 y1 z0 z1)) 0 (colB 281474976710656 (g3B x0 x1 z0 z1) (g3B y0 y1 z0 z1) 65536 (g3B z0 z1 z0 z1))
noncomputable def t3B (x0 x1:Nat):Bool:=allB (fun y0=>allB (fun y1=>allB (fun z0=>allB (fun z1=>r3B x0 x1 y0 y1 z0 z1) [0,1,2,3,4,5,6]) [0,1,2,3,4,5,6]) [0,1,2,3,4,5,6]) [0,1,2,3,4,5,6]
theorem t3_33:t3B 3 3=true:=by decide+kernel
theorem t3_43:t3B 4 3=true:=by decide+kernel
theorem t3_44:t3B 4 4=true:=by decide+kernel
theorem t3_53:t3B 5 3=true:=by decide+kernel
theorem t3_54:t3B 5 4=true:=by decide+kernel
theorem t3_55:t3B 5 5=true:=by decide+kernel
theorem t3_63:t3B 6 3=true:=by decide+kernel
theorem t3_64:t3B 6 4=true:=by decide+kernel
theorem t3_65:t3B 6 5=true:=by decide+kernel
theorem t3_66:t3B 6 6=true:=by decide+kernel
theorem mem7 {x:Nat}(h:x<=6):x∈[0,1,2,3,4,5,6]:=by
 rcases ((z1211 h):x=0\/x=1\/x=2\/x=3\/x=4\/x=5\/x=6) with rfl| rfl| rfl| rfl| rfl| rfl| rfl<;>decide
theorem t3B_at {x0 x1 y0 y1 z0 z1:Nat}(h:t3B x0 x1=true)(a:y0<=6)(b:y1<=6)(c:z0<=6)(d:z1<=6):r3B x0 x1 y0 y1 z0 z1=true:=
 allB_mem (allB_mem (allB_mem (allB_mem h (mem7 a)) (mem7 b)) (mem7 c)) (mem7 d)
theorem t3_all {x0 x1:Nat}(h0:3<=x1)(h1:x1<=x0)(h2:x0<=6):t3B x0 x1=true:=by
 rcases ((z1212 h0 h2 h1):x0=3\/x0=4\/x0=5\/x0=6) with rfl| rfl| rfl| rfl
 ·obtain rfl:x1=3:=z1213 h0 h1
  exact t3_33
 ·rcases ((z1214 h0 h1):x1=3\/x1=4) with rfl| rfl
  ·exact t3_43
  ·exact t3_44
 ·rcases ((z1215 h0 h1):x1=3\/x1=4\/x1=5) with rfl| rfl| rfl
  ·exact t3_53
  ·exact t3_54
  ·exact t3_55
 ·rcases ((z1216 h0 h1):x1=3\/x1=4\/x1=5\/x1=6) with rfl| rfl| rfl| rfl
  ·exact t3_63
  ·exact t3_64
  ·exact t3_65
  ·exact t3_66
theorem gp_two {e f:List Int}(he:e.length=3)(hf:f.length=3){i j:Nat}(hi:i<3)(hj:j<3):gp [e,f] 3 i (unitR 3 j)=e.getD j 0*e.getD i 0+f.getD j 0*f.getD i 0:=by
 have h:∀k:Nat,k<3->wor [e,f] (unitR 3 k)=[e.getD k 0,f.getD k 0]:=fun k hk=>by
  show [dot e (unitR 3 k),dot f (unitR 3 k)]=_
  simp only [dot_unit he hk,dot_unit hf hk]
 show dot (wor [e,f] (unitR 3 j)) (wor [e,f] (unitR 3 i))=_
 simp only [h j hj,h i hi]
 simp [dot]
theorem g3B_eq {a b c d:Int}{x0 x1 y0 y1:Nat}(ha:(x0:Int)=a+3)(hb:(x1:Int)=b+3)(hc:(y0:Int)=c+3)(hd:(y1:Int)=d+3)(la:x0<=6)(lb:x1<=6)(lc:y0<=6)(ld:y1<=6):((g3B x0 x1 y0 y1:Nat):Int)=65536+(a*c+b*d):=by
 have e:g3B x0 x1 y0 y1=65554+(x0*y0+x1*y1)-3*((x0+x1)+(y0+y1)):=rfl
 rw [e,Int.natCast_sub (z1217 la ld lc lb)]
 simp only [Int.natCast_add,Int.natCast_mul]
 simp only [ha,hb,hc,hd]
 grind
theorem Fits6.cols {e f:List Int}(he:e.length=3)(hf:f.length=3)(hw:∀i,(-3<=e.getD i 0/\e.getD i 0<=3)/\(-3<=f.getD i 0/\f.getD i 0<=3)){a0 b0 a1 b1 a2 b2:Int}{x0 x1 y0 y1 z0 z1:Nat}
  (X0:(x0:Int)=a0+3) (X1:(x1:Int)=b0+3) (Y0:(y0:Int)=a1+3) (Y1:(y1:Int)=b1+3) (Z0:(z0:Int)=a2+3) (Z1:(z1:Int)=b2+3) (l0:x0<=6) (l1:x1<=6) (l2:y0<=6) (l3:y1<=6) (l4:z0<=6) (l5:z1<=6)
  (p00:e.getD 0 0*e.getD 0 0+f.getD 0 0*f.getD 0 0=a0*a0+b0*b0) (p01:e.getD 0 0*e.getD 1 0+f.getD 0 0*f.getD 1 0=a0*a1+b0*b1) (p02:e.getD 0 0*e.getD 2 0+f.getD 0 0*f.getD 2 0=a0*a2+b0*b2)
  (p11:e.getD 1 0*e.getD 1 0+f.getD 1 0*f.getD 1 0=a1*a1+b1*b1) (p12:e.getD 1 0*e.getD 2 0+f.getD 1 0*f.getD 2 0=a1*a2+b1*b2) (p22:e.getD 2 0*e.getD 2 0+f.getD 2 0*f.getD 2 0=a2*a2+b2*b2)
  (h:r3B x0 x1 y0 y1 z0 z1=true):Fits6 [e,f] 3:=by
 have hE:∀d∈[e,f],d.length=3:=fun d hd=>by
  rcases List.mem_cons.mp hd with rfl| hd
  ·exact he
  ·exact List.mem_singleton.mp hd▸hf
 have c01:=g3B_eq X0 X1 Y0 Y1 l0 l1 l2 l3
 have c02:=g3B_eq X0 X1 Z0 Z1 l0 l1 l4 l5
 have c12:=g3B_eq Y0 Y1 Z0 Z1 l2 l3 l4 l5
 have z3:((65536:Nat):Int)=65536+0:=rfl
 have n3:∀v,gp [e,f] 3 3 v=0:=gp_none (Nat.le_refl _)
 refine Lay.fits (E:=[e,f]) (n:=3) (i0:=0) (i1:=1) (i2:=3) (i3:=2) (K:=41) (k:=40) (three:=true) ⟨hE,by decide,by decide,by decide,fun q=>(by cases q),fun _=>Nat.le_refl _,by decide,⟨27,by decide,by decide,fun p hp i=> ?_⟩,?_,?_,fun q=>(by nomatch q),?_⟩ (by decide) (Nat.le_of_ble_eq_true rfl) (Nat.le_refl _) h
 ·exact (gp_small (E:=[e,f]) (w:=3) hE (show 2<=3 by decide) (fun d hd i=>by
   have:=hw i
   rcases List.mem_cons.mp hd with rfl| hd
   ·exact this.1
   ·exact (List.mem_singleton.mp hd)▸this.2) hp i)
 ·obtain ⟨z,q⟩:=(colB_eq (u:=1) (g3B_eq X0 X1 X0 X1 l0 l1 l0 l1) c01 z3 (s:=1) (T:=a0*a2+b0*b2) (by rw [c02];rfl))
  refine ⟨z,q.trans ?_⟩
  unfold lin4
  rw [n3,gp_two he hf (by decide) (by decide),gp_two he hf (by decide) (by decide),gp_two he hf (by decide) (by decide),p00,p01,p02]
  rfl
 ·obtain ⟨z,q⟩:=(colB_eq (u:=65536) c01 (g3B_eq Y0 Y1 Y0 Y1 l2 l3 l2 l3) z3 (s:=1) (T:=a1*a2+b1*b2) (by rw [c12];rfl))
  refine ⟨z,q.trans ?_⟩
  unfold lin4
  rw [n3,gp_two he hf (by decide) (by decide),gp_two he hf (by decide) (by decide),gp_two he hf (by decide) (by decide),p11,p12,Int.mul_comm (e.getD 1 0) (e.getD 0 0),Int.mul_comm (f.getD 1 0) (f.getD 0 0),p01]
  rfl
 ·obtain ⟨z,q⟩:=(colB_eq (u:=281474976710656) c02 c12 z3 (s:=1) (T:=a2*a2+b2*b2) (by rw [(g3B_eq Z0 Z1 Z0 Z1 l4 l5 l4 l5)];rfl))
  refine ⟨z,q.trans ?_⟩
  unfold lin4
  rw [n3,gp_two he hf (by decide) (by decide),gp_two he hf (by decide) (by decide),gp_two he hf (by decide) (by decide),p22,Int.mul_comm (e.getD 2 0) (e.getD 0 0),Int.mul_comm (f.getD 2 0) (f.getD 0 0),p02,Int.mul_comm (e.getD 2 0) (e.getD 1 0),Int.mul_comm (f.getD 2 0) (f.getD 1 0),p12]
  rfl
theorem Fits6.iso {e f:List Int}(he:e.length=3)(hf:f.length=3)(hw:∀i,(-3<=e.getD i 0/\e.getD i 0<=3)/\(-3<=f.getD i 0/\f.getD i 0<=3)){A B:Nat->Int}(hA:∀i,-3<=A i/\A i<=3)(hB:∀i,-3<=B i/\B i<=3)
  (h:∀i j,e.getD i 0*e.getD j 0+f.getD i 0*f.getD j 0=A i*A j+B i*B j) (h0:0<=B 0) (h1:B 0<=A 0):Fits6 [e,f] 3:=by
 have c:∀{F:Nat->Int},(∀i,-3<=F i/\F i<=3)->∀i,(((F i+3).toNat:Nat):Int)=F i+3/\(F i+3).toNat<=6:=fun hF i=>by have:=hF i;exact z1218 this.1 this.2
 exact Fits6.cols he hf hw (c hA 0).1 (c hB 0).1 (c hA 1).1 (c hB 1).1 (c hA 2).1 (c hB 2).1 (c hA 0).2 (c hB 0).2 (c hA 1).2 (c hB 1).2 (c hA 2).2 (c hB 2).2 (h 0 0) (h 0 1) (h 0 2) (h 1 1) (h 1 2) (h 2 2)
  (t3B_at (t3_all (z1219 h0) (z1220 h1) (z1221 (hA 0).2)) (c hA 1).2 (c hB 1).2 (c hA 2).2 (c hB 2).2)
theorem sgnOf (a:Int):∃s:Int,(s=1\/s= -1)/\0<=s*a:=by
 by_cases h:0<=a
 ·exact ⟨1,.inl rfl,z355 h⟩
 ·exact ⟨-1,.inr rfl,z1222 h⟩
theorem Fits6.two3 {e f:List Int}(he:e.length=3)(hf:f.length=3)(hw:∀i,(-3<=e.getD i 0/\e.getD i 0<=3)/\(-3<=f.getD i 0/\f.getD i 0<=3)):Fits6 [e,f] 3:=by
 obtain ⟨s,hs,s0⟩:=sgnOf (e.getD 0 0)
 obtain ⟨t,ht,t0⟩:=sgnOf (f.getD 0 0)
 have bA:∀i,-3<=s*e.getD i 0/\s*e.getD i 0<=3:=fun i=>by have:=(hw i).1;rcases hs with rfl| rfl<;>omega
 have bB:∀i,-3<=t*f.getD i 0/\t*f.getD i 0<=3:=fun i=>by have:=(hw i).2;rcases ht with rfl| rfl<;>omega
 have sA:∀i j,e.getD i 0*e.getD j 0=(s*e.getD i 0)*(s*e.getD j 0):=fun i j=>by
  rcases hs with rfl| rfl
  ·simp
  ·grind
 have sB:∀i j,f.getD i 0*f.getD j 0=(t*f.getD i 0)*(t*f.getD j 0):=fun i j=>by
  rcases ht with rfl| rfl
  ·simp
  ·grind
 by_cases q:t*f.getD 0 0<=s*e.getD 0 0
 ·exact Fits6.iso he hf hw (A:=fun i=>s*e.getD i 0) (B:=fun i=>t*f.getD i 0) bA bB (fun i j=>by rw [sA,sB]) t0 q
 ·exact Fits6.iso he hf hw (A:=fun i=>t*f.getD i 0) (B:=fun i=>s*e.getD i 0) bB bA (fun i j=>by simp only [sA,sB,Int.add_comm]) s0 (z1225 q)
noncomputable abbrev Disj (e f:List Int):Prop:=∀i,e.getD i 0=0\/f.getD i 0=0
section
variable {e f:List Int} {n:Nat} {once:Bool} {R:List (List Int)} {v:List Int}
theorem dot_apart (hf:f.length=v.length)(h:∀i,v.getD i 0≠0->f.getD i 0=0):dot f v=0:=by
 rw [dot_eq_sumN hf]
 have:(fun i=>f.getD i 0*v.getD i 0)=fun _=>0:=funext fun i=>by
  by_cases q:v.getD i 0=0
  ·rw [q,Int.mul_zero]
  ·rw [h i q,Int.zero_mul]
 rw [this,sumN_const0]
theorem wor_two {g:List Int}:wor [e,f] g=[dot e g,dot f g]:=rfl
theorem Reach.apart (he:e.length=n)(hf:f.length=n)(D:Disj e f)(x:Reach [e,f] n once R v):
  ((∀i,v.getD i 0≠0->f.getD i 0=0)/\Reach [e] n once R v)\/((∀i,v.getD i 0≠0->e.getD i 0=0)/\Reach [f] n once R v):=by
 induction x with
 | @unit p hp=>
  have h:∀i,(unitR n p).getD i 0≠0->i=p:=fun i q=>by
   rw [unit_get hp] at q
   exact Classical.byContradiction fun z=>q (if_neg z)
  rcases D p with q| q
  ·exact .inr ⟨fun i hi=>by rw [h i hi,q],.unit hp⟩
  ·exact .inl ⟨fun i hi=>by rw [h i hi,q],.unit hp⟩
 | @step R v p x ne hp hd ho ih=>
  have hl:=x.row.len
  have key:∀i,(addR v (unitR n p)).getD i 0≠0->v.getD i 0≠0\/i=p:=fun i q=>by
   rw [addR_get (by exact hl.trans (unitR_len ..).symm),unit_get hp] at q
   by_cases z:i=p
   ·exact .inr z
   ·rw [if_neg z,Int.add_zero] at q;exact .inl q
  simp only [wor_two,wor_two] at hd
  rcases ih with ⟨s,y⟩| ⟨s,y⟩
  ·have f0:=dot_apart (hf.trans hl.symm) s
   rw [f0] at hd
   have hd1:dot e v*dot e (unitR n p)<0:=by simpa [dot] using hd
   have ep:e.getD p 0≠0:=fun q=>by simp only [dot_unit he hp,q,Int.mul_zero] at hd1;exact absurd hd1 (by decide)
   have fp:=(D p).resolve_left ep
   refine .inl ⟨fun i hi=>(key i hi).elim (s i) fun z=>z▸fp,.step y (fun ev=>ne fun t ht=> ?_) hp ?_ ho⟩
   ·rw [wor_two,f0] at ht
    rcases List.mem_cons.mp ht with z| z
    ·exact ev t (z▸.head _)
    ·exact List.mem_singleton.mp z
   ·show dot [dot e v] [dot e (unitR n p)]<0
    simpa [dot] using hd1
  ·have e0:=dot_apart (he.trans hl.symm) s
   rw [e0] at hd
   have hd1:dot f v*dot f (unitR n p)<0:=by simpa [dot] using hd
   have fp:f.getD p 0≠0:=fun q=>by simp only [dot_unit hf hp,q,Int.mul_zero] at hd1;exact absurd hd1 (by decide)
   have ep:=(D p).resolve_right fp
   refine .inr ⟨fun i hi=>(key i hi).elim (s i) fun z=>z▸ep,.step y (fun ev=>ne fun t ht=> ?_) hp ?_ ho⟩
   ·rw [wor_two,e0] at ht
    rcases List.mem_cons.mp ht with z| z
    ·exact z
    ·exact ev t (List.mem_singleton.mp z▸.head _)
   ·show dot [dot f v] [dot f (unitR n p)]<0
    simpa [dot] using hd1
theorem sub_apart {g:List Int}(rg:Row n g)(le:Le g v)(s:∀i,v.getD i 0≠0->f.getD i 0=0):∀i,g.getD i 0≠0->f.getD i 0=0:=fun i hi=>s i fun z=>by
 have h2:=le i
 simp only [z] at h2
 exact hi (z1226 hi h2 (rg.pos i)).elim
theorem level_one {w:Nat}(he:e.length=n)(hw:∀x∈e,-(w:Int)<=x/\x<=w)(x:Alive [e] n once R v):v.sum<=(2*w+2:Nat):=by
 exact level_line (as:=[1]) he hw R v ((by simp:([1]:List Int).map (fun a=>e.map (a*·))=[e]).symm▸x)
theorem Alive.apart {w:Nat}(he:e.length=n)(hf:f.length=n)(D:Disj e f)(hw:∀x∈e,-(w:Int)<=x/\x<=w)(hw2:∀x∈f,-(w:Int)<=x/\x<=w)(x:Alive [e,f] n once R v):v.sum<=(2*w+2:Nat):=by
 rcases x.reach.apart he hf D with ⟨s,y⟩| ⟨s,y⟩
 ·refine level_one he hw ⟨y,fun g r ev p le=>x.bare g r (fun t ht=> ?_) p le⟩
  rw [wor_two,dot_apart (hf.trans r.len.symm) (sub_apart r le s)] at ht
  rcases List.mem_cons.mp ht with z| z
  ·exact ev t (z▸.head _)
  ·exact List.mem_singleton.mp z
 ·refine level_one hf hw2 ⟨y,fun g r ev p le=>x.bare g r (fun t ht=> ?_) p le⟩
  rw [wor_two,dot_apart (he.trans r.len.symm) (sub_apart r le s)] at ht
  rcases List.mem_cons.mp ht with z| z
  ·exact z
  ·exact ev t (List.mem_singleton.mp z▸.head _)
theorem Fits.apart (he:e.length=n)(hf:f.length=n)(h1:0<n)(h5:n<=5)(D:Disj e f)(hw:∀x∈e,-20<=x/\x<=20)(hw2:∀x∈f,-20<=x/\x<=20):Fits [e,f] n once:=
 Fits.level (K:=42) (fun d hd=>by
  rcases List.mem_cons.mp hd with rfl| hd
  ·exact he
  ·exact List.mem_singleton.mp hd▸hf) h1 (fun R v x=>Alive.apart (w:=20) he hf D hw hw2 x) (Nat.le_trans (Nat.pow_le_pow_right (by decide) (show n-1<=4 by exact z474 h5)) (Nat.le_of_ble_eq_true rfl))
theorem Least.apart (he:e.length=n)(hf:f.length=n)(D:Disj e f)(hw:∀x∈e,-20<=x/\x<=20)(hw2:∀x∈f,-20<=x/\x<=20){s:List Int}(l:Least [e,f] n s):((∀i,s.getD i 0≠0->f.getD i 0=0)/\Least [e] n s)\/((∀i,s.getD i 0≠0->e.getD i 0=0)/\Least [f] n s):=by
 refine Exists.elim (l.alive (fun d hd=>by
  rcases List.mem_cons.mp hd with rfl| hd
  ·exact he
  ·exact List.mem_singleton.mp hd▸hf) (K:=42) fun R v x=>Alive.apart (w:=20) he hf D hw hw2 x) fun R x=> ?_
 rcases x.reach.apart he hf D with ⟨a,_⟩| ⟨a,_⟩
 ·refine .inl ⟨a,l.row,fun t ht=>l.even t ?_,l.pos,fun g r ev p le=>l.least g r (fun t ht=> ?_) p le⟩
  ·rw [wor_two];exact List.mem_singleton.mp ht▸.head _
  ·rw [wor_two,dot_apart (hf.trans r.len.symm) (sub_apart r le a)] at ht
   rcases List.mem_cons.mp ht with z| z
   ·exact ev t (z▸.head _)
   ·exact List.mem_singleton.mp z
 ·refine .inr ⟨a,l.row,fun t ht=>l.even t ?_,l.pos,fun g r ev p le=>l.least g r (fun t ht=> ?_) p le⟩
  ·rw [wor_two];exact List.mem_singleton.mp ht▸.tail _ (.head _)
  ·rw [wor_two,dot_apart (he.trans r.len.symm) (sub_apart r le a)] at ht
   rcases List.mem_cons.mp ht with z| z
   ·exact z
   ·exact ev t (List.mem_singleton.mp z▸.head _)
theorem Least.join (hf:f.length=n){s:List Int}(a:∀i,s.getD i 0≠0->f.getD i 0=0)(l:Least [e] n s):Least [e,f] n s/\Least [f,e] n s:=by
 have ev:∀g,Row n g->Le g s->∀t,(t∈wor [e,f] g\/t∈wor [f,e] g)->Even [e] g->t=0:=fun g r le t ht h=>by
  simp only [wor_two,wor_two,(dot_apart (hf.trans r.len.symm) (sub_apart r le a))] at ht
  simp at ht
  have:=h (dot e g) (.head _)
  exact z1227 ht this
 have dn:∀g t,t∈wor [e] g->t∈wor [e,f] g/\t∈wor [f,e] g:=fun g t ht=>by
  have:t=dot e g:=List.mem_singleton.mp ht
  simp only [wor_two,wor_two,this]
  exact ⟨.head _,.tail _ (.head _)⟩
 exact ⟨⟨l.row,fun t ht=>ev s l.row (Le.refl s) t (.inl ht) l.even,l.pos,fun g r h p le=>l.least g r (fun t ht=>h t (dn g t ht).1) p le⟩,
  ⟨l.row,fun t ht=>ev s l.row (Le.refl s) t (.inr ht) l.even,l.pos,fun g r h p le=>l.least g r (fun t ht=>h t (dn g t ht).2) p le⟩⟩
end
noncomputable def wide (n l h:Nat)(x y:Int):List Int:=((List.replicate n (0:Int)).set l x).set h y
section
variable {n l h:Nat} {x y a b:Int}
theorem wide_len:(wide n l h x y).length=n:=by simp [wide]
theorem wide_get (hl:l<n)(hh:h<n)(i:Nat):(wide n l h x y).getD i 0=if i=h then y else if i=l then x else 0:=by
 unfold wide
 rw [List.getD_eq_getElem?_getD]
 by_cases q:i=h
 ·subst q;simp [hh]
 ·rw [if_neg q,List.getElem?_set_ne (Ne.symm q)]
  by_cases r:i=l
  ·subst r;simp [hl]
  ·rw [List.getElem?_set_ne (Ne.symm r),List.getElem?_replicate]
   split<;>rfl
theorem wide_row (hx:0<=x)(hy:0<=y):Row n (wide n l h x y):=.of wide_len fun z hz=>by
 rcases List.mem_or_eq_of_mem_set hz with hz| rfl
 ·rcases List.mem_or_eq_of_mem_set hz with hz| rfl
  ·rw [List.eq_of_mem_replicate hz];decide
  ·exact hx
 ·exact hy
theorem sumN_two (hl:l<n)(hh:h<n)(ne:l≠h)(g:Nat->Int):sumN n (fun i=>(if i=h then b else if i=l then a else 0)*g i)=a*g l+b*g h:=by
 simp only [(sumN_congr fun i _=>by
  by_cases q:i=h
  ·subst q
   rw [if_pos rfl,if_pos rfl,if_neg (Ne.symm ne)];simp
  ·rw [if_neg q,if_neg q]
   by_cases r:i=l
   ·rw [if_pos r,if_pos r];simp
   ·rw [if_neg r,if_neg r];simp:sumN n (fun i=>(if i=h then b else if i=l then a else 0)*g i)=sumN n (fun i=>(fun i=>a*g i) i*(if i=l then 1 else 0)+(fun i=>b*g i) i*if i=h then 1 else 0)),sumN_add,sumN_one hl,sumN_one hh]
theorem dot_wide (hl:l<n)(hh:h<n)(ne:l≠h){v:List Int}(hv:v.length=n):dot (wide n l h a b) v=a*v.getD l 0+b*v.getD h 0:=by
 rw [dot_eq_sumN (wide_len.trans hv.symm),hv]
 exact (sumN_congr fun i _=>by rw [wide_get hl hh]).trans (sumN_two hl hh ne fun i=>v.getD i 0)
theorem sum_wide (hl:l<n)(hh:h<n)(ne:l≠h)(r:Row n (wide n l h x y)):(wide n l h x y).sum=x+y:=by
 rw [r.sum]
 have:=sumN_two (a:=x) (b:=y) hl hh ne (fun _=>1)
 rw [Int.mul_one,Int.mul_one] at this
 exact this▸sumN_congr fun i _=>by exact (wide_get hl hh ..).trans (Int.mul_one ..).symm
theorem dot_pair {p q:Int}:dot [a,b] [p,q]=a*p+b*q:=by simp [dot]
theorem Least.wide (hl:l<n)(hh:h<n)(ne:l≠h){s:List Int}(L:Least [wide n l h a b] n s):(∃i,i<n/\i≠l/\i≠h/\s=unitR n i)\/(Least [[a,b]] 2 [s.getD l 0,s.getD h 0]/\s=Mine.wide n l h (s.getD l 0) (s.getD h 0)):=by
 have hs:=L.row.len
 by_cases q:∃i,i<n/\i≠l/\i≠h/\s.getD i 0≠0
 ·obtain ⟨i,hi,il,ih,nz⟩:=q
  refine .inl ⟨i,hi,il,ih,?_⟩
  refine (L.least _ (Row.unit) (fun t ht=> ?_) (by rw [sum_unit hi];decide) fun j=> ?_).symm
  ·have:t=dot (Mine.wide n l h a b) (unitR n i):=List.mem_singleton.mp ht
   rw [this,dot_unit wide_len hi,wide_get hl hh,if_neg ih,if_neg il]
  ·rw [unit_get hi]
   have:=L.row.pos j
   by_cases z:j=i
   ·rw [if_pos z,z];have:=L.row.pos i;exact z527 this nz
   ·rw [if_neg z];exact this
 ·have zero:=fun i il ih=>by
   by_cases hi:i<n
   ·exact Classical.byContradiction fun z=>q ⟨i,hi,il,ih,z⟩
   ·exact L.row.beyond (z12 hi)
  have es:=ext_get (hs.trans wide_len.symm) fun i hi=>by
   rw [wide_get hl hh]
   by_cases r:i=h
   ·rw [if_pos r,r]
   ·rw [if_neg r]
    by_cases t:i=l
    ·rw [if_pos t,t]
    ·rw [if_neg t];exact zero i t r
  have p0:=L.row.pos l
  have p1:=L.row.pos h
  refine .inr ⟨⟨.of rfl fun z hz=> ?_,fun t ht=> ?_,?_,fun g r ev p le=> ?_⟩,es⟩
  ·simp at hz;rcases hz with rfl| rfl<;>assumption
  ·have:=L.even (dot (Mine.wide n l h a b) s) (.head _)
   rw [dot_wide hl hh ne hs] at this
   have e2:t=dot [a,b] [s.getD l 0,s.getD h 0]:=List.mem_singleton.mp ht
   simp only [e2,dot_pair,this]
  ·have:=L.pos
   rw [es,sum_wide hl hh ne (es▸L.row)] at this
   simpa using this
  ·have hg:=r.len
   have g0:=r.pos 0
   have g1:=r.pos 1
   have l0:=le 0
   have l1:=le 1
   obtain ⟨u,v,rfl⟩:∃u v,g=[u,v]:=by
    rcases g with _| ⟨u,_| ⟨v,_| ⟨w,g⟩⟩⟩
    ·cases hg
    ·cases hg
    ·exact ⟨u,v,rfl⟩
    ·cases hg
   simp at g0 g1 l0 l1 p
   have rw_:Row n (Mine.wide n l h u v):=wide_row g0 g1
   rw [<-(L.least (Mine.wide n l h u v) rw_ (fun t ht=>by
    have e3:=ev (dot [a,b] [u,v]) (.head _)
    rw [dot_pair] at e3
    rw [(List.mem_singleton.mp ht:t=dot (Mine.wide n l h a b) (Mine.wide n l h u v)),dot_wide hl hh ne wide_len,wide_get hl hh,wide_get hl hh,if_neg ne,if_pos rfl,if_pos rfl,e3]) (by rw [sum_wide hl hh ne rw_];exact p) (fun i=>by
    rw [wide_get hl hh]
    by_cases z:i=h
    ·rw [if_pos z,z];exact l1
    ·rw [if_neg z]
     by_cases t:i=l
     ·rw [if_pos t,t];exact l0
     ·rw [if_neg t];exact L.row.pos i)),wide_get hl hh,wide_get hl hh,if_neg ne,if_pos rfl,if_pos rfl]
theorem Least.ofPair (hl:l<n)(hh:h<n)(ne:l≠h)(L:Least [[a,b]] 2 [x,y]):Least [Mine.wide n l h a b] n (Mine.wide n l h x y):=by
 have p0:=L.row.pos 0
 have p1:=L.row.pos 1
 have lp:=L.pos
 have ev:=L.even (dot [a,b] [x,y]) (.head _)
 rw [dot_pair] at ev
 simp at p0 p1 lp
 have rw_:Row n (Mine.wide n l h x y):=wide_row p0 p1
 refine ⟨rw_,fun t ht=> ?_,by rw [sum_wide hl hh ne rw_];exact lp,fun g r eg pg le=> ?_⟩
 ·have e2:t=dot (Mine.wide n l h a b) (Mine.wide n l h x y):=List.mem_singleton.mp ht
  rw [e2,dot_wide hl hh ne wide_len,wide_get hl hh,wide_get hl hh,if_neg ne,if_pos rfl,if_pos rfl,ev]
 ·have g0:=r.pos l
  have g1:=r.pos h
  have zero:=fun i il ih=>by
   have h1:=le i
   have h2:=r.pos i
   rw [wide_get hl hh,if_neg ih,if_neg il] at h1
   exact z467 h1 h2
  have es:=ext_get (r.len.trans wide_len.symm) fun i hi=>by
   rw [wide_get hl hh]
   by_cases q:i=h
   ·rw [if_pos q,q]
   ·rw [if_neg q]
    by_cases t:i=l
    ·rw [if_pos t,t]
    ·rw [if_neg t];exact zero i t q
  have ll:=le l
  have lh:=le h
  rw [wide_get hl hh,if_neg ne,if_pos rfl] at ll
  rw [wide_get hl hh,if_pos rfl] at lh
  have sg:g.sum=g.getD l 0+g.getD h 0:=by
   have:=sum_wide hl hh ne (es▸r)
   rw [<-es] at this
   exact this
  have e1:=eg (dot (Mine.wide n l h a b) g) (.head _)
  rw [dot_wide hl hh ne r.len] at e1
  injection (L.least [g.getD l 0,g.getD h 0] (.of rfl fun z hz=>by simp at hz;rcases hz with rfl| rfl<;>assumption) (fun t ht=>by
   simp only [(List.mem_singleton.mp ht:t=dot [a,b] [g.getD l 0,g.getD h 0]),dot_pair,e1]) (by simp only [List.sum_cons,List.sum_nil,Int.add_zero,<-sg];exact pg) (fun i=>by
   rcases i with _| _| i
   ·exact ll
   ·exact lh
   ·exact Int.le_refl 0)) with h1 h2
  injection h2 with h2
  rw [es,h1,h2]
end
structure Four (n l0 h0 l1 h1:Nat):Prop where
 a:l0<n
 b:h0<n
 c:l1<n
 d:h1<n
 ab:l0≠h0
 ac:l0≠l1
 ad:l0≠h1
 bc:h0≠l1
 bd:h0≠h1
 cd:l1≠h1
theorem Four.swap {n l0 h0 l1 h1:Nat}(F:Four n l0 h0 l1 h1):Four n l1 h1 l0 h0:=⟨F.c,F.d,F.a,F.b,F.cd,F.ac.symm,F.bc.symm,F.ad.symm,F.bd.symm,F.ab⟩
section
variable {n l0 h0 l1 h1:Nat} {a0 b0 a1 b1 x y:Int}
theorem Four.off (F:Four n l0 h0 l1 h1)(i:Nat)(h:(wide n l0 h0 x y).getD i 0≠0):(wide n l1 h1 a1 b1).getD i 0=0:=by
 rw [wide_get F.a F.b] at h
 rw [wide_get F.c F.d]
 by_cases q:i=h0
 ·exact (if_neg (by rw [q];exact F.bd) ..).trans (if_neg (by rw [q];exact F.bc) ..)
 ·rw [if_neg q] at h
  by_cases r:i=l0
  ·exact (if_neg (by rw [r];exact F.ad) ..).trans (if_neg (by rw [r];exact F.ac) ..)
  ·rw [if_neg r] at h;exact absurd rfl h
theorem Four.disj (F:Four n l0 h0 l1 h1):Disj (wide n l0 h0 a0 b0) (wide n l1 h1 a1 b1):=fun i=>by
 by_cases q:(wide n l0 h0 a0 b0).getD i 0=0
 ·exact .inl q
 ·exact .inr (F.off i q)
theorem least_unit {E:List (List Int)}{n i:Nat}(hE:∀e∈E,e.length=n)(hi:i<n)(h:∀e∈E,e.getD i 0=0):Least E n (unitR n i):=by
 have ru:Row n (unitR n i):=Row.unit
 refine ⟨ru,fun t ht=> ?_,by rw [sum_unit hi];decide,fun g r ev p le=> ?_⟩
 ·obtain ⟨e,he,rfl⟩:=List.mem_map.mp ht
  exact (dot_unit (hE e he) hi ..).trans (h e he ..)
 ·exact Le.eq r ru le (by rw [sum_unit hi];exact z172 p)
theorem unit_wide (F:Four n l0 h0 l1 h1):unitR n l0=wide n l0 h0 1 0/\unitR n h0=wide n l0 h0 0 1:=by
 constructor
 ·refine ext_get ((unitR_len ..).trans wide_len.symm) fun i hi=> ?_
  rw [unit_get F.a,wide_get F.a F.b]
  by_cases q:i=h0
  ·rw [if_pos q,if_neg (by rw [q];exact F.ab.symm)]
  ·exact (if_neg q ..).symm
 ·refine ext_get ((unitR_len ..).trans wide_len.symm) fun i hi=> ?_
  rw [unit_get F.b,wide_get F.a F.b]
  by_cases q:i=h0
  ·exact (if_pos q ..).trans (if_pos q ..).symm
  ·rw [if_neg q,if_neg q];split<;>rfl
theorem Four.side (F:Four n l0 h0 l1 h1){s:List Int}(a:∀i,s.getD i 0≠0->(wide n l1 h1 a1 b1).getD i 0=0)(L:Least [wide n l0 h0 a0 b0] n s):
  (∃x y,Least [[a0,b0]] 2 [x,y]/\s=wide n l0 h0 x y)\/(∃x y,Least [[a1,b1]] 2 [x,y]/\s=wide n l1 h1 x y)\/∃i,i<n/\(i≠l0/\i≠h0/\i≠l1/\i≠h1)/\s=unitR n i:=by
 rcases L.wide F.a F.b F.ab with ⟨i,hi,il,ih,rfl⟩| ⟨l2,es⟩
 ·have z:=a i (by rw [unit_get hi,if_pos rfl];decide)
  replace z:=(wide_get F.c F.d ..).symm.trans z
  have hE:∀e∈[[a1,b1]],e.length=2:=fun e he=>List.mem_singleton.mp he▸rfl
  by_cases q:i=h1
  ·replace z:=(if_pos q ..).symm.trans z
   refine .inr (.inl ⟨0,1,?_,by rw [q];exact (unit_wide F.swap).2⟩)
   have:=least_unit (E:=[[a1,b1]]) (i:=1) hE (by decide) fun e he=>by rw [List.mem_singleton.mp he];trivial
   exact this
  ·rw [if_neg q] at z
   by_cases r:i=l1
   ·rw [if_pos r] at z
    refine .inr (.inl ⟨1,0,?_,by rw [r];exact (unit_wide F.swap).1⟩)
    have:=least_unit (E:=[[a1,b1]]) (i:=0) hE (by decide) fun e he=>by rw [List.mem_singleton.mp he];trivial
    exact this
   ·exact .inr (.inr ⟨i,hi,⟨il,ih,r,q⟩,rfl⟩)
 ·exact .inl ⟨_,_,l2,es⟩
theorem wide_bnd {w:Int}(h0':0<=w)(ha: -w<=a0/\a0<=w)(hb: -w<=b0/\b0<=w):∀x∈wide n l0 h0 a0 b0,-w<=x/\x<=w:=fun z hz=>by
 rcases List.mem_or_eq_of_mem_set hz with hz| rfl
 ·rcases List.mem_or_eq_of_mem_set hz with hz| rfl
  ·rw [List.eq_of_mem_replicate hz];exact z443 h0'
  ·exact ha
 ·exact hb
theorem Four.least (F:Four n l0 h0 l1 h1)(A0: -20<=a0/\a0<=20)(B0: -20<=b0/\b0<=20)(A1: -20<=a1/\a1<=20)(B1: -20<=b1/\b1<=20){s:List Int}:Least [wide n l0 h0 a0 b0,wide n l1 h1 a1 b1] n s↔
  (∃x y,Least [[a0,b0]] 2 [x,y]/\s=wide n l0 h0 x y)\/(∃x y,Least [[a1,b1]] 2 [x,y]/\s=wide n l1 h1 x y)\/∃i,i<n/\(i≠l0/\i≠h0/\i≠l1/\i≠h1)/\s=unitR n i:=by
 constructor
 ·intro l
  rcases l.apart wide_len wide_len F.disj (wide_bnd (by decide) A0 B0) (wide_bnd (by decide) A1 B1) with ⟨a,L⟩| ⟨a,L⟩
  ·exact F.side a L
  ·rcases F.swap.side a L with h| h| ⟨i,hi,⟨q1,q2,q3,q4⟩,e⟩
   ·exact .inr (.inl h)
   ·exact .inl h
   ·exact .inr (.inr ⟨i,hi,⟨q3,q4,q1,q2⟩,e⟩)
 ·rintro (⟨x,y,L,rfl⟩| ⟨x,y,L,rfl⟩| ⟨i,hi,⟨q1,q2,q3,q4⟩,rfl⟩)
  ·exact (Least.join wide_len F.off (L.ofPair F.a F.b F.ab)).1
  ·exact (Least.join wide_len F.swap.off (L.ofPair F.c F.d F.cd)).2
  ·refine least_unit (fun e he=> ?_) hi fun e he=> ?_
   ·rcases List.mem_cons.mp he with rfl| he
    ·exact wide_len
    ·rw [List.mem_singleton.mp he];exact wide_len
   ·rcases List.mem_cons.mp he with rfl| he
    ·rw [wide_get F.a F.b,if_neg q2,if_neg q1]
    ·rw [List.mem_singleton.mp he,wide_get F.c F.d,if_neg q4,if_neg q3]
end
theorem len_three {α:Type}{p q r:α->Bool}:∀{l:List α},(∀x∈l,p x=true\/q x=true\/r x=true)->l.length<=(l.filter p).length+(l.filter q).length+(l.filter r).length
 | [],_=>by simp
 | a::l,h=>by
  have ih:=len_three (p:=p) (q:=q) (r:=r) (l:=l) fun x hx=>h x (.tail _ hx)
  have h1:∀f:α->Bool,(l.filter f).length<=((a::l).filter f).length/\(f a=true->(l.filter f).length+1<=((a::l).filter f).length):=fun f=>by
   rw [List.filter_cons]
   split
   ·exact ⟨by simp,fun _=>by simp⟩
   ·rename_i z;exact ⟨Nat.le_refl _,fun y=>absurd y z⟩
  have hp:=h1 p
  have hq:=h1 q
  have hr:=h1 r
  rcases (h a (.head _)) with z| z| z
  ·have:=hp.2 z;exact z1228 this hr.1 hq.1 ih
  ·exact z1229 (hq.2 z) hr.1 hp.1 ih
  ·exact z1230 (hr.2 z) hq.1 hp.1 ih
section
variable {n l0 h0 l1 h1:Nat} {a0 b0 a1 b1:Int}
theorem few_side (hl:l0<n)(hh:h0<n)(ne:l0≠h0){l:List (List Int)}(nd:l.Nodup)(h:∀s∈l,∃x y,Least [[a0,b0]] 2 [x,y]/\s=wide n l0 h0 x y):l.length<=2:=by
 have e:∀x y,[(wide n l0 h0 x y).getD l0 0,(wide n l0 h0 x y).getD h0 0]=[x,y]:=fun x y=>by
  rw [wide_get hl hh,wide_get hl hh,if_neg ne,if_pos rfl,if_pos rfl]
 have:=few2 (E:=[[a0,b0]]) (fun d hd=>List.mem_singleton.mp hd▸rfl) (l:=l.map fun s=>[s.getD l0 0,s.getD h0 0]) (by
  rw [List.Nodup,List.pairwise_map]
  refine List.Pairwise.imp_of_mem (fun {s t} hs ht ne2 q=>ne2 ?_) nd
  obtain ⟨x,y,_,rfl⟩:=h s hs
  obtain ⟨u,v,_,rfl⟩:=h t ht
  simp only [e,e] at q
  injection q with q1 q2
  injection q2 with q2
  rw [q1,q2]) (fun t ht=>by
  obtain ⟨s,hs,rfl⟩:=List.mem_map.mp ht
  obtain ⟨x,y,L,rfl⟩:=h s hs
  rw [e];exact L)
 rwa [List.length_map] at this
open Classical in
theorem Fits6.beside (F:Four n l0 h0 l1 h1)(h5:n<=5)(A0: -20<=a0/\a0<=20)(B0: -20<=b0/\b0<=20)(A1: -20<=a1/\a1<=20)(B1: -20<=b1/\b1<=20):Fits6 [wide n l0 h0 a0 b0,wide n l1 h1 a1 b1] n:=by
 refine ⟨Fits.apart wide_len wide_len (by have:=F.a;exact z743 this) h5 F.disj (wide_bnd (by decide) A0 B0) (wide_bnd (by decide) A1 B1),fun l nd hl=> ?_⟩
 have h:=len_three (l:=l) (p:=fun s=>decide (∃x y,Least [[a0,b0]] 2 [x,y]/\s=wide n l0 h0 x y)) (q:=fun s=>decide (∃x y,Least [[a1,b1]] 2 [x,y]/\s=wide n l1 h1 x y)) (r:=fun s=>decide (∃i,i<n/\(i≠l0/\i≠h0/\i≠l1/\i≠h1)/\s=unitR n i)) fun s hs=>by
  rcases (F.least A0 B0 A1 B1).mp (hl s hs) with z| z| z
  ·exact .inl (decide_eq_true z)
  ·exact .inr (.inl (decide_eq_true z))
  ·exact .inr (.inr (decide_eq_true z))
 have k1:=few_side (a0:=a0) (b0:=b0) F.a F.b F.ab (nd.sublist List.filter_sublist) fun s hs=>of_decide_eq_true (List.mem_filter.mp hs).2
 have k2:=few_side (a0:=a1) (b0:=b1) F.c F.d F.cd (nd.sublist List.filter_sublist) fun s hs=>of_decide_eq_true (List.mem_filter.mp hs).2
 have k3:=length_le_of_nodup (l:=l.filter fun s=>decide (∃i,i<n/\(i≠l0/\i≠h0/\i≠l1/\i≠h1)/\s=unitR n i)) (F:=(List.range n).map fun (i:Nat)=>unitR n i) (nd.sublist List.filter_sublist) fun s hs=>by
  obtain ⟨i,hi,_,rfl⟩:=of_decide_eq_true (List.mem_filter.mp hs).2
  exact List.mem_map.mpr ⟨i,List.mem_range.mpr hi,rfl⟩
 rw [List.length_map,List.length_range] at k3
 exact Nat.lt_of_le_of_lt h (z1231 k1 k2 h5 k3)
end
section
variable {n l0 h0 l1 h1:Nat} {a0 b0 a1 b1 x y x' y':Int}
theorem wide_inj (hl:l0<n)(hh:h0<n)(ne:l0≠h0)(e:wide n l0 h0 x y=wide n l0 h0 x' y'):x=x'/\y=y':=by
 have e1:=congrArg (fun l=>l.getD l0 0) e
 have e2:=congrArg (fun l=>l.getD h0 0) e
 rw [wide_get hl hh,wide_get hl hh,if_neg ne,if_neg ne,if_pos rfl,if_pos rfl] at e1
 rw [wide_get hl hh,wide_get hl hh,if_pos rfl,if_pos rfl] at e2
 exact ⟨e1,e2⟩
theorem Four.apart (F:Four n l0 h0 l1 h1)(e:wide n l0 h0 x y=wide n l1 h1 x' y'):x=0/\y=0:=by
 have e1:=congrArg (fun l=>l.getD l0 0) e
 have e2:=congrArg (fun l=>l.getD h0 0) e
 rw [wide_get F.a F.b,wide_get F.c F.d,if_neg F.ab,if_pos rfl,if_neg F.ad,if_neg F.ac] at e1
 rw [wide_get F.a F.b,wide_get F.c F.d,if_pos rfl,if_neg F.bd,if_neg F.bc] at e2
 exact ⟨e1,e2⟩
theorem unit_apart {i:Nat}(hl:l0<n)(hh:h0<n)(hi:i<n)(a:i≠l0)(b:i≠h0):wide n l0 h0 x y≠unitR n i:=fun e=>by
 have e1:=congrArg (fun l=>l.getD i 0) e
 rw [wide_get hl hh,unit_get hi,if_neg b,if_neg a,if_pos rfl] at e1
 contradiction
theorem Least.pair {r:List Int}{E:List (List Int)}(L:Least E 2 r):r=[r.getD 0 0,r.getD 1 0]/\¬(r.getD 0 0=0/\r.getD 1 0=0):=by
 have hl:=L.row.len
 have hp:=L.pos
 rcases r with _| ⟨p,_| ⟨q,_| ⟨t,r⟩⟩⟩
 ·contradiction
 ·nomatch hl
 ·refine ⟨rfl,fun ⟨z1,z2⟩=> ?_⟩
  replace z1:p=0:=z1
  replace z2:q=0:=z2
  rw [z1,z2] at hp;exact absurd hp (by decide)
 ·nomatch hl
noncomputable def laid (n l h:Nat)(o:List (List Int)):List (List Int):=o.map fun r=>wide n l h (r.getD 0 0) (r.getD 1 0)
theorem laid_mem (hl:l0<n)(hh:h0<n){o:List (List Int)}(m:∀s,s∈o↔Least [[a0,b0]] 2 s){s:List Int}:s∈laid n l0 h0 o↔∃x y,Least [[a0,b0]] 2 [x,y]/\s=wide n l0 h0 x y:=by
 constructor
 ·intro h
  obtain ⟨r,hr,rfl⟩:=List.mem_map.mp h
  have L:=(m r).mp hr
  exact ⟨r.getD 0 0,r.getD 1 0,(L.pair.1)▸L,rfl⟩
 ·rintro ⟨x,y,L,rfl⟩
  exact List.mem_map.mpr ⟨[x,y],(m _).mpr L,rfl⟩
theorem laid_nodup (hl:l0<n)(hh:h0<n)(ne:l0≠h0){o:List (List Int)}(nd:o.Nodup)(m:∀s,s∈o↔Least [[a0,b0]] 2 s):(laid n l0 h0 o).Nodup:=by
 unfold laid
 rw [List.Nodup,List.pairwise_map]
 refine List.Pairwise.imp_of_mem (fun {s t} hs ht q e=>q ?_) nd
 obtain ⟨e1,e2⟩:=wide_inj hl hh ne e
 rw [((m s).mp hs).pair.1,((m t).mp ht).pair.1,e1,e2]
theorem Four.due (F:Four n l0 h0 l1 h1)(A0: -20<=a0/\a0<=20)(B0: -20<=b0/\b0<=20)(A1: -20<=a1/\a1<=20)(B1: -20<=b1/\b1<=20){o0 o1:List (List Int)}(n0:o0.Nodup)(m0:∀s,s∈o0↔Least [[a0,b0]] 2 s)(n1:o1.Nodup)(m1:∀s,s∈o1↔Least [[a1,b1]] 2 s)
  {R:List (List Int)} (nR:R.Nodup) (mR:∀s,s∈R↔∃i,i<n/\(i≠l0/\i≠h0/\i≠l1/\i≠h1)/\s=unitR n i):
  (laid n l0 h0 o0++laid n l1 h1 o1++R).Nodup/\∀s,s∈laid n l0 h0 o0++laid n l1 h1 o1++R↔Least [wide n l0 h0 a0 b0,wide n l1 h1 a1 b1] n s:=by
 refine ⟨?_,fun s=> ?_⟩
 ·refine List.nodup_append.mpr ⟨List.nodup_append.mpr ⟨laid_nodup F.a F.b F.ab n0 m0,laid_nodup F.c F.d F.cd n1 m1,fun s hs t ht e=> ?_⟩,nR,fun s hs t ht e=> ?_⟩
  ·obtain ⟨x,y,L,rfl⟩:=(laid_mem F.a F.b m0).mp hs
   obtain ⟨x',y',L',rfl⟩:=(laid_mem F.c F.d m1).mp ht
   exact L.pair.2 (F.apart e)
  ·obtain ⟨i,hi,⟨q1,q2,q3,q4⟩,rfl⟩:=(mR t).mp ht
   rcases List.mem_append.mp hs with z| z
   ·obtain ⟨x,y,L,rfl⟩:=(laid_mem F.a F.b m0).mp z
    exact unit_apart F.a F.b hi q1 q2 e
   ·obtain ⟨x,y,L,rfl⟩:=(laid_mem F.c F.d m1).mp z
    exact unit_apart F.c F.d hi q3 q4 e
 ·rw [F.least A0 B0 A1 B1,List.mem_append,List.mem_append,laid_mem F.a F.b m0,laid_mem F.c F.d m1,mR,or_assoc]
theorem four_at {n u:Nat}(hn:n=4\/n=5)(hu:u<n):Four n ((u+2*0) % n) ((u+2*0+1) % n) ((u+2*1) % n) ((u+2*1+1) % n):=by
 have h:∀n:Fin 6,(n.val=4\/n.val=5)->∀u:Fin 6,u.val<n.val->∀a b c d,a=(u.val+2*0) % n.val->b=(u.val+2*0+1) % n.val->c=(u.val+2*1) % n.val->d=(u.val+2*1+1) % n.val->a≠b/\a≠c/\a≠d/\b≠c/\b≠d/\c≠d:=by
  intro n hn u hu a b c d ha hb hc hd
  subst ha hb hc hd
  revert n u
  decide
 have hp:0<n:=z1232 hn
 obtain ⟨q1,q2,q3,q4,q5,q6⟩:=h ⟨n,z1233 hn⟩ hn ⟨u,z1234 hu hn⟩ hu _ _ _ _ rfl rfl rfl rfl
 exact ⟨Nat.mod_lt _ hp,Nat.mod_lt _ hp,Nat.mod_lt _ hp,Nat.mod_lt _ hp,q1,q2,q3,q4,q5,q6⟩
theorem rest_at {n u:Nat}(hn:n=4\/n=5)(hu:u<n){i:Nat}(hi:i<n):(i≠(u+2*0) % n/\i≠(u+2*0+1) % n/\i≠(u+2*1) % n/\i≠(u+2*1+1) % n)↔n=5/\i=(u+4) % 5:=by
 have h:∀n:Fin 6,(n.val=4\/n.val=5)->∀u:Fin 6,u.val<n.val->∀i:Fin 6,i.val<n.val->((i.val≠(u.val+2*0) % n.val/\i.val≠(u.val+2*0+1) % n.val/\i.val≠(u.val+2*1) % n.val/\i.val≠(u.val+2*1+1) % n.val)↔n.val=5/\i.val=(u.val+4) % 5):=by
  decide
 exact h ⟨n,z1233 hn⟩ hn ⟨u,z1234 hu hn⟩ hu ⟨i,z1234 hi hn⟩ hi
end
end Mine
set_option maxRecDepth 10000
set_option maxHeartbeats 1000000
set_option Elab.async false
namespace Mine
open PySem PySem.Calls PyProof.Rows PySem.W
noncomputable abbrev B14:List Stmt:=PySem.Challenge.pw_uf050013_14.main.body
noncomputable abbrev Bd14:List Stmt:=((B14[22]?).map bodyOf).getD []
noncomputable abbrev N14:List (Str × Value):=[("range",.type "range"),("tuple",.type "tuple"),("zip",.type "zip"),("all",.builtin "all"),("any",.builtin "any"),("sum",.builtin "sum"),("max",.builtin "max"),("min",.builtin "min"),("isinstance",.builtin "isinstance"),("int",.type "int"),("bool",.type "bool"),("list",.type "list"),("len",.builtin "len"),("sorted",.builtin "sorted"),("enumerate",.type "enumerate"),("abs",.builtin "abs")]
noncomputable abbrev G14:List (Str × Int):=[("MOST_SIZE",5),("MOST_EQUATIONS",3),("MOST_WEIGHT",20)]
noncomputable abbrev il (xs:List Int):D:=.lst (xs.map D.int)
noncomputable def okW (n:Nat)(xs:List Int):Prop:=xs.length=n/\∀x∈xs,-20<=x/\x<=20
structure Ints (σ:Sto)(sd:SD)(xs:List Int):Prop where
 isL:sd.isL=true
 ds:sd.ds=xs.map D.int
 inv:sd.inv σ
section
variable {c:Cx} {σ:Sto} {X:Addr->Sto->Prop} {Q:D->Sto->Prop} {K:Frag} {C:Addr}
theorem is_whole_ {i lo hi:Int}{b:Bool}(T:Tp c B14 N14)(hb:decide (lo<=i/\i<=hi)=b)(h:Q (.bool b) σ):WF c (Room 1) "is_whole" [.int i,.int lo,.int hi] σ Q X:=by
 refine WF.byA 15 (ps:=["thing","low","high"]) T rfl rfl (bind3 fun _ _ _ _ _ _=>rfl) (by rfl) rfl fun A fr env g r hh hs fe=> ?_
 refine Sp.mk ?_
 refine At1.isi (b:=true) (by decide) rfl ?_
 refine Sp.mk ?_
 refine At1.isi (b:=false) (by decide) rfl ?_
 skip
 by_cases h1:lo<=i
 ·refine brT (decide_eq_true h1) ?_
  refine Sp.mk ?_
  simpa [h1,<-hb] using h
 ·refine brF (decide_eq_false h1) ?_
  refine Sp.mk ?_
  simpa [h1,<-hb] using h
theorem is_weights_ {sd:SD}{xs:List Int}{n:Nat}(T:Tp c B14 N14)(G:Gi c G14)(w:Ints σ sd xs)(ok:okW n xs)(hn:n<100)(h:Q (.bool true) σ):WF c (Room 2) "is_weights" [sd.d,.int n] σ Q X:=by
 refine WF.byG 16 (ps:=["thing","many"]) T G rfl rfl (bind2 fun _ _ _ _ _=>rfl) (by rfl) rfl fun A fr env g r hh hs fe=> ?_
 have hl:sd.ds.length=n:=by simp only [w.ds,List.length_map,ok.1]
 refine Sp.mk ?_
 refine At1.isiL w.isL w.inv ?_
 refine Sp.mk ?_
 refine At1.len w.inv (z626 hn hl) ?_
 skip
 rw [hl]
 skip
 refine brF (show ((n:Int) !=n)=false by simp) ?_
 refine Sp.mk ?_
 refine WIv.seqA rfl D.int hh w.ds w.inv (Turns.map (fun _=>.bool true) (fun _ _=>loc1 rfl) w.inv (by have:=ok.1;(simp only [SD.ds,List.length_map,List.length_range,List.length_zip,List.length_take,List.length_drop,List.length_append,List.length_replicate,List.length_cons,List.length_nil,sizeLine]<;>lia)) (fun x hx fr' cenv hc=> ?_) (.inl ?_))
 ·have g:=g.at (relab_of hc hs)
  (with_reducible refine WE.go (by assumption) ?_);refine Sp.mk ?_
  have:=ok.2 x hx
  refine WF.at (is_whole_ T (decide_eq_true (z628 this.2 this.1)) ?_) (by decide)
  refine Sp.mk ?_
  exact ⟨rfl,rfl⟩
 ·refine Sp.mk ?_
  refine At1.all (sd:=.lst _) (l:=xs.map fun _=>true) hh (by simp [SD.ds,Function.comp_def]) trivial ?_
  refine Sp.mk ?_
  rw [show (xs.map fun _=>true).all id=true by simp]
  exact h
end
section
variable {c:Cx} {σ:Sto} {X:Addr->Sto->Prop} {Q:D->Sto->Prop} {K:Frag} {C:Addr}
structure Eqs (σ:Sto)(n:Nat)(ws:List (SD × List Int)):Prop where
 each:∀w∈ws,Ints σ w.1 w.2/\okW n w.2
 few:ws.length<=3
theorem all_true {α:Type}(l:List α):(l.map fun _=>true).all id=true:=by simp
theorem is_system_ {sd:SD}{ws:List (SD × List Int)}{n:Nat}(T:Tp c B14 N14)(G:Gi c G14)(hL:sd.isL=true)(hi:sd.inv σ)(hd:sd.ds=ws.map fun w=>w.1.d)(E:Eqs σ n ws)(h1:1<=n)(h5:n<=5)(h:Q (.bool true) σ):WF c (Room 3) "is_system" [.int n,sd.d] σ Q X:=by
 refine WF.byG 17 (ps:=["size","equations"]) T G rfl rfl (bind2 fun _ _ _ _ _=>rfl) (by rfl) rfl fun A fr env g r hh hs fe=> ?_
 have hl:sd.ds.length=ws.length:=by rw [hd,List.length_map]
 have h3:=E.few
 refine Sp.mk ?_
 refine WF.at (is_whole_ T (decide_eq_true (z629 h1 h5)) ?_) (by decide)
 refine Sp.mk ?_
 refine At1.isiL hL hi ?_
 refine Sp.mk ?_
 refine At1.len hi (z630 hl h3) ?_
 skip
 rw [hl]
 skip
 refine brF (decide_eq_false (z631 h3)) ?_
 refine Sp.mk ?_
 refine WIv.seqA rfl (fun w:SD × List Int=>w.1.d) hh hd hi (Turns.map (fun _=>.bool true) (fun _ _=>loc1 rfl) hi (by (simp only [SD.ds,List.length_map,List.length_range,List.length_zip,List.length_take,List.length_drop,List.length_append,List.length_replicate,List.length_cons,List.length_nil,sizeLine]<;>lia)) (fun x hx fr' cenv hc=> ?_) (.inl ?_))
 ·have g:=g.at (relab_of hc hs)
  (with_reducible refine WE.go (by assumption) ?_);refine Sp.mk ?_
  refine WF.at (is_weights_ T G (E.each x hx).1 (E.each x hx).2 (z633 h5) ?_) (by decide)
  refine Sp.mk ?_
  exact ⟨rfl,rfl⟩
 ·refine Sp.mk ?_
  refine At1.all (sd:=.lst _) (l:=ws.map fun _=>true) hh (by simp [SD.ds,Function.comp_def]) trivial ?_
  refine Sp.mk ?_
  rw [all_true]
  exact h
noncomputable abbrev rl (rows:List (List Int)):D:=.lst (rows.map il)
noncomputable abbrev sy (C:Addr)(n:Nat)(rows:List (List Int)):D:=.sys C (.int n) (rl rows)
theorem init_ {sd:SD}{ws:List (SD × List Int)}{n:Nat}{dx:Addr}(T:Tp c B14 N14)(G:Gi c G14)(S:Ks c K C "System" Bd14)(hL:sd.isL=true)(hi:sd.inv ((dx,.flds [])::σ))(hd:sd.ds=ws.map fun w=>w.1.d)(E:Eqs ((dx,.flds [])::σ) n ws)
  (hi2:∀fs,sd.inv ((dx,.flds fs)::σ)/\∀w∈ws,w.1.inv ((dx,.flds fs)::σ)) (h1:1<=n) (h5:n<=5) (h:Q .none ((dx,.flds [("rules",rl (ws.map (·.2))),("size",.int n)])::σ)):WM c K C (Room 4) "__init__" [.own C dx,.int n,sd.d] ((dx,.flds [])::σ) Q X:=by
 refine WM.byG 0 (ps:=["self","size","equations"]) T G S rfl rfl (mbind3 fun _ _ _ _ _ _ _=>rfl) (by rfl) rfl fun A fr env g r hh hs fe=> ?_
 have h3:=E.few
 refine Sp.mk ?_
 refine WF.at (is_system_ T G hL hi hd E h1 h5 ?_) (by decide)
 refine Sp.mk ?_
 refine W1.attrS S ?_ (.inl rfl) (by with_unfolding_all rfl)
 (with_reducible refine WE.go (by assumption) ?_);refine Sp.mk ?_;(with_reducible refine WE.go (by assumption) ?_);refine Sp.mk ?_
 refine ⟨dx,[],σ,[],rfl,rfl,by decide,?_⟩
 (with_reducible refine WS.goK (by assumption) ?_);refine Sp.mk ?_
 refine W1.attrS S ?_ (.inr rfl) (by with_unfolding_all rfl)
 (with_reducible refine WE.go (by assumption) ?_);refine Sp.mk ?_
 refine WIv.seqA rfl (fun w:SD × List Int=>w.1.d) hh hd (hi2 _).1 (Turns.map (fun w=>il w.2) (fun _ _=>loc1 rfl) (hi2 _).1 (by (simp only [SD.ds,List.length_map,List.length_range,List.length_zip,List.length_take,List.length_drop,List.length_append,List.length_replicate,List.length_cons,List.length_nil,sizeLine]<;>lia)) (fun w hw fr' cenv hc=> ?_) (.inl ?_))
 ·have g:=g.at (relab_of hc hs)
  (with_reducible refine WE.go (by assumption) ?_);refine Sp.mk ?_
  have hw1:=(E.each w hw).1
  have hw2:=(E.each w hw).2.1
  refine At1.list ((hi2 _).2 w hw) (by rw [hw1.ds];(simp only [SD.ds,List.length_map,List.length_range,List.length_zip,List.length_take,List.length_drop,List.length_append,List.length_replicate,List.length_cons,List.length_nil,sizeLine]<;>lia)) (.inl ?_)
  refine Sp.mk ?_
  exact hw1.ds▸⟨rfl,rfl⟩
 ·refine Sp.mk ?_;(with_reducible refine WE.go (by assumption) ?_);refine Sp.mk ?_
  refine ⟨dx,[],σ,_,rfl,rfl,by exact Nat.le_add_left _ _,?_⟩
  (with_reducible refine WS.goK (by assumption) ?_);refine Sp.mk ?_
  have e:rl (ws.map (·.2))=.lst (ws.map fun w=>il w.2):=by simp [rl,Function.comp_def]
  exact (e▸h)
theorem new_ {sd:SD}{ws:List (SD × List Int)}{n:Nat}(T:Tp c B14 N14)(G:Gi c G14)(S:Ks c K C "System" Bd14)(hL:sd.isL=true)(hi:sd.inv σ)(hd:sd.ds=ws.map fun w=>w.1.d)(E:Eqs σ n ws)(h1:1<=n)(h5:n<=5)
  (h:Q (sy C n (ws.map (·.2))) σ) (dx:Addr):WM c K C (Room 4) "__init__" [.own C dx,.int n,sd.d] ((dx,.flds [])::σ) (NewQ C dx Q) (NewX dx X):=by
 have inv:∀{w:SD} {p:Addr × O},w.inv σ->w.inv (p::σ):=fun {w p} hw=>by
  cases w
  ·trivial
  ·trivial
  ·exact List.mem_cons_of_mem _ hw
 refine init_ T G S hL (inv hi) hd ⟨fun w hw=>⟨⟨(E.each w hw).1.isL,(E.each w hw).1.ds,inv (E.each w hw).1.inv⟩,(E.each w hw).2⟩,E.few⟩ (fun fs=>⟨inv hi,fun w hw=>inv (E.each w hw).1.inv⟩) h1 h5 ?_
 refine ⟨rfl,[],σ,_,.int n,rl (ws.map (·.2)),rfl,rfl,rfl,fun x n1 n2=> ?_,h⟩
 rw [lookup_cons_eq,if_neg n2,lookup_cons_eq,if_neg n1];rfl
end
section
variable {c:Cx} {σ:Sto} {X:Addr->Sto->Prop} {Q:D->Sto->Prop} {K:Frag} {C:Addr}
noncomputable abbrev small (ws:List Int):Prop:=∀x∈ws,x.natAbs<2^64
theorem unit_ {n p:Int}(T:Tp c B14 N14)(h0:0<=n)(h1:n<100)(h:Q (row ((List.range n.toNat).map fun (i:Nat)=>if ((i:Int)==p)=true then (1:Int) else 0)) σ):WF c (Room 1) "unit" [.int n,.int p] σ Q X:=by
 refine WF.byA 6 (ps:=["size","place"]) T rfl rfl (bind2 fun _ _ _ _ _=>rfl) (by rfl) rfl fun A fr env g r hh hs fe=> ?_
 refine Sp.mk ?_
 refine ⟨z795 h0,z796 h1,Turns.map (fun (i:Nat)=>.int (if ((i:Int)==p)=true then (1:Int) else 0)) (fun _ _=>loc1 rfl) trivial (by (simp only [SD.ds,List.length_map,List.length_range,List.length_zip,List.length_take,List.length_drop,List.length_append,List.length_replicate,List.length_cons,List.length_nil,sizeLine]<;>lia)) (fun x hx fr' cenv hc=> ?_) (.inl ?_)⟩
 ·have g:=g.at (relab_of hc hs)
  (with_reducible refine WE.go (by assumption) ?_);refine Sp.mk ?_
  refine At1.intB ?_
  refine Sp.mk ?_
  exact ⟨rfl,rfl⟩
 ·refine Sp.mk ?_
  refine At1.tuple (sd:=.lst _) trivial (by (simp only [SD.ds,List.length_map,List.length_range,List.length_zip,List.length_take,List.length_drop,List.length_append,List.length_replicate,List.length_cons,List.length_nil,sizeLine]<;>lia)) ?_
  refine Sp.mk ?_
  simpa [row,SD.ds,Function.comp_def] using h
theorem within_ {xs ys:List Int}(T:Tp c B14 N14)(hsz:xs.length<100)(h:Q (.bool ((xs.zip ys).all fun q=>decide (q.1<=q.2))) σ):WF c (Room 1) "within" [row xs,row ys] σ Q X:=by
 refine WF.byA 7 (ps:=["one","other"]) T rfl rfl (bind2 fun _ _ _ _ _=>rfl) (by rfl) rfl fun A fr env g r hh hs fe=> ?_
 refine Sp.mk ?_
 refine ⟨_,_,.tup _,.tup _,xs,ys,D.int,D.int,rfl,rfl,rfl,rfl,trivial,trivial,Turns.map (fun q=>.bool (decide (q.1<=q.2))) (fun _ _=>loc2 rfl rfl) ⟨trivial,trivial⟩ (by (simp only [SD.ds,List.length_map,List.length_range,List.length_zip,List.length_take,List.length_drop,List.length_append,List.length_replicate,List.length_cons,List.length_nil,sizeLine]<;>lia)) (fun x hx fr' cenv hc=> ?_) (.inl ?_)⟩
 ·have g:=g.at (relab_of hc hs)
  (with_reducible refine WE.go (by assumption) ?_);refine Sp.mk ?_
  exact ⟨rfl,rfl⟩
 ·refine Sp.mk ?_
  refine At1.all (sd:=.lst _) (l:=(xs.zip ys).map fun q=>decide (q.1<=q.2)) hh (by simp [SD.ds,Function.comp_def]) trivial ?_
  refine Sp.mk ?_
  simpa [Function.comp_def] using h
theorem added_ {xs ys:List Int}(T:Tp c B14 N14)(hsz:xs.length<100)(h:Q (row ((xs.zip ys).map fun q=>q.1+q.2)) σ):WF c (Room 1) "added" [row xs,row ys] σ Q X:=by
 refine WF.byA 8 (ps:=["one","other"]) T rfl rfl (bind2 fun _ _ _ _ _=>rfl) (by rfl) rfl fun A fr env g r hh hs fe=> ?_
 refine Sp.mk ?_
 refine ⟨_,_,.tup _,.tup _,xs,ys,D.int,D.int,rfl,rfl,rfl,rfl,trivial,trivial,Turns.map (fun q=>.int (q.1+q.2)) (fun _ _=>loc2 rfl rfl) ⟨trivial,trivial⟩ (by (simp only [SD.ds,List.length_map,List.length_range,List.length_zip,List.length_take,List.length_drop,List.length_append,List.length_replicate,List.length_cons,List.length_nil,sizeLine]<;>lia)) (fun x hx fr' cenv hc=> ?_) (.inl ?_)⟩
 ·have g:=g.at (relab_of hc hs)
  (with_reducible refine WE.go (by assumption) ?_);refine Sp.mk ?_
  exact ⟨rfl,rfl⟩
 ·refine Sp.mk ?_
  refine At1.tuple (sd:=.lst _) trivial (by (simp only [SD.ds,List.length_map,List.length_range,List.length_zip,List.length_take,List.length_drop,List.length_append,List.length_replicate,List.length_cons,List.length_nil,sizeLine]<;>lia)) ?_
  refine Sp.mk ?_
  simpa [row,SD.ds,Function.comp_def] using h
theorem by_sum_ {xs:List Int}(T:Tp c B14 N14)(h:Q (keyD xs) σ):WF c (Room 1) "by_sum" [row xs] σ Q X:=by
 refine WF.byA 9 (ps:=["row"]) T rfl rfl (bind1 fun _ _ _ _=>rfl) (by rfl) rfl fun A fr env g r hh hs fe=> ?_
 refine Sp.mk ?_
 refine At1.sum (sd:=.tup _) (l:=xs) hh rfl trivial ?_
 refine Sp.mk ?_
 exact h
theorem ranked_ {rows:List (List Int)}(T:Tp c B14 N14)(h64:rows.length<64)(h:∀out:List (List Int),out.Perm rows->out.Pairwise keyLe->QL Q (out.map row) σ):WF c (Room 3) "ranked" [.lst (rows.map row)] σ Q X:=by
 refine WF.byA 10 (ps:=["rows"]) T rfl rfl (bind1 fun _ _ _ _=>rfl) (by rfl) rfl fun A fr env g r hh hs fe=> ?_
 refine Sp.mk ?_
 refine WE.sorted T (n:=0) r (by with_unfolding_all exact kindOf_of (by assumption) (by rfl)) (by rfl) (by with_unfolding_all exact kindOf_of (by assumption) (by rfl)) (isDef_dfn T rfl) ?_
 (with_reducible refine WE.go (by assumption) ?_);refine Sp.mk ?_
 exact ⟨.lst _,rows,rfl,rfl,rfl,trivial,h64,fun r hr=>by_sum_ T ⟨rfl,rfl⟩,fun out a b=>(h out a b).sp⟩
theorem times_ {sd sd2:SD}{ws xs:List Int}(T:Tp c B14 N14)(hd:sd.ds=ws.map D.int)(hi:sd.inv σ)(hd2:sd2.ds=xs.map D.int)(hi2:sd2.inv σ)(hs1:∀q∈ws.zip xs,IntMulOk q.1 q.2)(hl:ws.length<100)(h:Q (.int (dot ws xs)) σ):WF c (Room 1) "times" [sd.d,sd2.d] σ Q X:=by
 refine WF.byA 19 (ps:=["weights","row"]) T rfl rfl (bind2 fun _ _ _ _ _=>rfl) (by rfl) rfl fun A fr env g r hh hs fe=> ?_
 refine Sp.mk ?_
 refine ⟨_,_,sd,sd2,ws,xs,D.int,D.int,rfl,rfl,hd,hd2,hi,hi2,Turns.map (fun q=>.int (q.1*q.2)) (fun _ _=>loc2 rfl rfl) ⟨hi,hi2⟩ (by (simp only [SD.ds,List.length_map,List.length_range,List.length_zip,List.length_take,List.length_drop,List.length_append,List.length_replicate,List.length_cons,List.length_nil,sizeLine]<;>lia)) (fun q hq fr' cenv hc=> ?_) (.inl ?_)⟩
 ·have g:=g.at (relab_of hc hs)
  (with_reducible refine WE.go (by assumption) ?_);refine Sp.mk ?_
  refine WB.mul (hs1 q hq) ?_
  refine Sp.mk ?_
  exact ⟨rfl,rfl⟩
 ·refine Sp.mk ?_
  refine At1.sum (sd:=.lst _) (l:=(ws.zip xs).map fun q=>q.1*q.2) hh (by simp [SD.ds,Function.comp_def]) trivial ?_
  refine Sp.mk ?_
  exact h
theorem worths_ {rows:List (List Int)}{xs:List Int}(T:Tp c B14 N14)(hr:∀r∈rows,small r/\r.length<100)(hl:rows.length<100)(h:QL Q (rows.map fun r=>.int (dot r xs)) σ):WF c (Room 2) "worths" [rl rows,row xs] σ Q X:=by
 refine WF.byA 20 (ps:=["equations","row"]) T rfl rfl (bind2 fun _ _ _ _ _=>rfl) (by rfl) rfl fun A fr env g r hh hs fe=> ?_
 refine Sp.mk ?_
 refine WIv.seqA rfl (sd:=.lst _) il hh rfl trivial (Turns.map (fun r=>.int (dot r xs)) (fun _ _=>loc1 rfl) trivial (by (simp only [SD.ds,List.length_map,List.length_range,List.length_zip,List.length_take,List.length_drop,List.length_append,List.length_replicate,List.length_cons,List.length_nil,sizeLine]<;>lia)) (fun w hw fr' cenv hc=> ?_) h.sp)
 have g:=g.at (relab_of hc hs)
 (with_reducible refine WE.go (by assumption) ?_);refine Sp.mk ?_
 refine WF.at (times_ (sd:=.lst _) (sd2:=.tup _) T rfl trivial rfl trivial (fun q hq=>mulOk_left ((hr w hw).1 _ (List.of_mem_zip hq).1)) (hr w hw).2 ?_) (by decide)
 refine Sp.mk ?_
 exact ⟨rfl,rfl⟩
end
section
variable {c:Cx} {σ:Sto} {X:Addr->Sto->Prop} {Q:D->Sto->Prop} {K:Frag} {C:Addr}
theorem unitN_ {n p:Nat}(T:Tp c B14 N14)(h1:n<100)(h:Q (row (unitR n p)) σ):WF c (Room 1) "unit" [.int n,.int p] σ Q X:=unit_ T z289 (z800 h1) h
theorem worthsN_ {E:List (List Int)}{xs:List Int}(T:Tp c B14 N14)(hr:∀r∈E,small r/\r.length<100)(hl:E.length<100)(h:QL Q ((wor E xs).map D.int) σ):WF c (Room 2) "worths" [rl E,row xs] σ Q X:=
 worths_ T hr hl (by unfold wor at h;rw [List.map_map] at h;exact h)
theorem addedN_ {xs ys:List Int}(T:Tp c B14 N14)(hsz:xs.length<100)(h:Q (row (addR xs ys)) σ):WF c (Room 1) "added" [row xs,row ys] σ Q X:=added_ T hsz h
theorem withinN_ {xs ys:List Int}(T:Tp c B14 N14)(hsz:xs.length<100)(h:Q (.bool (inR xs ys)) σ):WF c (Room 1) "within" [row xs,row ys] σ Q X:=within_ T hsz h
theorem lst_ne {l:List (List Int)}:(!PyData.eqv (.list (l.map fun r=>.tuple (r.map .int))) (.list []))= !l.isEmpty:=by
 cases l<;>rfl
theorem ins_len (l:List (List Int))(f:List Int):l.length<=(ins l f).length:=by
 unfold ins;split
 ·exact Nat.le_refl _
 ·simp
theorem foldl_ins_len:∀(fs l:List (List Int)),l.length<=(fs.foldl ins l).length
 | [],l=>Nat.le_refl _
 | f::fs,l=>Nat.le_trans (ins_len l f) (foldl_ins_len fs _)
theorem foldl_part {fs gs l:List (List Int)}:(fs.foldl ins l).length<=((fs++gs).foldl ins l).length:=by rw [List.foldl_append];exact foldl_ins_len gs _
theorem take_next {α:Type}{l:List α}{k:Nat}{x:α}(h:l[k]? =some x):l.take (k+1)=l.take k++[x]:=by
 simp only [List.take_add_one,h];rfl
theorem cands_snoc {E:List (List Int)}{n:Nat}{once:Bool}{found rs:List (List Int)}{r:List Int}:cands E n once found (rs++[r])=cands E n once found rs++(List.range n).filterMap fun p=>cand E n once found r p:=by
 unfold cands;simp
theorem cands_pre {E:List (List Int)}{n:Nat}{once:Bool}{found op:List (List Int)}{w:List Int}{i p:Nat}(hk:op[i]? =some w):∃gs,cands E n once found op=(cands E n once found (op.take i)++((List.range n).take p).filterMap fun q=>cand E n once found w q)++gs:=by
 refine Exists.elim (List.getElem?_eq_some_iff.mp hk) fun hi hw=> ?_
 refine ⟨((List.range n).drop p).filterMap (fun q=>cand E n once found w q)++cands E n once found (op.drop (i+1)),?_⟩
 have e:op=op.take i++w::op.drop (i+1):=by
  simp only [<-hw,<-List.drop_eq_getElem_cons hi,List.take_append_drop]
 conv=>lhs;rw [e]
 unfold cands
 simp only [List.flatMap_append,List.flatMap_cons]
 conv=>lhs;rw [<-List.take_append_drop p (List.range n),List.filterMap_append]
 simp only [List.append_assoc,List.take_append_drop]
noncomputable abbrev fwV (E:List (List Int))(n:Nat)(o:Bool)(a:Addr):Vars:=[("found",.ref a),("columns",.lst ((List.range n).map fun (i:Nat)=>il (wor E (unitR n i)))),("equations",rl E),("size",.int n),("once",.bool o)]
theorem fewest_ {E:List (List Int)}{n:Nat}{once:Bool}(T:Tp c B14 N14)(F:Fits E n once)(hr:∀r∈E,small r/\r.length<100)(hl:E.length<100)(hn:n<100)(h1:1<=n)
  (h:∀found:List (List Int),found.Nodup->(∀s,s∈found↔Least E n s/\(once=true->s.getD (n-1) 0<2))->found.length<=16000000->Q (.lst (found.map row)) σ):WF c (Room 3) "fewest" [rl E,.int n,.bool once] σ Q X:=by
 refine WF.byA 21 (ps:=["equations","size","once"]) T rfl rfl (bind3 fun _ _ _ _ _ _=>rfl) (by rfl) rfl fun A fr env g r hh hs fe=> ?_
 refine Sp.mk ?_
 refine ⟨z653,z801 hn,Turns.map (fun (i:Nat)=>il (wor E (unitR n i))) (fun _ _=>loc1 rfl) trivial (by (simp only [SD.ds,List.length_map,List.length_range,List.length_zip,List.length_take,List.length_drop,List.length_append,List.length_replicate,List.length_cons,List.length_nil,sizeLine]<;>lia)) (fun x hx fr' cenv hc=> ?_) (.inl ?_)⟩
 ·have g:=g.at (relab_of hc hs)
  (with_reducible refine WE.go (by assumption) ?_);refine Sp.mk ?_
  refine WF.at (unitN_ T hn ?_) (by decide)
  refine Sp.mk ?_
  refine WF.at (worthsN_ T hr hl (.inl ⟨rfl,rfl⟩)) (by decide)
 refine Sp.mk ?_
 refine .inr fun a ha=> ?_
 refine Sp.mk ?_
 refine ⟨z653,z801 hn,Turns.map (fun (i:Nat)=>row (unitR n i)) (fun _ _=>loc1 rfl) trivial (by (simp only [SD.ds,List.length_map,List.length_range,List.length_zip,List.length_take,List.length_drop,List.length_append,List.length_replicate,List.length_cons,List.length_nil,sizeLine]<;>lia)) (fun x hx fr' cenv hc=> ?_) (.inl ?_)⟩
 ·have g:=g.at (relab_of hc hs)
  (with_reducible refine WE.go (by assumption) ?_);refine Sp.mk ?_
  refine WF.at (unitN_ T hn ?_) (by decide)
  refine Sp.mk ?_
  exact ⟨rfl,rfl⟩
 refine Sp.mk ?_
 refine Exists.elim (F.ends) fun Kk hK=> ?_
 refine W1.whileA rfl fe (fun k m' σ'=>∃j σx,j+k=Kk/\σ'=σx++(a,.lst ((stF E n once j).1.map row))::σ/\Hs m' (("front",.lst ((stF E n once j).2.map row))::fwV E n once a)) Kk ⟨0,[],z803,rfl,?_⟩ ?_
 ·rw [show (stF E n once 0).2.map row=List.map (fun (i:Nat)=>row (unitR n i)) (List.range ((n:Int)).toNat) by simp [stF,Function.comp_def]]
  exact Hs.lit rfl
 rintro k m' σ' ⟨j,σx,hj,rfl,hv⟩
 obtain ⟨fo,hfo⟩:∃fo,fo=(stF E n once j).1:=⟨_,rfl⟩
 obtain ⟨fn,hfn⟩:∃fn,fn=(stF E n once j).2:=⟨_,rfl⟩
 rw [<-hfn] at hv
 rw [<-hfo]
 (with_reducible refine WT.base (by assumption) ?_;refine WT.go (by assumption) ?_);refine Sp.mk ?_
 refine .inl ?_
 refine Sp.mk ?_
 refine WB.neD r (.of (Py.lst (n:=3) PyAll.rows)) (.of (Py.lst (n:=1) .nil)) ?_
 refine Sp.mk ?_
 rw [lst_ne]
 have hlen:=F.len
 by_cases hfe:fn=[]
 ·subst hfe
  refine brF rfl ?_
  refine WS.forget (σ':=(a,.lst (fo.map row))::σ) (List.sublist_append_right _ _) ?_
  refine WS.cons (W1.ret (WE.freeze ?_))
  (with_reducible refine WE.base (by assumption) ?_;refine WE.go (by assumption) ?_);refine Sp.mk ?_
  have I:=Inv.at (once:=once) hlen j
  rw [<-hfn,<-hfo] at I
  obtain ⟨i1,i2⟩:=I.done
  exact ⟨a,_,[],σ,rfl,rfl,Sp.mk (h fo i1 i2 (by rw [hfo];exact F.found j))⟩
 ·have hfb:fn.isEmpty=false:=by cases fn with
   | nil=>exact absurd rfl hfe
   | cons=>rfl
  have hjK:j<Kk:=by
   rcases Nat.lt_or_ge j Kk with q| q
   ·exact q
   ·exact absurd (hfn.trans (hK j q)) hfe
  have hrow:∀x∈fn,x.length=n:=fun x hx=>by
   have I:=Inv.at (once:=once) hlen j
   rw [<-hfn] at I
   obtain ⟨⟨R,hR⟩,_⟩:=I.reach x hx
   exact hR.row.len
  have hfoL:∀x∈fo,x.length=n:=fun x hx=>by
   have I:=Inv.at (once:=once) hlen j
   rw [<-hfo] at I
   exact (I.least x hx).1.row.len
  have s1:=F.front j
  rw [<-hfn] at s1
  have s2:=F.found (j+1)
  have s3:=F.front (j+1)
  have e1:(stF E n once (j+1)).1=foundN E fo fn:=by rw [hfo,hfn];rfl
  have e2:(stF E n once (j+1)).2=frontN E n once fo fn:=by rw [hfo,hfn];rfl
  rw [e1] at s2
  rw [e2] at s3
  refine brT (by rw [hfb];rfl) ?_
  refine WS.forget (σ':=(a,.lst (fo.map row))::σ) (List.sublist_append_right _ _) ?_
  (with_reducible refine WS.base (by assumption) ?_;refine WS.goN (by assumption) ?_);refine Sp.mk ?_
  refine .inr fun b hb=> ?_
  refine Sp.mk ?_
  refine WIv.seqA rfl (sd:=.lst _) row hh rfl trivial ?_
  refine Loop.of (fun i m' σ'=>σ'=(b,.lst (((fn.take i).filter (isOpen E)).map row))::(a,.lst ((fo++(fn.take i).filter fun r=> !isOpen E r).map row))::σ/\Hs m' (("open_rows",.ref b)::fwV E n once a)) (fun _ _=>kinds1 (by with_unfolding_all exact Or.inl (kindOf_of (by assumption) (by rfl)))) ⟨by simp,Hs.lit rfl⟩ (fun _ _ _ _=>trivial) (fun i w m' σ' hk hL fr'=> ?_) (fun m' σ' hL=> ?_)
  ·obtain ⟨rfl,hv⟩:=hL
   have hw:=List.mem_of_getElem? hk
   have hlt:i<fn.length:=(List.getElem?_eq_some_iff.mp hk).1
   (with_reducible refine WS.base (Hs.both (by assumption) _) ?_;refine WS.goN (by assumption) ?_);refine Sp.mk ?_
   refine WF.at (worthsN_ T hr hl (.inl ?_)) (by decide)
   refine Sp.mk ?_
   refine WIv.seqA rfl (sd:=.lst _) D.int hh rfl trivial (Turns.map (fun x=>.bool (x !=0)) (fun _ _=>loc1 rfl) trivial (by simp only [wor];(simp only [SD.ds,List.length_map,List.length_range,List.length_zip,List.length_take,List.length_drop,List.length_append,List.length_replicate,List.length_cons,List.length_nil,sizeLine]<;>lia)) (fun x hx fr' cenv hc=> ?_) (.inl ?_))
   ·have g:=g.at (relab_of hc hs)
    (with_reducible refine WE.go (by assumption) ?_);refine Sp.mk ?_
    exact ⟨rfl,rfl⟩
   refine Sp.mk ?_
   refine At1.any (sd:=.lst _) (l:=(wor E w).map (· !=0)) hh (by simp [SD.ds,Function.comp_def]) trivial ?_
   skip
   have eo:((wor E w).map (· !=0)).any id=isOpen E w:=by simp [isOpen,List.any_map,Function.comp_def]
   rw [eo,take_next hk,List.filter_append,List.filter_append]
   by_cases ho:isOpen E w=true
   ·have f1:[w].filter (isOpen E)=[w]:=by simp [ho]
    have f2:[w].filter (fun r=> !isOpen E r)=[]:=by simp [ho]
    rw [f1,f2,List.append_nil,ho]
    refine Sp.mk ?_
    refine ⟨.ref b _,rfl,rfl,List.mem_cons_self,?_⟩
    refine Sp.mk ?_
    have hle:((fn.take i).filter (isOpen E)).length<=i:=Nat.le_trans (List.length_filter_le _ _) (by simp;exact z648)
    refine At1.append (σ1:=[]) (by (simp only [SD.ds,List.length_map,List.length_range,List.length_zip,List.length_take,List.length_drop,List.length_append,List.length_replicate,List.length_cons,List.length_nil,sizeLine]<;>lia)) ?_
    refine Sp.mk ?_
    refine ⟨by simp,Hs.lit rfl⟩
   ·have ho:isOpen E w=false:=by simpa using ho
    have f1:[w].filter (isOpen E)=[]:=by simp [ho]
    have f2:[w].filter (fun r=> !isOpen E r)=[w]:=by simp [ho]
    rw [f1,f2,List.append_nil,ho]
    refine Sp.mk ?_
    refine ⟨.ref a _,rfl,rfl,List.mem_cons_of_mem _ List.mem_cons_self,?_⟩
    refine Sp.mk ?_
    have hle:fo.length+((fn.take i).filter fun r=> !isOpen E r).length<=16000000:=by
     unfold foundN at s2
     rw [List.length_append] at s2
     have:=(List.Sublist.filter (fun r=> !isOpen E r) (List.take_sublist i fn)).length_le
     exact z805 s2 this
    refine At1.append (σ1:=[(b,_)]) (by (simp only [SD.ds,List.length_map,List.length_range,List.length_zip,List.length_take,List.length_drop,List.length_append,List.length_replicate,List.length_cons,List.length_nil,sizeLine]<;>lia)) ?_
    refine Sp.mk ?_
    refine ⟨by simp,Hs.lit rfl⟩
  ·obtain ⟨rfl,hv⟩:=hL
   rw [List.take_length]
   (with_reducible refine WS.base (by assumption) ?_;refine WS.goK (by assumption) ?_);refine Sp.mk ?_;(with_reducible refine WE.go (by assumption) ?_);refine Sp.mk ?_
   have e3:fo++fn.filter (fun r=> !isOpen E r)=foundN E fo fn:=rfl
   rw [e3]
   have hfd:∀x∈foundN E fo fn,x.length=n:=fun x hx=>by
    rcases List.mem_append.mp hx with z| z
    ·exact hfoL x z
    ·exact hrow x (List.mem_filter.mp z).1
   have s4:((cands E n once (foundN E fo fn) (fn.filter (isOpen E))).foldl ins []).length<=16000000:=s3
   have hop:∀x∈fn.filter (isOpen E),x.length=n:=fun x hx=>hrow x (List.mem_filter.mp hx).1
   have hopl:(fn.filter (isOpen E)).length<=16000000:=Nat.le_trans (List.length_filter_le _ _) s1
   have e4:frontN E n once fo fn=(cands E n once (foundN E fo fn) (fn.filter (isOpen E))).foldl ins []:=rfl
   generalize foundN E fo fn=fd at*
   generalize fn.filter (isOpen E)=op at*
   refine WE.dict0 T.good fun e he=> ?_
   refine Sp.mk ?_;refine Sp.mk ?_
   refine WIv.seqA rfl (sd:=.ref b _) row hh rfl (List.mem_cons_of_mem _ List.mem_cons_self) ?_
   refine Loop.of (fun i m' σ'=>σ'=(e,.rows ((cands E n once fd (op.take i)).foldl ins []))::(b,.lst (op.map row))::(a,.lst (fd.map row))::σ/\Hs m' (("open_rows",.ref b)::("later",.ref e)::fwV E n once a)) (fun _ _=>kinds1 (by with_unfolding_all exact Or.inl (kindOf_of (by assumption) (by rfl)))) ⟨by simp [cands],Hs.lit rfl⟩ (fun _ _ _ hL=>by rw [hL.1];exact List.mem_cons_of_mem _ List.mem_cons_self) (fun i w m' σ' hk hL fr'=> ?_) (fun m' σ' hL=> ?_)
   ·obtain ⟨rfl,hv⟩:=hL
    have hw:=List.mem_of_getElem? hk
    have hwl:=hop w hw
    have hlt:i<op.length:=(List.getElem?_eq_some_iff.mp hk).1
    (with_reducible refine WS.base (Hs.both (by assumption) _) ?_;refine WS.goN (by assumption) ?_);refine Sp.mk ?_
    refine WF.at (worthsN_ T hr hl (.inl ?_)) (by decide)
    refine Sp.mk ?_
    refine ⟨z653,z801 hn,?_⟩
    simp only [Int.toNat_natCast]
    refine Loop.of (fun p m' σ'=>σ'=(e,.rows ((cands E n once fd (op.take i)++((List.range n).take p).filterMap fun q=>cand E n once fd w q).foldl ins []))::(b,.lst (op.map row))::(a,.lst (fd.map row))::σ/\Hs m' (("open_rows",.ref b)::("later",.ref e)::("worth",il (wor E w))::("row",row w)::fwV E n once a)) (fun _ _=>kinds1 (by with_unfolding_all exact Or.inl (kindOf_of (by assumption) (by rfl)))) ⟨by simp,Hs.lit rfl⟩ (fun _ _ _ hL=>trivial) (fun p pl m' σ' hp hL fr'=> ?_) (fun m' σ' hL=> ?_)
    ·obtain ⟨rfl,hv⟩:=hL
     have hpl:p<n:=by have:=(List.getElem?_eq_some_iff.mp hp).1;simpa using this
     have hpe:pl=p:=by rw [List.getElem?_range hpl] at hp;cases hp;rfl
     subst hpe
     (with_reducible refine WS.base (Hs.both (by assumption) _) ?_;refine WS.goN (by assumption) ?_);refine Sp.mk ?_
     refine WF.at (unitN_ T hn ?_) (by decide)
     refine Sp.mk ?_
     refine WF.at (addedN_ T (z807 hn hwl) ?_) (by decide)
     refine Sp.mk ?_;(with_reducible refine WS.goK (by assumption) ?_);refine Sp.mk ?_
     have tk:(List.range n).take (pl+1)=(List.range n).take pl++[pl]:=take_next (by rw [List.getElem?_range hpl])
     have hfl:(addR w (unitR n pl)).length=n:=addR_len hwl (unitR_len _ _)
     have hlast:(SD.tup ((addR w (unitR n pl)).map D.int)).ds[idx (-1) (SD.tup ((addR w (unitR n pl)).map D.int)).ds.length]? =some (.int ((addR w (unitR n pl)).getD (n-1) 0)):=by
      simp only [SD.ds,List.length_map,idx,hfl]
      rw [if_pos (by exact z784),show ((-1:Int)+n).toNat=n-1 by exact z808,List.getElem?_map,List.getD_eq_getElem?_getD,List.getElem?_eq_getElem (z809 hpl hfl)];rfl
     refine WSb.at (sd:=.lst _) rfl trivial (by simp only [SD.ds];rw [List.getElem?_map,List.getElem?_range hpl];rfl) (z810 hn hpl) ?_
     refine Sp.mk ?_
     refine WF.at (times_ (sd:=.lst _) (sd2:=.lst _) T rfl trivial rfl trivial (fun q hq=>mulOk_right ?_) (by simp only [wor,List.length_map];exact hl) ?_) (by decide)
     ·have hq2:=(List.of_mem_zip hq).2
      unfold wor at hq2
      obtain ⟨ee,he1,he2⟩:=List.mem_map.mp hq2
      rw [<-he2,dot_unit (hlen ee he1) hpl]
      have hpe:pl<ee.length:=by rw [hlen ee he1];exact hpl
      rw [List.getD_eq_getElem?_getD,List.getElem?_eq_getElem hpe]
      exact (hr ee he1).1 _ (List.getElem_mem _)
     skip
     have fin:cand E n once fd w pl=none->(e,O.rows ((cands E n once fd (op.take i)++((List.range n).take pl).filterMap fun q=>cand E n once fd w q).foldl ins []))::(b,.lst (op.map row))::(a,.lst (fd.map row))::σ=(e,.rows ((cands E n once fd (op.take i)++((List.range n).take (pl+1)).filterMap fun q=>cand E n once fd w q).foldl ins []))::(b,.lst (op.map row))::(a,.lst (fd.map row))::σ:=fun hc=>by rw [tk,List.filterMap_append];simp [hc]
     by_cases hA:dot (wor E w) (wor E (unitR n pl))<0
     ·refine brT (decide_eq_true hA) ?_
      by_cases hO:once=true->(addR w (unitR n pl)).getD (n-1) 0<2
      ·refine brJ ?_ fun eo hP=> ?_
       case refine_2=>
        refine Sp.mk ?_
        refine WSb.item (sd:=.tup _) trivial z781 z782 (by simp only [SD.ds,List.length_map];exact z811 hpl hfl) hlast ?_
        exact brT (decide_eq_true (hO (by simpa using eo))) hP
       refine Sp.mk ?_
       refine WIv.seqA rfl (sd:=.ref a _) row hh rfl (List.mem_cons_of_mem _ (List.mem_cons_of_mem _ List.mem_cons_self)) (Turns.map (fun g=>.bool (inR g (addR w (unitR n pl)))) (fun _ _=>loc1 rfl) (List.mem_cons_of_mem _ (List.mem_cons_of_mem _ List.mem_cons_self)) (by (simp only [SD.ds,List.length_map,List.length_range,List.length_zip,List.length_take,List.length_drop,List.length_append,List.length_replicate,List.length_cons,List.length_nil,sizeLine]<;>lia)) (fun o ho fr' cenv hc=> ?_) (.inl ?_))
       ·have g:=g.at (relab_of hc hs)
        have:=hfd o ho
        (with_reducible refine WE.go (by assumption) ?_);refine Sp.mk ?_
        refine WF.at (withinN_ T (z807 hn this) ⟨rfl,rfl⟩) (by decide)
       refine Sp.mk ?_
       refine At1.any (sd:=.lst _) (l:=fd.map fun g=>inR g (addR w (unitR n pl))) hh (by simp [SD.ds,Function.comp_def]) trivial ?_
       skip
       have eo:(fd.map fun g=>inR g (addR w (unitR n pl))).any id=fd.any fun g=>inR g (addR w (unitR n pl)):=by simp [List.any_map,Function.comp_def]
       rw [eo]
       by_cases hin:(fd.any fun g=>inR g (addR w (unitR n pl)))=true
       ·rw [hin]
        have hc:cand E n once fd w pl=none:=by unfold cand;rw [if_neg (fun q=>by rw [hin] at q;exact absurd q.2.2 (by simp))]
        refine Sp.mk ?_
        exact ⟨fin hc,Hs.lit rfl⟩
       ·have hin:(fd.any fun g=>inR g (addR w (unitR n pl)))=false:=by simpa using hin
        rw [hin]
        have hc:cand E n once fd w pl=some (addR w (unitR n pl)):=by unfold cand;rw [if_pos ⟨hA,hO,hin⟩]
        refine Sp.mk ?_
        refine W1.setRow (n:=2) r ?_ (by with_unfolding_all rfl)
        (with_reducible refine WE.go (by assumption) ?_);refine Sp.mk ?_
        refine ⟨rfl,?_⟩
        (with_reducible refine WE.go (by assumption) ?_);refine Sp.mk ?_;(with_reducible refine WE.go (by assumption) ?_);refine Sp.mk ?_
        obtain ⟨gs,hgs⟩:=cands_pre (E:=E) (n:=n) (once:=once) (found:=fd) (p:=pl) hk
        refine ⟨e,_,_,[],_,rfl,rfl,rfl,?_,?_⟩
        ·rw [hgs] at s4
         exact Nat.le_trans foldl_part (Nat.le_trans s4 (by decide))
        ·(with_reducible refine WS.goK (by assumption) ?_);refine Sp.mk ?_
         refine ⟨by rw [tk,List.filterMap_append];simp [hc,List.foldl_append],Hs.lit rfl⟩
      ·have hq:once=true/\¬(addR w (unitR n pl)).getD (n-1) 0<2:=by
        cases once with
        | false=>exact absurd (fun z=>by cases z) hO
        | true=>exact ⟨rfl,fun z=>hO fun _=>z⟩
       refine brF (by rw [hq.1];rfl) ?_
       refine Sp.mk ?_
       refine WSb.item (sd:=.tup _) trivial z781 z782 (by simp only [SD.ds,List.length_map];exact z811 hpl hfl) hlast ?_
       refine brF (decide_eq_false hq.2) ?_
       refine Sp.mk ?_
       exact ⟨fin (by unfold cand;rw [if_neg fun q=>hO q.2.1]),Hs.lit rfl⟩
     ·refine brF (decide_eq_false hA) ?_
      refine Sp.mk ?_
      exact ⟨fin (by unfold cand;rw [if_neg fun q=>hA q.1]),Hs.lit rfl⟩
    ·obtain ⟨rfl,hv⟩:=hL
     (with_reducible refine WS.base (by assumption) ?_;refine WS.goK (by assumption) ?_);refine Sp.mk ?_
     refine ⟨?_,Hs.lit rfl⟩
     rw [take_next hk,cands_snoc,List.take_length]
   ·obtain ⟨rfl,hv⟩:=hL
    rw [List.take_length]
    (with_reducible refine WS.base (by assumption) ?_;refine WS.goK (by assumption) ?_);refine Sp.mk ?_
    refine At1.listRows List.mem_cons_self hh (Nat.le_trans s4 (by decide)) (.inl ?_)
    refine Sp.mk ?_
    refine ⟨k-1,z812 hj hjK,j+1,[_,_],z813 hj hjK,by rw [e1];rfl,?_⟩
    rw [e2,e4];exact Hs.lit rfl
end
structure Lst (E:List (List Int))(n:Nat)(out:List (List Int)):Prop where
 srt:out.Pairwise fun x y=>keyLt x y=true
 mem:∀s,s∈out↔Least E n s
 few:out.length<64
theorem Lst.of {E:List (List Int)}{n:Nat}{found out:List (List Int)}(nd:found.Nodup)(hm:∀s,s∈found↔Least E n s)(hl:found.length<64)(hp:out.Perm found)(hs:out.Pairwise keyLe):Lst E n out where
 srt:=by
  refine (List.pairwise_and_iff.mpr ⟨hs,(hp.nodup_iff.mpr nd)⟩).imp fun {x y} h=> ?_
  cases q:keyLt x y with
  | true=>rfl
  | false=>exact absurd (keyLt_total q h.1) h.2
 mem:=fun s=>hp.mem_iff.trans (hm s)
 few:=by exact hp.length_eq▸hl
theorem sorted_eq:∀{l l':List (List Int)},l.Pairwise (fun x y=>keyLt x y=true)->l'.Pairwise (fun x y=>keyLt x y=true)->(∀s,s∈l↔s∈l')->l=l'
 | [],[],_,_,_=>rfl
 | [],y::l',_,_,h=>by have:=(h y).mpr (.head _);cases this
 | x::l,[],_,_,h=>by have:=(h x).mp (.head _);cases this
 | x::l,y::l',h1,h2,h=>by
  obtain ⟨a1,b1⟩:=List.pairwise_cons.mp h1
  obtain ⟨a2,b2⟩:=List.pairwise_cons.mp h2
  have hxy:x=y:=by
   rcases List.mem_cons.mp ((h x).mp (.head _)) with e| e
   ·exact e
   ·rcases List.mem_cons.mp ((h y).mpr (.head _)) with e'| e'
    ·exact e'.symm
    ·have h3:=keyLt_trans (a2 x e) (a1 y e')
     replace h3:=(keyLt_irrefl ..).symm.trans h3;contradiction
  subst hxy
  have nx:∀{m:List (List Int)},(∀z∈m,keyLt x z=true)->x∉m:=fun hm hx=>by have:=hm x hx;replace this:=(keyLt_irrefl ..).symm.trans this;contradiction
  rw [sorted_eq b1 b2 fun s=>⟨fun hs=> ?_,fun hs=> ?_⟩]
  ·rcases List.mem_cons.mp ((h s).mp (.tail _ hs)) with rfl| q
   ·exact absurd hs (nx a1)
   ·exact q
  ·rcases List.mem_cons.mp ((h s).mpr (.tail _ hs)) with rfl| q
   ·exact absurd hs (nx a2)
   ·exact q
theorem Lst.eq {E:List (List Int)}{n:Nat}{l l':List (List Int)}(a:Lst E n l)(b:Lst E n l'):l=l':=sorted_eq a.srt b.srt fun s=>(a.mem s).trans (b.mem s).symm
section
variable {c:Cx} {σ:Sto} {X:Addr->Sto->Prop} {Q:D->Sto->Prop} {K:Frag} {C:Addr}
theorem least_ {E:List (List Int)}{n:Nat}(T:Tp c B14 N14)(S:Ks c K C "System" Bd14)(F:Fits6 E n)(hr:∀r∈E,small r/\r.length<100)(hl:E.length<100)(hn:n<100)(h1:1<=n)
  (h:∀out:List (List Int),Lst E n out->QL Q (out.map row) σ):WM c K C (Room 4) "least" [sy C n E] σ Q X:=by
 refine WM.byA 5 (ps:=["self"]) T S rfl rfl (mbind1 fun _ _ _ _ _=>rfl) (by rfl) rfl fun A fr env g r hh hs fe=> ?_
 refine Sp.mk ?_;(with_reducible refine WE.fldA (by with_unfolding_all rfl) (by assumption) ?_ (by with_unfolding_all (intro _;rfl));refine WE.go (by assumption) ?_);refine Sp.mk ?_;(with_reducible refine kFld.rules ?_);refine Sp.mk ?_;(with_reducible refine WE.fldA (by with_unfolding_all rfl) (by assumption) ?_ (by with_unfolding_all (intro _;rfl));refine WE.go (by assumption) ?_);refine Sp.mk ?_;(with_reducible refine kFld.size ?_);refine Sp.mk ?_
 refine WF.at (fewest_ T F.1 hr hl hn h1 fun found nd hm _=> ?_) (by decide)
 refine Sp.mk ?_
 have hm:=fun s=>(hm s).trans ⟨fun q=>q.1,fun q=>⟨q,fun z=>by contradiction⟩⟩
 skip
 have hf:=F.2 found nd fun s hs=>(hm s).mp hs
 refine WF.at (ranked_ T hf fun out hp hs=>(h out (.of nd hm hf hp hs)).sp) (by decide)
end
section
variable {c:Cx} {σ:Sto} {X:Addr->Sto->Prop} {Q:D->Sto->Prop} {K:Frag} {C:Addr}
theorem cell_at_ {S:List Int}{k:Int}(T:Tp c B14 N14)(hS:S.length<=63)(hk:0<=k)(hk2:k<2^60)(h:Q (.int (S.getD k.toNat 0)) σ):WF c (Room 1) "_law_cell_at" [.lst (S.map .int),.int k] σ Q X:=by
 refine WF.byA 24 (ps:=["_law_script","_law_k"]) T rfl rfl (bind2 fun _ _ _ _ _=>rfl) (by rfl) rfl fun A fr env g r hh hs fe=> ?_
 refine Sp.mk ?_
 refine At1.lenM (sd:=.lst _) (l:=S) (F:=D.int) rfl trivial (z814 hS) ?_
 by_cases hl:k<S.length
 ·refine brT (decide_eq_true hl) ?_
  refine Sp.mk ?_
  refine WSb.item (sd:=.lst _) (d:=.int (S.getD k.toNat 0)) trivial (z815 hk) (z816 hk2) (by exact z817 hk) ?_ (Sp.mk h)
  have:¬k<0:=z729 hk
  simp [SD.ds,idx,this,(z309 hk hl)]
 ·refine brF (decide_eq_false hl) ?_
  refine Sp.mk ?_
  have e:S.getD k.toNat 0=0:=by
   have:S.length<=k.toNat:=z818 hl
   simp [this]
  rw [e] at h
  exact h
theorem whole_ {i:Int}(T:Tp c B14 N14)(h:Q (.bool true) σ):WF c (Room 1) "_law_whole" [.int i] σ Q X:=by
 refine WF.byA 25 (ps:=["_law_found"]) T rfl rfl (bind1 fun _ _ _ _=>rfl) (by rfl) rfl fun A fr env g r hh hs fe=> ?_
 refine Sp.mk ?_
 refine At1.isi (b:=true) (by decide) rfl ?_
 refine Sp.mk ?_
 refine At1.isi (b:=false) (by decide) rfl ?_
 refine Sp.mk ?_
 exact h
theorem rows_ {sd:SD}{l:List (List Int)}{n:Nat}(T:Tp c B14 N14)(hL:sd.isL=true)(inv:sd.inv σ)(hd:sd.ds=l.map row)(hl:∀r∈l,r.length=n)(hn:n<100)(h:Q (.bool true) σ):WF c (Room 2) "_law_rows" [sd.d,.int n] σ Q X:=by
 refine WF.byA 26 (ps:=["_law_found","_law_size"]) T rfl rfl (bind2 fun _ _ _ _ _=>rfl) (by rfl) rfl fun A fr env g r hh hs fe=> ?_
 refine Sp.mk ?_
 refine At1.isiL hL inv ?_
 refine Sp.mk ?_
 refine WIv.seqA rfl row hh hd inv ?_
 refine Loop.of (fun k m' σ'=>σ'=σ/\Hs m' [("_law_size",.int n)]) (fun _ _=>kinds1 (by with_unfolding_all exact Or.inl (kindOf_of (by assumption) (by rfl)))) ⟨rfl,Hs.lit rfl⟩ (fun _ _ _ hL=>by rw [hL.1];exact inv) (fun k w m' σ' hk hL fr'=> ?_) (fun m' σ' hL=> ?_)
 ·obtain ⟨rfl,hv⟩:=hL
  have hw:=hl w (List.mem_of_getElem? hk)
  (with_reducible refine WS.base (Hs.both (by assumption) _) ?_;refine WS.goN (by assumption) ?_);refine Sp.mk ?_
  refine At1.isi (b:=true) (by decide) rfl ?_
  refine Sp.mk ?_
  refine At1.len (sd:=.tup _) trivial (by simp only [SD.ds,List.length_map];exact z626 hn hw) ?_
  skip
  rw [show ((SD.tup (w.map D.int)).ds.length:Int)=n by simp [SD.ds,hw]]
  skip
  refine brF (show ((n:Int) !=n)=false by simp) ?_
  refine Sp.mk ?_
  refine WIv.seqA rfl (sd:=.tup _) D.int hh rfl trivial ?_
  refine Loop.of (fun k m' σ''=>σ''=σ'/\Hs m' [("_law_size",.int n)]) (fun _ _=>kinds1 (by with_unfolding_all exact Or.inl (kindOf_of (by assumption) (by rfl)))) ⟨rfl,Hs.lit rfl⟩ (fun _ _ _ hL=>trivial) (fun k x m' σ'' hk hL fr'=> ?_) (fun m' σ'' hL=> ?_)
  ·obtain ⟨rfl,hv⟩:=hL
   (with_reducible refine WS.base (Hs.both (by assumption) _) ?_;refine WS.goN (by assumption) ?_);refine Sp.mk ?_
   refine WF.at (whole_ T ?_) (by decide)
   refine Sp.mk ?_
   exact ⟨rfl,Hs.lit rfl⟩
  ·obtain ⟨rfl,hv⟩:=hL
   (with_reducible refine WS.base (by assumption) ?_;refine WS.goK (by assumption) ?_);refine Sp.mk ?_
   exact ⟨rfl,Hs.lit rfl⟩
 ·obtain ⟨rfl,hv⟩:=hL
  (with_reducible refine WS.base (by assumption) ?_;refine WS.goK (by assumption) ?_);refine Sp.mk ?_
  exact h
theorem inR_false {xs ys:List Int}{k:Nat}{q:Int × Int}(h:(xs.zip ys)[k]? =some q)(hq:q.2<q.1):inR xs ys=false:=by
 unfold inR
 rw [List.all_eq_false]
 exact ⟨q,List.mem_of_getElem? h,by simp;exact hq⟩
theorem lawWithin_ {xs ys:List Int}(T:Tp c B14 N14)(h:Q (.bool (inR xs ys)) σ):WF c (Room 1) "_law_within" [row xs,row ys] σ Q X:=by
 refine WF.byA 28 (ps:=["_law_one","_law_other"]) T rfl rfl (bind2 fun _ _ _ _ _=>rfl) (by rfl) rfl fun A fr env g r hh hs fe=> ?_
 refine Sp.mk ?_
 refine ⟨_,_,.tup _,.tup _,xs,ys,D.int,D.int,rfl,rfl,rfl,rfl,trivial,trivial,?_⟩
 refine Loop.of (fun k m' σ'=>σ'=σ/\∀q∈(xs.zip ys).take k,q.1<=q.2) (fun _ _=>kinds2 (by with_unfolding_all exact Or.inl (kindOf_of (by assumption) (by rfl))) (by with_unfolding_all exact Or.inl (kindOf_of (by assumption) (by rfl)))) ⟨rfl,by simp⟩ (fun _ _ _ hL=>⟨trivial,trivial⟩) (fun k q m' σ' hk hL fr'=> ?_) (fun m' σ' hL=> ?_)
 ·obtain ⟨rfl,e1⟩:=hL
  (with_reducible refine WS.goN (by assumption) ?_)
  by_cases hq:q.1>q.2
  ·refine brT (decide_eq_true hq) ?_
   refine Sp.mk ?_
   rw [inR_false hk hq] at h
   exact h
  ·refine brF (decide_eq_false hq) ?_
   refine Sp.mk ?_
   refine ⟨rfl,fun p hp=> ?_⟩
   rw [take_next hk] at hp
   rcases List.mem_append.mp hp with z| z
   ·exact e1 p z
   ·rw [List.mem_singleton.mp z];exact z850 hq
 ·obtain ⟨rfl,e1⟩:=hL
  rw [List.take_length] at e1
  have e2:inR xs ys=true:=by unfold inR;rw [List.all_eq_true];exact fun q hq=>by simpa using e1 q hq
  rw [e2] at h
  (with_reducible refine WS.goK (by assumption) ?_);refine Sp.mk ?_
  exact h
end
section
variable {c:Cx} {σ:Sto} {X:Addr->Sto->Prop} {Q:D->Sto->Prop} {K:Frag} {C:Addr}
noncomputable def twoAt (w0 w1 want:Int)(b i:Nat):List (List Int):=
 if w1=0 then (if want-w0*(i:Int)=0 then (List.range (b+1)).map fun j:Nat=>[(i:Int),(j:Int)] else [])
 else if (want-w0*(i:Int)).fmod w1=0/\0<=(want-w0*(i:Int)).fdiv w1/\(want-w0*(i:Int)).fdiv w1<=(b:Int) then [[(i:Int),(want-w0*(i:Int)).fdiv w1]] else []
noncomputable def twoUp (w0 w1 want:Int)(b k:Nat):List (List Int):=(List.range k).flatMap (twoAt w0 w1 want b)
theorem twoUp_succ {w0 w1 want:Int}{b k:Nat}:twoUp w0 w1 want b (k+1)=twoUp w0 w1 want b k++twoAt w0 w1 want b k:=by
 unfold twoUp;simp only [List.range_succ,List.flatMap_append,List.flatMap_singleton]
theorem twoAt_len {w0 w1 want:Int}{b i:Nat}:(twoAt w0 w1 want b i).length<=b+1:=by
 unfold twoAt
 split
 ·split
  ·simp
  ·simp
 ·split<;>exact Nat.le_add_left _ _
theorem twoUp_len {w0 w1 want:Int}{b:Nat}:∀k,(twoUp w0 w1 want b k).length<=k*(b+1)
 | 0=>by exact Nat.zero_le _
 | k+1=>by
  simp only [twoUp_succ,List.length_append,Nat.succ_mul];exact z1203 (twoUp_len (w0:=w0) (w1:=w1) (want:=want) (b:=b) k) (twoAt_len (w0:=w0) (w1:=w1) (want:=want) (b:=b) (i:=k))
theorem twoUp_some {w0 w1 want:Int}{b k:Nat}{l:List (List Int)}(h:twoAt w0 w1 want b k=l):twoUp w0 w1 want b (k+1)=twoUp w0 w1 want b k++l:=by simp only [twoUp_succ,h]
theorem twoUp_none {w0 w1 want:Int}{b k:Nat}(h:twoAt w0 w1 want b k=[]):twoUp w0 w1 want b (k+1)=twoUp w0 w1 want b k:=by simp only [twoUp_succ,h,List.append_nil]
inductive TwoL (w0 w1 want:Int)(b:Nat)(σ:Sto)(k:Nat)(m':Vars)(σ':Sto):Prop
 | mk (a:Addr) (σx:Sto) (hx:σ.Sublist σx) (hk:k<=b+1) (eq:σ'=(a,.lst ((twoUp w0 w1 want b k).map row))::σx) (hv:Hs m' [("_law_found",.ref a),("_law_weights",il [w0,w1]),("_law_want",.int want),("_law_most",.int b)]):TwoL w0 w1 want b σ k m' σ'
theorem two_ {w0 w1 want:Int}{b:Nat}(T:Tp c B14 N14)(hb:b<=40)(h0:w0.natAbs<100)(h1:w1.natAbs<100)(h:Q (.lst ((twoUp w0 w1 want b (b+1)).map row)) σ):WF c (Room 1) "_law_two" [il [w0,w1],.int want,.int b] σ Q X:=by
 refine WF.byA 27 (ps:=["_law_weights","_law_want","_law_most"]) T rfl rfl (bind3 fun _ _ _ _ _ _=>rfl) (by rfl) rfl fun A fr env g r hh hs fe=> ?_
 refine Sp.mk ?_
 refine .inr fun a0 ha0=> ?_
 refine Sp.mk ?_
 refine ⟨z676,z681 hb,?_⟩
 refine Loop.of (TwoL w0 w1 want b σ) (fun _ _=>kinds1 (by with_unfolding_all exact Or.inr (kindOf_of (by assumption) (by rfl)))) ⟨a0,σ,.refl _,Nat.zero_le _,rfl,Hs.lit rfl⟩ (fun _ _ _ _=>trivial) (fun k i m' σ' hi hL fr'=> ?_) (fun m' σ' hL=> ?_)
 ·obtain ⟨a,σx,hx,hk,rfl,hv⟩:=hL
  have hll:=twoUp_len (w0:=w0) (w1:=w1) (want:=want) (b:=b) k
  have hi':i=k/\k<b+1:=by
   obtain ⟨z1,z2⟩:=List.getElem?_eq_some_iff.mp hi
   simp at z1 z2
   exact z655 z1 z2
  obtain ⟨rfl,hkb⟩:=hi'
  have hkk:=Nat.mul_le_mul (z682 hkb hb) (z683 hb)
  (with_reducible refine WS.base (Hs.both (by assumption) _) ?_;refine WS.goN (by assumption) ?_);refine Sp.mk ?_
  refine WSb.at (sd:=.lst _) (d:=.int w0) (k:=0) rfl trivial rfl (by decide) ?_
  refine Sp.mk ?_
  refine WB.mul (mulOk_left (z684 h0)) ?_
  refine Sp.mk ?_;(with_reducible refine WS.goK (by assumption) ?_);refine Sp.mk ?_
  refine WSb.at (sd:=.lst _) (d:=.int w1) (k:=1) rfl trivial rfl (by decide) ?_
  skip
  by_cases hz:w1=0
  ·refine brT (show (w1==0)=true by simpa using hz) ?_
   skip
   by_cases hl0:want-w0*(i:Int)=0
   ·refine brT (show (want-w0*(i:Int)==0)=true by simpa using hl0) ?_
    refine Sp.mk ?_
    refine ⟨z676,z681 hb,?_⟩
    rw [show ((b:Int)+1).toNat=b+1 by exact z678]
    refine Turns.map (fun j:Nat=>row [(i:Int),(j:Int)]) (fun _ _=>loc1 rfl) trivial (by (simp only [SD.ds,List.length_map,List.length_range,List.length_zip,List.length_take,List.length_drop,List.length_append,List.length_replicate,List.length_cons,List.length_nil,sizeLine]<;>lia)) (fun j hj fr' cenv hc=> ?_) (.inl ?_)
    ·have g:=g.at (relab_of hc hs)
     (with_reducible refine WE.go (by assumption) ?_);refine Sp.mk ?_
     exact ⟨rfl,rfl⟩
    refine Sp.mk ?_
    refine WB.addL (sd1:=.ref a _) (sd2:=.lst _) rfl rfl List.mem_cons_self trivial (by simp only [SD.ds,List.length_map,List.length_range,sizeLine];exact z686 hb hkk hll) (.inr fun a2 ha2=> ?_)
    refine Sp.mk ?_;(with_reducible refine WS.goK (by assumption) ?_);refine Sp.mk ?_
    refine WSb.at (sd:=.lst _) (d:=.int w1) (k:=1) rfl trivial rfl (by decide) ?_
    skip
    refine brF (show (w1 !=0)=false by simpa using hz) ?_
    refine Sp.mk ?_
    exact ⟨a2,_,hx.cons _,hkb,by rw [twoUp_some (by unfold twoAt;rw [if_pos hz,if_pos hl0]),List.map_append,List.map_map];rfl,Hs.lit rfl⟩
   ·refine brF (show (want-w0*(i:Int)==0)=false by simpa using hl0) ?_
    refine Sp.mk ?_;(with_reducible refine WS.goK (by assumption) ?_);refine Sp.mk ?_
    refine WSb.at (sd:=.lst _) (d:=.int w1) (k:=1) rfl trivial rfl (by decide) ?_
    skip
    refine brF (show (w1 !=0)=false by simpa using hz) ?_
    refine Sp.mk ?_
    exact ⟨a,σx,hx,hkb,by rw [twoUp_none (by unfold twoAt;rw [if_pos hz,if_neg hl0])],Hs.lit rfl⟩
  ·refine brF (show (w1==0)=false by simpa using hz) ?_
   refine Sp.mk ?_;(with_reducible refine WS.goK (by assumption) ?_);refine Sp.mk ?_
   refine WSb.at (sd:=.lst _) (d:=.int w1) (k:=1) rfl trivial rfl (by decide) ?_
   skip
   refine brT (show (w1 !=0)=true by simpa using hz) ?_
   refine Sp.mk ?_
   refine WSb.at (sd:=.lst _) (d:=.int w1) (k:=1) rfl trivial rfl (by decide) ?_
   refine Sp.mk ?_
   refine WB.mod hz (z684 h1) ?_
   skip
   by_cases hm:(want-w0*(i:Int)).fmod w1=0
   ·refine brT (show ((want-w0*(i:Int)).fmod w1==0)=true by simpa using hm) ?_
    have hq:w1*(want-w0*(i:Int)).fdiv w1=want-w0*(i:Int):=by
     have:=Int.mul_fdiv_add_fmod (want-w0*(i:Int)) w1
     exact z36 this hm
    refine Sp.mk ?_
    refine WSb.at (sd:=.lst _) (d:=.int w1) (k:=1) rfl trivial rfl (by decide) ?_
    refine Sp.mk ?_
    refine WB.fdiv hz (z684 h1) ?_
    skip
    generalize hyd:(want-w0*(i:Int)).fdiv w1=y at hq⊢
    skip
    by_cases hy0:0<=y
    ·refine brT (decide_eq_true hy0) ?_
     skip
     by_cases hyb:y<=(b:Int)
     ·refine brT (decide_eq_true hyb) ?_
      refine Sp.mk ?_
      refine ⟨.ref a _,rfl,rfl,List.mem_cons_self,?_⟩
      refine Sp.mk ?_
      refine WSb.at (sd:=.lst _) (d:=.int w1) (k:=1) rfl trivial rfl (by decide) ?_
      refine Sp.mk ?_
      refine WB.fdiv hz (z684 h1) ?_
      refine Sp.mk ?_
      rw [hyd]
      skip
      refine At1.append (σ1:=[]) (by simp only [List.length_map,sizeLine];exact z690 hkk hll) ?_
      refine Sp.mk ?_
      exact ⟨a,σx,hx,hkb,by rw [twoUp_some (by unfold twoAt;rw [if_neg hz,hyd,if_pos ⟨hm,hy0,hyb⟩]),List.map_append];rfl,Hs.lit rfl⟩
     ·refine brF (decide_eq_false hyb) ?_
      refine Sp.mk ?_
      exact ⟨a,σx,hx,hkb,by rw [twoUp_none (by unfold twoAt;rw [if_neg hz,hyd,if_neg (fun q=>hyb q.2.2)])],Hs.lit rfl⟩
    ·refine brF (decide_eq_false hy0) ?_
     refine Sp.mk ?_
     exact ⟨a,σx,hx,hkb,by rw [twoUp_none (by unfold twoAt;rw [if_neg hz,hyd,if_neg (fun q=>hy0 q.2.1)])],Hs.lit rfl⟩
   ·refine brF (show ((want-w0*(i:Int)).fmod w1==0)=false by simpa using hm) ?_
    refine Sp.mk ?_
    exact ⟨a,σx,hx,hkb,by rw [twoUp_none (by unfold twoAt;rw [if_neg hz,if_neg (fun q=>hm q.1)])],Hs.lit rfl⟩
 ·obtain ⟨a,σx,hx,hk,rfl,hv⟩:=hL
  rw [List.length_range] at*
  refine WS.forget (σ':=(a,.lst ((twoUp w0 w1 want b (b+1)).map row))::σ) (hx.cons_cons _) ?_
  refine WS.cons (W1.ret (WE.freeze ?_))
  (with_reducible refine WE.base (by assumption) ?_;refine WE.go (by assumption) ?_);refine Sp.mk ?_
  exact ⟨a,_,[],σ,rfl,rfl,Sp.mk h⟩
end
section
variable {c:Cx} {σ:Sto} {X:Addr->Sto->Prop} {Q:D->Sto->Prop} {K:Frag} {C:Addr}
inductive Mw (n q:Nat)(w:Int):Prop
 | two (hn:n=2) (h1:1<=q) (h3:q<=3) (hw:w=20):Mw n q w
 | one (hn:n=3) (hq:q=1) (hw:w=5):Mw n q w
 | both (hn:n=3) (hq:q=2) (hw:w=3):Mw n q w
theorem Mw.ok {n q:Nat}{w:Int}(m:Mw n q w):(n=2\/n=3)/\1<=q/\q<=3/\3<=w/\w<=20:=by
 cases m with
 | two hn h1 h3 hw=>exact ⟨.inl hn,h1,h3,by rw [hw];decide,by rw [hw];decide⟩
 | one hn hq hw=>exact ⟨.inr hn,by rw [hq];decide,by rw [hq];decide,by rw [hw];decide,by rw [hw];decide⟩
 | both hn hq hw=>exact ⟨.inr hn,by rw [hq];decide,by rw [hq];decide,by rw [hw];decide,by rw [hw];decide⟩
structure EqW (n q:Nat)(w:Int)(rows:List (List Int)):Prop where
 mw:Mw n q w
 len:rows.length=q
 all:∀r∈rows,r.length=n/\∀x∈r,-w<=x/\x<=w
inductive Eq14 (S:List Int)(n q:Nat)(w:Int)(a:Addr)(σ:Sto)(j:Nat)(m':Vars)(σ':Sto):Prop
 | mk (rows:List (List Int)) (hl:rows.length=j) (hj:j<=q) (hr:∀r∈rows,r.length=n/\∀x∈r,-w<=x/\x<=w) (eq:σ'=(a,.lst (rows.map il))::σ) (hv:Hs m' [("_law_found",.ref a),("_law_many",.int q),("_law_most",.int w),("_law_size",.int n),("_law_script",.lst (S.map D.int))]):Eq14 S n q w a σ j m' σ'
theorem equations14_ {S:List Int}{n:Nat}(T:Tp c B14 N14)(hS:S.length<=63)(hn:n=2\/n=3)
  (h:∀q w rows,EqW n q w rows->Q (rl rows) σ):WF c (Room 2) "_law_equations" [.lst (S.map .int),.int n] σ Q X:=by
 refine WF.byA 29 (ps:=["_law_script","_law_size"]) T rfl rfl (bind2 fun _ _ _ _ _=>rfl) (by rfl) rfl fun A fr env g r hh hs fe=> ?_
 refine Sp.mk ?_
 refine .inl ?_
 refine Sp.mk ?_
 refine WF.at (cell_at_ T hS (by decide) (by decide) ?_) (by decide)
 refine Sp.mk ?_
 obtain ⟨q,hq,eq⟩:∃q:Nat,(1<=q/\q<=3)/\[D.int 1,D.int 1,D.int 1,D.int 2,D.int 3][(S.getD 1 0 % 5).toNat]? =some (.int q):=by
  have:(S.getD 1 0 % 5).toNat<5:=z1238
  generalize (S.getD 1 0 % 5).toNat=i at this
  rcases ((z203 this):i=0\/i=1\/i=2\/i=3\/i=4) with rfl| rfl| rfl| rfl| rfl
  ·exact ⟨1,z1239,rfl⟩
  ·exact ⟨1,z1239,rfl⟩
  ·exact ⟨1,z1239,rfl⟩
  ·exact ⟨2,z1240,rfl⟩
  ·exact ⟨3,z1241,rfl⟩
 refine WSb.at (sd:=.lst _) (k:=(S.getD 1 0 % 5).toNat) (show S.getD 1 0 % 5=_ by exact z1242) trivial eq z1243 ?_
 refine Sp.mk ?_
 refine .inl ?_
 refine Sp.mk ?_
 obtain ⟨w,hw,ew⟩:∃w:Int,(n=2/\w=20\/n=3/\w=5)/\[D.int 0,D.int 0,D.int 20,D.int 5][n]? =some (.int w):=by
  rcases hn with rfl| rfl
  ·exact ⟨20,.inl ⟨rfl,rfl⟩,rfl⟩
  ·exact ⟨5,.inr ⟨rfl,rfl⟩,rfl⟩
 refine WSb.at (sd:=.lst _) (k:=n) rfl trivial ew (z771 hn) ?_
 refine Sp.mk ?_
 refine WS.joinA rfl (fun m' σ'=>∃(q:Nat) (w:Int),Mw n q w/\σ'=σ/\Hs m' [("_law_many",.int q),("_law_most",.int w),("_law_size",.int n),("_law_script",.lst (S.map D.int))]) ?_ fun m' σ' ⟨q,w,M,e0,hv⟩=> ?_
 ·(with_reducible refine W1.goN (by assumption) ?_)
  by_cases h3:n=3
  ·refine brT (show ((n:Int)==3)=true by simp [h3]) ?_
   refine Sp.mk ?_;(with_reducible refine WS.goK (by assumption) ?_);refine Sp.mk ?_
   refine WF.at (cell_at_ T hS (by decide) (by decide) ?_) (by decide)
   skip
   by_cases h2:S.getD 0 0/3 % 2=1
   ·refine brT (show (S.getD 0 0/3 % 2==1)=true by simpa using h2) ?_
    refine Sp.mk ?_
    exact ⟨2,3,.both h3 rfl rfl,rfl,Hs.lit rfl⟩
   ·refine brF (show (S.getD 0 0/3 % 2==1)=false by simpa using h2) ?_
    refine Sp.mk ?_
    exact ⟨1,w,.one h3 rfl (z1244 hw h3),rfl,Hs.lit rfl⟩
  ·refine brF (show ((n:Int)==3)=false by simp;exact z725 h3) ?_
   refine Sp.mk ?_
   exact ⟨q,w,.two (z1245 hw h3) hq.1 hq.2 (z1246 hw h3),rfl,Hs.lit rfl⟩
 subst e0
 have hM:=M.ok
 clear eq hq ew hw
 (with_reducible refine WS.base (by assumption) ?_;refine WS.goK (by assumption) ?_);refine Sp.mk ?_
 refine .inr fun a ha=> ?_
 refine Sp.mk ?_
 refine ⟨z653,z697 hM.2.2.1,?_⟩
 rw [Int.toNat_natCast]
 refine Loop.of (Eq14 S n q w a σ')
  (fun _ _=>kinds1 (by with_unfolding_all exact Or.inr (kindOf_of (by assumption) (by rfl)))) ⟨[],rfl,Nat.zero_le _,fun _ h=>(by cases h),rfl,Hs.lit rfl⟩ (fun _ _ _ _=>trivial) (fun j i m' σ'' hi hL fr'=> ?_) (fun m' σ'' hL=> ?_)
 ·obtain ⟨rows,rfl,hj,hr,rfl,hv⟩:=hL
  have hi':i=rows.length/\i<q:=by
   obtain ⟨h1,h2⟩:=List.getElem?_eq_some_iff.mp hi
   simp at h1 h2
   exact z838 h1 h2
  obtain ⟨rfl,hik⟩:=hi'
  (with_reducible refine WS.base (Hs.both (by assumption) _) ?_;refine WS.goN (by assumption) ?_);refine Sp.mk ?_
  refine ⟨z653,z759 hn,?_⟩
  rw [Int.toNat_natCast]
  refine Turns.map (fun p:Nat=>.int (S.getD (2+(rows.length:Int)*n+p).toNat 0)) (fun _ _=>loc1 rfl) trivial (by (simp only [SD.ds,List.length_map,List.length_range,List.length_zip,List.length_take,List.length_drop,List.length_append,List.length_replicate,List.length_cons,List.length_nil,sizeLine]<;>lia)) (fun p hp fr' cenv hc=> ?_) (.inl ?_)
  ·have g:=g.at (relab_of hc hs)
   have hp':=List.mem_range.mp hp
   (with_reducible refine WE.go (by assumption) ?_);refine Sp.mk ?_
   refine WB.mul (mulOk_left (z839 hM.2.2.1 hj)) ?_
   refine Sp.mk ?_
   have b1:(rows.length:Int)*n<=9:=by
    have:(rows.length:Int)*n<=3*3:=Int.mul_le_mul (by exact z840 hM.2.2.1 hj) (by lia) (by lia) (by lia)
    exact z1249 this
   have b0:0<=(rows.length:Int)*n:=Int.mul_nonneg z289 z289
   refine WF.at (cell_at_ T hS (z1250 b0) (z1251 b1 hp' hM.1) ?_) (by decide)
   refine Sp.mk ?_
   exact ⟨rfl,rfl⟩
  refine Sp.mk ?_
  refine ⟨.ref a _,rfl,rfl,List.mem_cons_self,?_⟩
  refine Sp.mk ?_
  refine WIv.seqA rfl (sd:=.lst _) (fun p:Nat=>.int (S.getD (2+(rows.length:Int)*n+p).toNat 0)) hh rfl trivial (Turns.map (fun p=>.int (S.getD (2+(rows.length:Int)*n+p).toNat 0 % (2*w+1)-w)) (fun _ _=>loc1 rfl) trivial (by (simp only [SD.ds,List.length_map,List.length_range,List.length_zip,List.length_take,List.length_drop,List.length_append,List.length_replicate,List.length_cons,List.length_nil,sizeLine]<;>lia)) (fun p hp fr' cenv hc=> ?_) (.inl ?_))
  ·have g:=g.at (relab_of hc hs)
   (with_reducible refine WE.go (by assumption) ?_);refine Sp.mk ?_
   refine WB.mul (mulOk_left (by decide)) ?_
   refine Sp.mk ?_
   refine WB.modE (z1252 hM.2.2.2.1) (z1253 hM.2.2.2.1 hM.2.2.2.2) ?_
   refine Sp.mk ?_
   exact ⟨rfl,rfl⟩
  refine Sp.mk ?_
  refine At1.append (σ1:=[]) (by (simp only [SD.ds,List.length_map,List.length_range,List.length_zip,List.length_take,List.length_drop,List.length_append,List.length_replicate,List.length_cons,List.length_nil,sizeLine]<;>lia)) ?_
  refine Sp.mk ?_
  refine ⟨rows++[(List.range n).map fun (p:Nat)=>S.getD (2+(rows.length:Int)*n+p).toNat 0 % (2*w+1)-w],by simp,hik,fun r hr'=> ?_,by simp [Function.comp_def],Hs.lit rfl⟩
  rcases List.mem_append.mp hr' with z| z
  ·exact hr r z
  ·rw [List.mem_singleton.mp z]
   refine ⟨by simp,fun x hx=> ?_⟩
   obtain ⟨p,_,rfl⟩:=List.mem_map.mp hx
   have h1:=Int.emod_nonneg (S.getD (2+(rows.length:Int)*n+p).toNat 0) (show 2*w+1≠0 by exact z702)
   have h2:=Int.emod_lt_of_pos (S.getD (2+(rows.length:Int)*n+p).toNat 0) (show 0<2*w+1 by exact z1252 hM.2.2.2.1)
   exact z703 h1 h2
 ·obtain ⟨rows,h1,h2,hr,rfl,hv⟩:=hL
  rw [List.length_range] at h1
  have W:EqW n q w rows:=⟨M,h1,hr⟩
  clear h1 h2 hr
  show WS _ _ _ _ _ _ _ _ _ _
  refine WS.base hv ?_
  refine WS.joinA rfl (fun m' σ1=>∃rows,EqW n q w rows/\σ1=(a,.lst (rows.map il))::σ'/\Hs m' [("_law_found",.ref a),("_law_many",.int q),("_law_size",.int n),("_law_script",.lst (S.map D.int))]) ?_ fun m' σ1 ⟨rows,W,e0,hv⟩=> ?_
  ·(with_reducible refine W1.goN (by assumption) ?_)
   by_cases h2:n=2
   ·refine brT (show ((n:Int)==2)=true by simp [h2]) ?_
    skip
    by_cases h1:(1:Int)<q
    ·refine brT (decide_eq_true h1) ?_
     refine Sp.mk ?_
     refine WF.at (cell_at_ T hS (by decide) (by decide) ?_) (by decide)
     skip
     by_cases h5:0<S.getD 1 0/5 % 3
     ·refine brT (decide_eq_true h5) ?_
      refine Sp.mk ?_
      refine W1.setL ?_ (by with_unfolding_all rfl)
      (with_reducible refine WE.go (by assumption) ?_);refine Sp.mk ?_
      have hl:=W.len
      obtain ⟨r0,r1,t,rfl⟩:∃r0 r1 t,rows=r0::r1::t:=by
       cases rows with
       | nil=>simp at hl;lia
       | cons r0 t=>cases t with
        | nil=>simp at hl;lia
        | cons r1 t=>exact ⟨r0,r1,t,rfl⟩
      have hr0:=W.all r0 List.mem_cons_self
      refine WSb.at (sd:=.ref a _) (d:=il r0) (k:=0) rfl List.mem_cons_self rfl (by decide) ?_
      refine Sp.mk ?_
      refine WIv.seqA rfl (sd:=.lst _) D.int hh rfl trivial (Turns.map (fun x=>.int (0-x)) (fun _ _=>loc1 rfl) trivial (by have:=hr0.1;simp only [SD.ds,List.length_map,sizeLine];exact z1254 h2 hr0.1) (fun p hp fr' cenv hc=> ?_) (.inl ?_))
      ·have g:=g.at (relab_of hc hs)
       (with_reducible refine WE.go (by assumption) ?_);refine Sp.mk ?_
       exact ⟨rfl,rfl⟩
      refine Sp.mk ?_;(with_reducible refine WE.go (by assumption) ?_);refine Sp.mk ?_;(with_reducible refine WE.go (by assumption) ?_);refine Sp.mk ?_
      refine ⟨a,_,1,[],_,rfl,rfl,rfl,by simp,z1255,?_⟩
      (with_reducible refine WS.goK (by assumption) ?_);refine Sp.mk ?_
      refine ⟨r0::r0.map (fun x=>0-x)::t,⟨M,hl,fun r hr=> ?_⟩,by simp [il,Function.comp_def],Hs.lit rfl⟩
      rcases List.mem_cons.mp hr with rfl| hr
      ·exact hr0
      rcases List.mem_cons.mp hr with rfl| hr
      ·refine ⟨by simpa using hr0.1,fun x hx=> ?_⟩
       obtain ⟨y,hy,rfl⟩:=List.mem_map.mp hx
       have:=hr0.2 y hy
       exact z1256 this.1 this.2
      ·exact W.all r (List.mem_cons_of_mem _ (List.mem_cons_of_mem _ hr))
     ·refine brF (decide_eq_false h5) ?_
      refine Sp.mk ?_
      exact ⟨rows,W,rfl,Hs.lit rfl⟩
    ·refine brF (decide_eq_false h1) ?_
     refine Sp.mk ?_
     exact ⟨rows,W,rfl,Hs.lit rfl⟩
   ·refine brF (show ((n:Int)==2)=false by simp;exact z717 h2) ?_
    refine Sp.mk ?_
    exact ⟨rows,W,rfl,Hs.lit rfl⟩
  subst e0
  show WS _ _ _ _ _ _ _ _ _ _
  refine WS.base hv ?_
  refine WS.joinA rfl (fun m' σ1=>∃rows,EqW n q w rows/\σ1=(a,.lst (rows.map il))::σ'/\Hs m' [("_law_found",.ref a)]) ?_ fun m' σ1 ⟨rows,W,e0,hv⟩=> ?_
  ·(with_reducible refine W1.goN (by assumption) ?_)
   by_cases h1:(2:Int)<q
   ·refine brT (decide_eq_true h1) ?_
    refine Sp.mk ?_
    refine WF.at (cell_at_ T hS (by decide) (by decide) ?_) (by decide)
    skip
    by_cases h5:0<S.getD 1 0/15 % 3
    ·refine brT (decide_eq_true h5) ?_
     refine Sp.mk ?_
     refine W1.setL ?_ (by with_unfolding_all rfl)
     (with_reducible refine WE.go (by assumption) ?_);refine Sp.mk ?_
     refine .inl ?_
     refine Sp.mk ?_
     refine WB.rep (z1257 hn) (.inl ?_)
     have hl:=W.len
     refine Sp.mk ?_;(with_reducible refine WE.go (by assumption) ?_);refine Sp.mk ?_;(with_reducible refine WE.go (by assumption) ?_);refine Sp.mk ?_
     refine ⟨a,_,2,[],_,rfl,rfl,rfl,by simp;exact z1258 h1 hl,z1259,?_⟩
     (with_reducible refine WS.goK (by assumption) ?_);refine Sp.mk ?_
     refine ⟨rows.set 2 (List.replicate n 0),⟨M,by simpa using hl,fun r hr=> ?_⟩,by simp [il,List.map_set],Hs.lit rfl⟩
     rcases List.mem_or_eq_of_mem_set hr with z| rfl
     ·exact W.all r z
     ·refine ⟨by simp,fun x hx=> ?_⟩
      rw [List.eq_of_mem_replicate hx];exact z1260 hM.2.2.2.1
    ·refine brF (decide_eq_false h5) ?_
     refine Sp.mk ?_
     exact ⟨rows,W,rfl,Hs.lit rfl⟩
   ·refine brF (decide_eq_false h1) ?_
    refine Sp.mk ?_
    exact ⟨rows,W,rfl,Hs.lit rfl⟩
  subst e0
  refine WS.base hv ?_
  refine WS.cons (W1.ret (WE.freeze ?_))
  (with_reducible refine WE.go (by assumption) ?_);refine Sp.mk ?_
  exact ⟨a,_,[],σ',rfl,rfl,Sp.mk (h q w rows W)⟩
end
section
variable {c:Cx} {σ:Sto} {X:Addr->Sto->Prop} {Q:D->Sto->Prop} {K:Frag} {C:Addr}
noncomputable def crsAt (u v:List Int)(k:Nat):Int:=u.getD ((k+1) % 3) 0*v.getD ((k+2) % 3) 0-u.getD ((k+2) % 3) 0*v.getD ((k+1) % 3) 0
noncomputable def crsL (u v:List Int):List Int:=(List.range 3).map (crsAt u v)
theorem get3 {u:List Int}(h:u.length=3){k:Nat}(hk:k<3):(u.map D.int)[k]? =some (.int (u.getD k 0)):=by
 simp [h,hk]
inductive LnL (u v:List Int)(a:Addr)(σ:Sto)(k:Nat)(m':Vars)(σ':Sto):Prop
 | mk (hk:k<=3) (eq:σ'=(a,.lst (((List.range k).map (crsAt u v)).map D.int))::σ) (hv:Hs m' [("_law_found",.ref a),("_law_one",il u),("_law_other",il v)]):LnL u v a σ k m' σ'
theorem line_ {u v:List Int}(T:Tp c B14 N14)(hu:u.length=3)(hv:v.length=3)(bu:∀i,(u.getD i 0).natAbs<100)(h:Q (il (crsL u v)) σ):WF c (Room 1) "_law_line" [il u,il v] σ Q X:=by
 refine WF.byA 30 (ps:=["_law_one","_law_other"]) T rfl rfl (bind2 fun _ _ _ _ _=>rfl) (by rfl) rfl fun A fr env g r hh hs fe=> ?_
 refine Sp.mk ?_
 refine .inr fun a ha=> ?_
 refine Sp.mk ?_
 refine ⟨by simp,by simp,?_⟩
 refine Loop.of (LnL u v a σ) (fun _ _=>kinds1 (by with_unfolding_all exact Or.inl (kindOf_of (by assumption) (by rfl)))) ⟨z597,rfl,Hs.lit rfl⟩ (fun _ _ _ _=>trivial) (fun k i m' σ' hi hL fr'=> ?_) (fun m' σ' hL=> ?_)
 ·obtain ⟨hk,rfl,hm⟩:=hL
  have hi':i=k/\k<3:=by
   obtain ⟨z1,z2⟩:=List.getElem?_eq_some_iff.mp hi
   simp at z1 z2
   exact z655 z1 z2
  obtain ⟨rfl,hkb⟩:=hi'
  have l1:(i+1) % 3<3:=Nat.mod_lt _ (by decide)
  have l2:(i+2) % 3<3:=Nat.mod_lt _ (by decide)
  (with_reducible refine WS.base (Hs.both (by assumption) _) ?_;refine WS.goN (by assumption) ?_);refine Sp.mk ?_
  refine ⟨.ref a _,rfl,rfl,List.mem_cons_self,?_⟩
  refine Sp.mk ?_
  refine WSb.at (sd:=.lst _) rfl trivial (get3 hu l1) z1265 ?_
  refine Sp.mk ?_
  refine WSb.at (sd:=.lst _) rfl trivial (get3 hv l2) z1265 ?_
  refine Sp.mk ?_
  refine WB.mul (mulOk_left (by exact z684 (bu ((i+1) % 3)))) ?_
  refine Sp.mk ?_
  refine WSb.at (sd:=.lst _) rfl trivial (get3 hu l2) z1265 ?_
  refine Sp.mk ?_
  refine WSb.at (sd:=.lst _) rfl trivial (get3 hv l1) z1265 ?_
  refine Sp.mk ?_
  refine WB.mul (mulOk_left (by exact z684 (bu ((i+2) % 3)))) ?_
  refine Sp.mk ?_
  refine At1.append (σ1:=[]) (by simp only [List.length_map,List.length_range,sizeLine];exact z632 hk) ?_
  refine Sp.mk ?_
  exact ⟨hkb,by simp [List.range_succ,crsAt],Hs.lit rfl⟩
 ·obtain ⟨hk,rfl,hm⟩:=hL
  refine WS.cons (W1.ret (WE.freeze ?_))
  (with_reducible refine WE.base (by assumption) ?_;refine WE.go (by assumption) ?_);refine Sp.mk ?_
  exact ⟨a,_,[],σ,rfl,rfl,Sp.mk h⟩
end
section
variable {c:Cx} {σ:Sto} {X:Addr->Sto->Prop} {Q:D->Sto->Prop} {K:Frag} {C:Addr}
noncomputable def absI (a:Int):Int:=if a<0 then-a else a
theorem absI_ok (a:Int):absI a=a.natAbs:=by unfold absI;split<;>lia
noncomputable def gcdUp (l:List Int):Nat:=l.foldl (fun g x=>Nat.gcd g x.natAbs) 0
noncomputable def onL (l:List Int):List (List Int):=if minL l<0/\0<maxL l then [] else [l.map fun x=>absI x/(gcdUp l:Int)]
inductive OnW (l:List Int)(x0 y0:Nat)(σ:Sto)(k:Nat)(m':Vars)(σ':Sto):Prop
 | mk (x y:Nat) (hk:k=x) (hg:Nat.gcd y x=Nat.gcd y0 x0) (hx:x<100000) (hy:y<100000) (eq:σ'=σ) (hv:Hs m' [("_law_number",.int x),("_law_measure",.int y),("_law_sizes",.lst (l.map fun x=>D.int (absI x)))]):OnW l x0 y0 σ k m' σ'
inductive OnA (l:List Int)(σ:Sto)(k:Nat)(m':Vars)(σ':Sto):Prop
 | mk (eq:σ'=σ) (hv:Hs m' [("_law_measure",.int (gcdUp (l.take k))),("_law_sizes",.lst (l.map fun x=>D.int (absI x)))]):OnA l σ k m' σ'
theorem gcdUp_le {l:List Int}{b:Nat}(hb:∀x∈l,x.natAbs<b)(h0:0<b):gcdUp l<b:=by
 suffices h:∀(l:List Int) (g:Nat),g<b->(∀x∈l,x.natAbs<b)->l.foldl (fun g x=>Nat.gcd g x.natAbs) g<b from h l 0 h0 hb
 intro l
 induction l with
 | nil=>exact fun g hg _=>hg
 | cons a l ih=>
  intro g hg hl
  refine ih _ ?_ fun x hx=>hl x (List.mem_cons_of_mem _ hx)
  show Nat.gcd g a.natAbs<b
  by_cases z:g=0
  ·rw [z,Nat.gcd_zero_left];exact hl a List.mem_cons_self
  ·exact Nat.lt_of_le_of_lt (Nat.gcd_le_left _ (z1076 z)) hg
theorem rowsOn_ {l:List Int}(T:Tp c B14 N14)(hl:l.length=3)(hb:∀x∈l,x.natAbs<100000)(hg:0<gcdUp l)(h:Q (.lst ((onL l).map row)) σ):WF c (Room 1) "_law_rows_on" [il l] σ Q X:=by
 refine WF.byS 31 (ps:=["_law_line_here"]) T rfl rfl (bind1 fun _ _ _ _=>rfl) (by rfl) rfl fun A fr env g r hh hs fe=> ?_
 have hne:l≠[]:=fun e=>by rw [e] at hl;contradiction
 refine WS.joinA rfl (fun m' σ'=>σ'=σ/\¬(minL l<0/\0<maxL l)/\Hs m' [("_law_line_here",il l)]) ?_ fun m' σ' ⟨e0,hno,hv⟩=> ?_
 ·(with_reducible refine W1.go (by assumption) ?_);refine Sp.mk ?_
  refine At1.min (sd:=.lst _) (l:=l) hh rfl hne trivial ?_
  skip
  by_cases h1:minL l<0
  ·refine brT (decide_eq_true h1) ?_
   refine Sp.mk ?_
   refine At1.max (sd:=.lst _) (l:=l) hh rfl hne trivial ?_
   skip
   by_cases h2:0<maxL l
   ·refine brT (decide_eq_true h2) ?_
    refine Sp.mk ?_
    refine .inl ?_
    unfold onL at h
    rw [if_pos ⟨h1,h2⟩] at h
    exact Sp.mk h
   ·refine brF (decide_eq_false h2) ?_
    refine Sp.mk ?_
    exact ⟨rfl,fun z=>h2 z.2,Hs.lit rfl⟩
  ·refine brF (decide_eq_false h1) ?_
   refine Sp.mk ?_
   exact ⟨rfl,fun z=>h1 z.1,Hs.lit rfl⟩
 subst e0
 unfold onL at h
 rw [if_neg hno] at h
 (with_reducible refine WS.base (by assumption) ?_;refine WS.go (by assumption) ?_);refine Sp.mk ?_
 refine WIv.seqA rfl (sd:=.lst _) D.int hh rfl trivial (Turns.map (fun x=>.int (absI x)) (fun _ _=>loc1 rfl) trivial (by simp only [SD.ds,List.length_map,sizeLine];exact z1268 hl) (fun p hp fr' cenv hc=> ?_) (.inl ?_))
 ·have g:=g.at (relab_of hc hs)
  (with_reducible refine WE.go (by assumption) ?_);refine Sp.mk ?_
  refine At1.abs ?_
  refine Sp.mk ?_
  exact ⟨rfl,rfl⟩
 refine Sp.mk ?_
 refine WIv.seqA rfl (sd:=.lst _) (fun x=>D.int (absI x)) hh rfl trivial ?_
 refine Loop.of (OnA l σ') (fun _ _=>kinds1 (by with_unfolding_all exact Or.inl (kindOf_of (by assumption) (by rfl)))) ⟨rfl,Hs.lit rfl⟩ (fun _ _ _ _=>trivial) (fun k x m' σ1 hk hL fr'=> ?_) (fun m' σ1 hL=> ?_)
 ·obtain ⟨rfl,hm⟩:=hL
  have hx:=hb x (List.mem_of_getElem? hk)
  have hy:=gcdUp_le (l:=l.take k) (b:=100000) (fun y hy=>hb y (List.mem_of_mem_take hy)) (by decide)
  have es:gcdUp (l.take (k+1))=Nat.gcd (gcdUp (l.take k)) x.natAbs:=by
   rw [take_next hk];unfold gcdUp;rw [List.foldl_append];rfl
  rw [absI_ok x]
  generalize hy0:gcdUp (l.take k)=y0 at*
  generalize hx0:x.natAbs=x0 at*
  (with_reducible refine WS.base (Hs.both (by assumption) _) ?_;refine WS.goN (by assumption) ?_);refine Sp.mk ?_
  refine W1.whileA rfl fe (OnW l x0 y0 σ1) x0 ⟨x0,y0,rfl,rfl,hx,hy,rfl,Hs.lit rfl⟩ ?_
  rintro u m' σ' ⟨_,y,rfl,hg',hx1,hy1,rfl,hv'⟩
  (with_reducible refine WT.base (by assumption) ?_;refine WT.go (by assumption) ?_);refine Sp.mk ?_
  by_cases hz:(0:Int)<u
  ·refine brT (decide_eq_true hz) ?_
   (with_reducible refine WS.base (by assumption) ?_;refine WS.goN (by assumption) ?_);refine Sp.mk ?_
   refine W1.unpack2 hh ?_ (by with_unfolding_all exact Or.inl (kindOf_of (by assumption) (by rfl))) (by with_unfolding_all exact Or.inr (kindOf_of (by assumption) (by rfl))) (by with_unfolding_all rfl) (swapped_of hs (by kernel_rfl))
   (with_reducible refine WE.go (by assumption) ?_);refine Sp.mk ?_
   refine WB.modE hz (z1269 hx1) ?_
   refine Sp.mk ?_
   refine ⟨_,_,rfl,?_⟩
   (with_reducible refine WS.goK (by assumption) ?_);refine Sp.mk ?_
   refine ⟨y % u,Nat.mod_lt _ (z1270 hz),⟨y % u,u,rfl,?_,?_,hx1,rfl,?_⟩⟩
   ·rw [<-hg',Nat.gcd_comm y u,Nat.gcd_rec u y,Nat.gcd_comm]
   ·exact Nat.lt_trans (Nat.mod_lt _ (z1270 hz)) hx1
   ·rw [show ((y % u:Nat):Int)=(y:Int) % (u:Int) from rfl]
    exact Hs.lit rfl
  ·refine brF (decide_eq_false hz) ?_
   (with_reducible refine WS.base (by assumption) ?_;refine WS.goK (by assumption) ?_);refine Sp.mk ?_
   have:u=0:=z1271 hz
   subst this
   rw [Nat.gcd_zero_right] at hg'
   refine ⟨rfl,?_⟩
   rw [es,<-hg']
   exact Hs.lit rfl
 ·obtain ⟨rfl,hm⟩:=hL
  rw [List.take_length] at hm
  (with_reducible refine WS.base (by assumption) ?_;refine WS.goK (by assumption) ?_);refine Sp.mk ?_
  refine WIv.seqA rfl (sd:=.lst _) (fun x=>D.int (absI x)) hh rfl trivial (Turns.map (fun x=>.int (absI x/(gcdUp l:Int))) (fun _ _=>loc1 rfl) trivial (by simp only [SD.ds,List.length_map,sizeLine];exact z1268 hl) (fun p hp fr' cenv hc=> ?_) (.inl ?_))
  ·have g:=g.at (relab_of hc hs)
   (with_reducible refine WE.go (by assumption) ?_);refine Sp.mk ?_
   have hgl:=gcdUp_le hb (by decide)
   refine WB.fdivE (z76 hg) (z1269 hgl) ?_
   refine Sp.mk ?_
   exact ⟨rfl,rfl⟩
  refine Sp.mk ?_
  refine At1.tupM (sd:=.lst _) (ds:=l.map fun x=>.int (absI x/(gcdUp l:Int))) rfl trivial (by simp only [List.length_map,sizeLine];exact z1268 hl) ?_
  refine Sp.mk ?_
  refine .inl (Sp.mk ?_)
  rw [show ([D.tup (List.map (fun x=>D.int (absI x/(gcdUp l:Int))) l)]:List D)=[l.map fun x=>absI x/(gcdUp l:Int)].map row by simp [row,Function.comp_def]]
  exact h
end
section
variable {c:Cx} {σ:Sto} {X:Addr->Sto->Prop} {Q:D->Sto->Prop} {K:Frag} {C:Addr}
noncomputable def fltW (w:List Int)(l:List (List Int)):List (List Int):=l.filter fun r=>decide (dot w r=0)
noncomputable def fltUp (ws l:List (List Int)):List (List Int):=ws.foldl (fun l w=>fltW w l) l
theorem fltUp_snoc {ws l:List (List Int)}{k:Nat}{w:List Int}(h:ws[k]? =some w):fltUp (ws.take (k+1)) l=fltW w (fltUp (ws.take k) l):=by
 unfold fltUp;simp only [take_next h,List.foldl_append];rfl
theorem fltUp_mem:∀{ws l:List (List Int)} {r:List Int},r∈fltUp ws l↔r∈l/\∀w∈ws,dot w r=0
 | [],l,r=>by simp [fltUp]
 | w::ws,l,r=>by
  show r∈fltUp ws (fltW w l)↔_
  simp only [fltUp_mem,fltW]
  simp [and_assoc]
theorem fltUp_len:∀(ws l:List (List Int)),(fltUp ws l).length<=l.length
 | [],l=>Nat.le_refl _
 | w::ws,l=>Nat.le_trans (fltUp_len ws (fltW w l)) (List.length_filter_le _ _)
theorem fltW_eq {w:List Int}(l:List (List Int)):l.filterMap (fun x=>if dot w x=0 then some (row x) else none)=(fltW w l).map row:=by
 unfold fltW
 induction l with
 | nil=>rfl
 | cons s l ih=>
  by_cases q:dot w s=0
  ·simp only [List.filterMap_cons,if_pos q,ih,List.filter_cons,decide_eq_true q,if_true,List.map_cons]
  ·simp only [List.filterMap_cons,if_neg q,ih,List.filter_cons,decide_eq_false q,Bool.false_eq_true,if_false]
theorem twoUp_row {w0 w1 want:Int}{b:Nat}:∀{k:Nat} {r:List Int},r∈twoUp w0 w1 want b k->Row 2 r
 | 0,r,h=>by simp [twoUp] at h
 | k+1,r,h=>by
  rw [twoUp_succ] at h
  rcases List.mem_append.mp h with z| z
  ·exact twoUp_row z
  ·unfold twoAt at z
   split at z
   ·split at z
    ·obtain ⟨j,_,rfl⟩:=List.mem_map.mp z
     exact .of rfl fun y hy=>by simp at hy;rcases hy with rfl| rfl<;>lia
    ·nomatch z
   ·split at z
    ·rename_i q
     rw [List.mem_singleton.mp z]
     exact .of rfl fun y hy=>by simp at hy;rcases hy with rfl| rfl<;>lia
    ·nomatch z
noncomputable def triAt (e:List Int)(i:Nat):List (List Int):=(twoUp (e.getD 1 0) (e.getD 2 0) (0-e.getD 0 0*(i:Int)) 5 6).map fun p=>(i:Int)::p
noncomputable def triUp (e:List Int)(k:Nat):List (List Int):=(List.range k).flatMap (triAt e)
theorem triUp_succ {e:List Int}{k:Nat}:triUp e (k+1)=triUp e k++triAt e k:=by
 unfold triUp;simp only [List.range_succ,List.flatMap_append,List.flatMap_singleton]
theorem triAt_len {e:List Int}{i:Nat}:(triAt e i).length<=36:=by
 unfold triAt;rw [List.length_map];exact twoUp_len 6
theorem triUp_len {e:List Int}:∀k,(triUp e k).length<=k*36
 | 0=>by exact Nat.zero_le _
 | k+1=>by
  simp only [triUp_succ,List.length_append,Nat.succ_mul];exact z1203 (triUp_len (e:=e) k) (triAt_len (e:=e) (i:=k))
theorem triUp_row {e:List Int}:∀{k:Nat} {r:List Int},r∈triUp e k->Row 3 r
 | 0,r,h=>by simp [triUp] at h
 | k+1,r,h=>by
  rw [triUp_succ] at h
  rcases List.mem_append.mp h with z| z
  ·exact triUp_row z
  ·obtain ⟨p,hp,rfl⟩:=List.mem_map.mp z
   have:=twoUp_row hp
   exact .of (by simp [this.len]) fun y hy=>by
    rcases List.mem_cons.mp hy with rfl| hy
    ·exact z289
    ·exact this.mem y hy
noncomputable def evS (n:Nat)(E:List (List Int)):List (List Int):=
 if n=2 then fltUp E.tail (twoUp ((E.headD []).getD 0 0) ((E.headD []).getD 1 0) 0 20 21)
 else if E.length=2/\crsL (E.getD 0 []) (E.getD 1 [])≠[0,0,0] then onL (crsL (E.getD 0 []) (E.getD 1 []))
 else fltUp E.tail (triUp (E.headD []) 6)
theorem pick_one {a:D}{ds:List D}:pick (a::ds) (some 1) none=ds:=by
 simp [pick,clipAt,(z1272)]
inductive FlL (E:List (List Int))(l:List (List Int))(σ:Sto)(k:Nat)(m':Vars)(σ':Sto):Prop
 | mk (eq:σ'=σ) (hv:Hs m' [("_law_found",.lst ((fltUp (E.take k) l).map row))]):FlL E l σ k m' σ'
theorem even2_ {E:List (List Int)}{e:List Int}(T:Tp c B14 N14)(he:e.length=2)(hE:∀r∈E,r.length=2)(bw:∀r∈e::E,∀x∈r,-20<=x/\x<=20)(hl:E.length<=3)(h:Q (.lst ((fltUp E (twoUp (e.getD 0 0) (e.getD 1 0) 0 20 21)).map row)) σ):WF c (Room 2) "_law_even_rows" [rl (e::E),.int 2] σ Q X:=by
 refine WF.byS 32 (ps:=["_law_equations_here","_law_size"]) T rfl rfl (bind2 fun _ _ _ _ _=>rfl) (by rfl) rfl fun A fr env g r hh hs fe=> ?_
 (with_reducible refine WS.go (by assumption) ?_);refine Sp.mk ?_
 refine WSb.at (sd:=.lst _) (d:=il e) (k:=0) rfl trivial rfl (by decide) ?_
 refine Sp.mk ?_
 obtain ⟨w0,w1,rfl⟩:=len2 he
 have b0:=bw _ (.head _) w0 (.head _)
 have b1:=bw _ (.head _) w1 (.tail _ (.head _))
 refine WF.at (two_ (b:=20) T (by decide) (z714 b0.1 b0.2) (z714 b1.1 b1.2) ?_) (by decide)
 refine Sp.mk ?_;(with_reducible refine WE.sliceA (by with_unfolding_all rfl) ?_;refine WE.go (by assumption) ?_);refine Sp.mk ?_;(with_reducible refine WPt.some ?_;refine WE.go (by assumption) ?_);refine Sp.mk ?_
 refine ⟨_,rfl,?_⟩
 (with_reducible refine WPt.none ?_)
 refine ⟨.lst _,rfl,rfl,trivial,by simp only [SD.ds,List.length_map,List.length_cons,sizeLine];exact z1273 hl,.inl ?_⟩
 rw [show pick (SD.lst (([w0,w1]::E).map il)).ds (some 1) none=E.map il from pick_one]
 refine Sp.mk ?_
 refine WIv.seqA rfl (sd:=.lst _) il hh rfl trivial ?_
 refine Loop.of (FlL E (twoUp w0 w1 0 20 21) σ) (fun _ _=>kinds1 (by with_unfolding_all exact Or.inr (kindOf_of (by assumption) (by rfl)))) ⟨rfl,Hs.lit rfl⟩ (fun _ _ _ _=>trivial) (fun k w m' σ' hk hL fr'=> ?_) (fun m' σ' hL=> ?_)
 ·obtain ⟨rfl,hv⟩:=hL
  have hw:=List.mem_of_getElem? hk
  obtain ⟨v0,v1,rfl⟩:=len2 (hE w hw)
  have c0:=bw _ (.tail _ hw) v0 (.head _)
  have c1:=bw _ (.tail _ hw) v1 (.tail _ (.head _))
  have hlen:=Nat.le_trans (fltUp_len (E.take k) (twoUp w0 w1 0 20 21)) (twoUp_len 21)
  have hrow:∀x∈fltUp (E.take k) (twoUp w0 w1 0 20 21),Row 2 x:=fun x hx=>twoUp_row (fltUp_mem.mp hx).1
  have es:=fltUp_snoc (l:=twoUp w0 w1 0 20 21) hk
  generalize fltUp (E.take k) (twoUp w0 w1 0 20 21)=L at*
  (with_reducible refine WS.base (Hs.both (by assumption) _) ?_;refine WS.goN (by assumption) ?_);refine Sp.mk ?_
  refine WIv.seqA rfl (sd:=.lst _) row hh rfl trivial (Turns.of (fun x=>if dot [v0,v1] x=0 then some (row x) else none) (fun _ _=>loc1 rfl) trivial (by simp only [sizeLine];exact z1274 hlen) (fun x hx fr' cenv hc=>WIfs.one ?_) (.inl ?_))
  ·have g:=g.at (relab_of hc hs)
   obtain ⟨x0,x1,rfl⟩:=len2 (hrow x hx).len
   (with_reducible refine WT.go (by assumption) ?_);refine Sp.mk ?_
   refine WSb.at (sd:=.lst _) (d:=.int v0) (k:=0) rfl trivial rfl (by decide) ?_
   refine Sp.mk ?_
   refine WSb.at (sd:=.tup _) (d:=.int x0) (k:=0) rfl trivial rfl (by decide) ?_
   refine Sp.mk ?_
   refine WB.mul (mulOk_left (z718 c0.1 c0.2)) ?_
   refine Sp.mk ?_
   refine WSb.at (sd:=.lst _) (d:=.int v1) (k:=1) rfl trivial rfl (by decide) ?_
   refine Sp.mk ?_
   refine WSb.at (sd:=.tup _) (d:=.int x1) (k:=1) rfl trivial rfl (by decide) ?_
   refine Sp.mk ?_
   refine WB.mul (mulOk_left (z718 c1.1 c1.2)) ?_
   refine Sp.mk ?_
   have ed:dot [v0,v1] [x0,x1]=v0*x0+v1*x1:=by simp [dot]
   by_cases q:v0*x0+v1*x1=0
   ·refine brT (show (v0*x0+v1*x1==0)=true by simpa using q) ?_
    (with_reducible refine WE.go (by assumption) ?_);refine Sp.mk ?_
    exact ⟨rfl,by rw [ed,if_pos q]⟩
   ·refine brF (show (v0*x0+v1*x1==0)=false by simpa using q) ?_
    skip
    rw [ed,if_neg q]
    exact ⟨rfl,rfl⟩
  rw [fltW_eq,<-es]
  refine Sp.mk ?_
  exact ⟨rfl,Hs.lit rfl⟩
 ·obtain ⟨rfl,hv⟩:=hL
  rw [List.take_length] at hv
  (with_reducible refine WS.base (by assumption) ?_;refine WS.goK (by assumption) ?_);refine Sp.mk ?_
  exact h
end
section
variable {c:Cx} {σ:Sto} {X:Addr->Sto->Prop} {Q:D->Sto->Prop} {K:Frag} {C:Addr}
inductive TrA (e:List Int)(E:List (List Int))(f:Addr)(σ:Sto)(k:Nat)(m':Vars)(σ':Sto):Prop
 | mk (hk:k<=6) (eq:σ'=(f,.lst ((triUp e k).map row))::σ) (hv:Hs m' [("_law_found",.ref f),("_law_equations_here",rl (e::E))]):TrA e E f σ k m' σ'
inductive TrB (e:List Int)(E:List (List Int))(f:Addr)(σ:Sto)(i:Nat)(j:Nat)(m':Vars)(σ':Sto):Prop
 | mk (eq:σ'=(f,.lst ((triUp e i++((twoUp (e.getD 1 0) (e.getD 2 0) (0-e.getD 0 0*(i:Int)) 5 6).take j).map fun p=>(i:Int)::p).map row))::σ) (hv:Hs m' [("_law_found",.ref f),("_law_equations_here",rl (e::E)),("_law_one",.int i)]):TrB e E f σ i j m' σ'
theorem bndD {e:List Int}{b:Int}(h0:0<=b)(h:∀x∈e,-b<=x/\x<=b)(i:Nat): -b<=e.getD i 0/\e.getD i 0<=b:=by
 rw [List.getD_eq_getElem?_getD]
 by_cases hi:i<e.length
 ·rw [List.getElem?_eq_getElem hi];exact h _ (List.getElem_mem hi)
 ·rw [List.getElem?_eq_none (z12 hi)];simp;exact h0
theorem mul400 {a b:Int}(ha: -20<=a/\a<=20)(hb: -20<=b/\b<=20): -400<=a*b/\a*b<=400:=by
 have h1:=Int.natAbs_mul a b
 have h2:a.natAbs*b.natAbs<=20*20:=Nat.mul_le_mul (z1275 ha.1 ha.2) (z1275 hb.1 hb.2)
 exact z1276 h1 h2
theorem crsL_bnd {u v:List Int}(hu:∀x∈u,-20<=x/\x<=20)(hv:∀x∈v,-20<=x/\x<=20):∀x∈crsL u v,x.natAbs<100000:=fun x hx=>by
 obtain ⟨k,_,rfl⟩:=List.mem_map.mp hx
 have h1:=mul400 (bndD (by decide) hu ((k+1) % 3)) (bndD (by decide) hv ((k+2) % 3))
 have h2:=mul400 (bndD (by decide) hu ((k+2) % 3)) (bndD (by decide) hv ((k+1) % 3))
 unfold crsAt
 exact z1277 h1.1 h2.1 h1.2 h2.2
theorem foldl_gcd:∀(l:List Int) (g:Nat),l.foldl (fun g x=>Nat.gcd g x.natAbs) g=0->g=0/\∀x∈l,x=0
 | [],g,h=>⟨h,nofun⟩
 | a::l,g,h=>by
  obtain ⟨h1,h2⟩:=foldl_gcd l (Nat.gcd g a.natAbs) h
  obtain ⟨h3,h4⟩:=Nat.gcd_eq_zero_iff.mp h1
  exact ⟨h3,fun x hx=>by
   rcases List.mem_cons.mp hx with rfl| hx
   ·exact Int.natAbs_eq_zero.mp h4
   ·exact h2 x hx⟩
theorem gcdUp_pos {u v:List Int}(h:crsL u v≠[0,0,0]):0<gcdUp (crsL u v):=by
 refine Nat.pos_of_ne_zero fun z=>h ?_
 have h1:=(foldl_gcd _ _ z).2
 have e:crsL u v=[crsAt u v 0,crsAt u v 1,crsAt u v 2]:=rfl
 rw [e] at h1⊢
 rw [h1 _ (.head _),h1 _ (.tail _ (.head _)),h1 _ (.tail _ (.tail _ (.head _)))]
theorem even3_ {E:List (List Int)}{e:List Int}(T:Tp c B14 N14)(he:e.length=3)(hE:∀r∈E,r.length=3)(bw:∀r∈e::E,∀x∈r,-20<=x/\x<=20)(hl:E.length<=1)(h:Q (.lst ((evS 3 (e::E)).map row)) σ):WF c (Room 2) "_law_even_rows" [rl (e::E),.int 3] σ Q X:=by
 refine WF.byS 32 (ps:=["_law_equations_here","_law_size"]) T rfl rfl (bind2 fun _ _ _ _ _=>rfl) (by rfl) rfl fun A fr env g r hh hs fe=> ?_
 unfold evS at h
 rw [if_neg (by decide)] at h
 refine WS.checkA rfl ?_ ?_
 ·(with_reducible refine W1.go (by assumption) ?_);refine Sp.mk ?_
  exact ⟨rfl,rfl⟩
 refine WS.joinA rfl (fun m' σ'=>σ'=σ/\¬((e::E).length=2/\crsL ((e::E).getD 0 []) ((e::E).getD 1 [])≠[0,0,0])/\Hs m' [("_law_equations_here",rl (e::E))]) ?_ fun m' σ' ⟨e0,hno,hv⟩=> ?_
 ·(with_reducible refine W1.go (by assumption) ?_);refine Sp.mk ?_
  refine At1.lenM (sd:=.lst _) (l:=e::E) (F:=il) rfl trivial (by simp only [List.length_cons];exact z1278 hl) ?_
  skip
  by_cases h2:(e::E).length=2
  ·refine brT (show (((e::E).length:Int)==2)=true by simp [h2]) ?_
   obtain ⟨e',rfl⟩:∃e',E=[e']:=List.length_eq_one_iff.mp (by simpa using h2)
   have he':=hE e' (.head _)
   have bb:∀i,(e.getD i 0).natAbs<100:=fun i=>by have:=bndD (by decide) (bw e (.head _)) i;exact z714 this.1 this.2
   refine Sp.mk ?_
   refine WSb.at (sd:=.lst _) (d:=il e) (k:=0) rfl trivial rfl (by decide) ?_
   refine Sp.mk ?_
   refine WSb.at (sd:=.lst _) (d:=il e') (k:=1) rfl trivial rfl (by decide) ?_
   refine Sp.mk ?_
   refine WF.at (line_ T he he' bb ?_) (by decide)
   refine Sp.mk ?_
   refine .inl ?_
   refine Sp.mk ?_
   refine WB.neD r (.of (Py.ints (n:=1))) (.of (Py.ints (xs:=[0,0,0]) (n:=1))) ?_
   skip
   rw [eqv_ints]
   by_cases h0:crsL e e'=[0,0,0]
   ·refine brNF (decide_eq_true h0) ?_
    refine Sp.mk ?_
    exact ⟨rfl,fun z=>z.2 h0,Hs.lit rfl⟩
   ·refine brNT (decide_eq_false h0) ?_
    rw [if_pos ⟨h2,h0⟩] at h
    refine Sp.mk ?_
    refine WSb.at (sd:=.lst _) (d:=il e) (k:=0) rfl trivial rfl (by decide) ?_
    refine Sp.mk ?_
    refine WSb.at (sd:=.lst _) (d:=il e') (k:=1) rfl trivial rfl (by decide) ?_
    refine Sp.mk ?_
    refine WF.at (line_ T he he' bb ?_) (by decide)
    refine Sp.mk ?_
    refine WF.at (rowsOn_ T rfl (crsL_bnd (bw _ (.head _)) (bw _ (.tail _ (.head _)))) (gcdUp_pos h0) ?_) (by decide)
    refine Sp.mk ?_
    exact h
  ·refine brF (show (((e::E).length:Int)==2)=false by simp at h2⊢;exact z1279 h2) ?_
   refine Sp.mk ?_
   exact ⟨rfl,fun z=>h2 z.1,Hs.lit rfl⟩
 subst e0
 rw [if_neg hno] at h
 have hsz:=triUp_len (e:=e) 6
 have b1:=bndD (by decide) (bw e (.head _)) 1
 have b2:=bndD (by decide) (bw e (.head _)) 2
 have b3:=bndD (by decide) (bw e (.head _)) 0
 (with_reducible refine WS.base (by assumption) ?_;refine WS.go (by assumption) ?_);refine Sp.mk ?_
 refine .inr fun f hf=> ?_
 refine Sp.mk ?_
 refine ⟨by decide,by decide,?_⟩
 refine Loop.of (TrA e E f σ') (fun _ _=>kinds1 (by with_unfolding_all exact Or.inl (kindOf_of (by assumption) (by rfl)))) ⟨z597,rfl,Hs.lit rfl⟩ (fun _ _ _ _=>trivial) (fun k i m' σ1 hi hL fr'=> ?_) (fun m' σ1 hL=> ?_)
 ·obtain ⟨hk,rfl,hv⟩:=hL
  have hi':i=k/\k<6:=by
   obtain ⟨z1,z2⟩:=List.getElem?_eq_some_iff.mp hi
   simp at z1 z2
   exact z655 z1 z2
  obtain ⟨rfl,hkb⟩:=hi'
  (with_reducible refine WS.base (Hs.both (by assumption) _) ?_;refine WS.goN (by assumption) ?_);refine Sp.mk ?_;(with_reducible refine WE.sliceA (by with_unfolding_all rfl) ?_;refine WE.go (by assumption) ?_);refine Sp.mk ?_
  refine WSb.at (sd:=.lst _) (d:=il e) (k:=0) rfl trivial rfl (by decide) ?_
  refine Sp.mk ?_;(with_reducible refine WPt.some ?_;refine WE.go (by assumption) ?_);refine Sp.mk ?_
  refine ⟨_,rfl,?_⟩
  (with_reducible refine WPt.none ?_)
  refine ⟨.lst _,rfl,rfl,trivial,by simp only [SD.ds,List.length_map,sizeLine];exact z1268 he,.inl ?_⟩
  obtain ⟨w0,w1,w2,rfl⟩:=len3 he
  rw [show pick (SD.lst ([w0,w1,w2].map D.int)).ds (some 1) none=[w1,w2].map D.int from rfl]
  refine Sp.mk ?_
  refine WSb.at (sd:=.lst _) (d:=il [w0,w1,w2]) (k:=0) rfl trivial rfl (by decide) ?_
  refine Sp.mk ?_
  refine WSb.at (sd:=.lst _) (d:=.int w0) (k:=0) rfl trivial rfl (by decide) ?_
  refine Sp.mk ?_
  refine WB.mul (mulOk_left (show w0.natAbs<_ by simp at b3;exact z718 b3.1 b3.2)) ?_
  refine Sp.mk ?_
  refine WF.at (two_ (b:=5) T (by decide) (by simp at b1;exact z714 b1.1 b1.2) (by simp at b2;exact z714 b2.1 b2.2) ?_) (by decide)
  refine Sp.mk ?_
  refine WIv.seqA rfl (sd:=.lst _) row hh rfl trivial ?_
  refine Loop.of (TrB [w0,w1,w2] E f σ' i) (fun _ _=>kinds1 (by with_unfolding_all exact Or.inl (kindOf_of (by assumption) (by rfl)))) ⟨by simp,Hs.lit rfl⟩ (fun _ _ _ _=>trivial) (fun j y m2 σ2 hy hL fr'=> ?_) (fun m2 σ2 hL=> ?_)
  ·obtain ⟨rfl,hv⟩:=hL
   have hyl:=(twoUp_row (List.mem_of_getElem? hy)).len
   have hsz2:=triUp_len (e:=[w0,w1,w2]) i
   have hsz3:=twoUp_len (w0:=w1) (w1:=w2) (want:=0-w0*(i:Int)) (b:=5) 6
   have hj:j<(twoUp w1 w2 (0-w0*(i:Int)) 5 6).length:=(List.getElem?_eq_some_iff.mp hy).1
   (with_reducible refine WS.base (Hs.both (by assumption) _) ?_;refine WS.goN (by assumption) ?_);refine Sp.mk ?_
   refine ⟨.ref f _,rfl,rfl,List.mem_cons_self,?_⟩
   refine Sp.mk ?_
   refine WB.addTs (by simp only [List.length_map,List.length_cons,List.length_nil,sizeLine];exact z719 hyl) ?_
   refine Sp.mk ?_
   refine At1.append (σ1:=[]) (by simp only [List.length_map,List.length_append,List.length_take,sizeLine];exact z1280 hj hk hsz3 hsz2) ?_
   refine Sp.mk ?_
   refine ⟨?_,Hs.lit rfl⟩
   have et:(twoUp ([w0,w1,w2].getD 1 0) ([w0,w1,w2].getD 2 0) (0-[w0,w1,w2].getD 0 0*(i:Int)) 5 6).take (j+1)=(twoUp ([w0,w1,w2].getD 1 0) ([w0,w1,w2].getD 2 0) (0-[w0,w1,w2].getD 0 0*(i:Int)) 5 6).take j++[y]:=take_next hy
   rw [et]
   simp [row]
  ·obtain ⟨rfl,hv⟩:=hL
   (with_reducible refine WS.base (by assumption) ?_;refine WS.goK (by assumption) ?_);refine Sp.mk ?_
   refine ⟨hkb,?_,Hs.lit rfl⟩
   rw [triUp_succ,triAt]
   have e1:(twoUp w1 w2 (0-w0*(i:Int)) 5 (5+1)).length=(twoUp ([w0,w1,w2].getD 1 0) ([w0,w1,w2].getD 2 0) (0-[w0,w1,w2].getD 0 0*(i:Int)) 5 6).length:=rfl
   rw [e1,List.take_length]
 ·obtain ⟨hk,rfl,hv⟩:=hL
  show WS _ _ _ _ _ _ _ _ _ _
  refine WS.base hv ?_
  refine WS.freeze (σa:=[]) ?_
  rw [show (List.range (Int.toNat 6)).length=6 from rfl]
  simp only [List.nil_append,fz_self,fz_lst,fz_nil]
  (with_reducible refine WS.goK (by assumption) ?_);refine Sp.mk ?_;(with_reducible refine WE.sliceA (by with_unfolding_all rfl) ?_;refine WE.go (by assumption) ?_);refine Sp.mk ?_;(with_reducible refine WPt.some ?_;refine WE.go (by assumption) ?_);refine Sp.mk ?_
  refine ⟨_,rfl,?_⟩
  (with_reducible refine WPt.none ?_)
  refine ⟨.lst _,rfl,rfl,trivial,by simp only [SD.ds,List.length_map,List.length_cons,sizeLine];exact z1281 hl,.inl ?_⟩
  rw [show pick (SD.lst ((e::E).map il)).ds (some 1) none=E.map il from pick_one]
  refine Sp.mk ?_
  refine WIv.seqA rfl (sd:=.lst _) il hh rfl trivial ?_
  refine Loop.of (FlL E (triUp e 6) σ') (fun _ _=>kinds1 (by with_unfolding_all exact Or.inr (kindOf_of (by assumption) (by rfl)))) ⟨rfl,Hs.lit rfl⟩ (fun _ _ _ _=>trivial) (fun k w m' σ1 hk hL fr'=> ?_) (fun m' σ1 hL=> ?_)
  ·obtain ⟨rfl,hv⟩:=hL
   have hw:=List.mem_of_getElem? hk
   obtain ⟨v0,v1,v2,rfl⟩:=len3 (hE w hw)
   have c0:=bw _ (.tail _ hw) v0 (.head _)
   have c1:=bw _ (.tail _ hw) v1 (.tail _ (.head _))
   have c2:=bw _ (.tail _ hw) v2 (.tail _ (.tail _ (.head _)))
   have hlen:=Nat.le_trans (fltUp_len (E.take k) (triUp e 6)) hsz
   have hrow:∀x∈fltUp (E.take k) (triUp e 6),Row 3 x:=fun x hx=>triUp_row (fltUp_mem.mp hx).1
   have es:=fltUp_snoc (l:=triUp e 6) hk
   generalize fltUp (E.take k) (triUp e 6)=L at*
   (with_reducible refine WS.base (Hs.both (by assumption) _) ?_;refine WS.goN (by assumption) ?_);refine Sp.mk ?_
   refine WIv.seqA rfl (sd:=.lst _) row hh rfl trivial (Turns.of (fun x=>if dot [v0,v1,v2] x=0 then some (row x) else none) (fun _ _=>loc1 rfl) trivial (by simp only [sizeLine];exact z1282 hlen) (fun x hx fr' cenv hc=>WIfs.one ?_) (.inl ?_))
   ·have g:=g.at (relab_of hc hs)
    obtain ⟨x0,x1,x2,rfl⟩:=len3 (hrow x hx).len
    (with_reducible refine WT.go (by assumption) ?_);refine Sp.mk ?_
    refine ⟨by decide,by decide,?_⟩
    refine Turns.map (fun k:Nat=>D.int ([v0,v1,v2].getD k 0*[x0,x1,x2].getD k 0)) (fun _ _=>loc1 rfl) trivial (by decide) (fun k hk fr'' cenv' hc'=> ?_) (.inl ?_)
    ·have g:=g.at (relab_of hc' (relab_of hc hs))
     (with_reducible refine WE.go (by assumption) ?_);refine Sp.mk ?_
     have hk3:k<3:=List.mem_range.mp hk
     refine WSb.at (sd:=.lst _) (d:=.int ([v0,v1,v2].getD k 0)) (k:=k) rfl trivial (get3 rfl hk3) (z1283 hk3) ?_
     refine Sp.mk ?_
     refine WSb.at (sd:=.tup _) (d:=.int ([x0,x1,x2].getD k 0)) (k:=k) rfl trivial (get3 rfl hk3) (z1283 hk3) ?_
     refine Sp.mk ?_
     have hb:=bndD (e:=[v0,v1,v2]) (b:=20) (by decide) (bw _ (.tail _ hw)) k
     refine WB.mul (mulOk_left (show ([v0,v1,v2].getD k 0).natAbs<_ by exact z718 hb.1 hb.2)) ?_
     refine Sp.mk ?_
     exact ⟨rfl,rfl⟩
    refine Sp.mk ?_
    refine At1.sum (sd:=.lst _) (l:=[v0*x0,v1*x1,v2*x2]) hh rfl trivial ?_
    refine Sp.mk ?_
    have ed:[v0*x0,v1*x1,v2*x2].sum=dot [v0,v1,v2] [x0,x1,x2]:=by simp [dot]
    rw [ed]
    by_cases q:dot [v0,v1,v2] [x0,x1,x2]=0
    ·refine brT (beq_iff_eq.mpr q) ?_
     (with_reducible refine WE.go (by assumption) ?_);refine Sp.mk ?_
     exact ⟨rfl,by rw [if_pos q]⟩
    ·refine brF (beq_eq_false_iff_ne.mpr q) ?_
     skip
     rw [if_neg q]
     exact ⟨rfl,rfl⟩
   rw [fltW_eq,<-es]
   refine Sp.mk ?_
   exact ⟨rfl,Hs.lit rfl⟩
  ·obtain ⟨rfl,hv⟩:=hL
   rw [List.take_length] at hv
   (with_reducible refine WS.base (by assumption) ?_;refine WS.goK (by assumption) ?_);refine Sp.mk ?_
   exact h
end
section
variable {c:Cx} {σ:Sto} {X:Addr->Sto->Prop} {Q:D->Sto->Prop} {K:Frag} {C:Addr}
noncomputable def grdS (f:List (List Int))(x:List Int):List (List Int):=if f.any (fun o=>inR o x) then f else f++[x]
noncomputable def posR (l:List (List Int)):List (List Int):=l.filter fun r=>decide (0<maxL r)
theorem posR_eq (l:List (List Int)):l.filterMap (fun x=>if 0<maxL x then some (row x) else none)=(posR l).map row:=by
 unfold posR
 induction l with
 | nil=>rfl
 | cons s l ih=>
  by_cases q:0<maxL s
  ·simp only [List.filterMap_cons,if_pos q,ih,List.filter_cons,decide_eq_true q,if_true,List.map_cons]
  ·simp only [List.filterMap_cons,if_neg q,ih,List.filter_cons,decide_eq_false q,Bool.false_eq_true,if_false]
theorem grd_len:∀(xs f:List (List Int)),(xs.foldl grdS f).length<=f.length+xs.length
 | [],f=>by simp
 | x::xs,f=>by
  exact z1284 (grd_len xs (grdS f x)) (by unfold grdS;split<;>simp)
theorem anyTrue (l:List (List Int))(x:List Int):((l.map fun o=>PyData.bool (inR o x)).any fun y=>PyData.eqv y (.bool true))=l.any fun o=>inR o x:=by
 induction l with
 | nil=>rfl
 | cons a l ih=>
  simp only [List.map_cons,List.any_cons,ih]
  cases inR a x<;>rfl
inductive DuL (srt:List (List Int))(a:Addr)(σ:Sto)(k:Nat)(m':Vars)(σ':Sto):Prop
 | mk (eq:σ'=(a,.lst (((srt.take k).foldl grdS []).map row))::σ) (hv:Hs m' [("_law_found",.ref a)]):DuL srt a σ k m' σ'
theorem due_ {l:List (List Int)}(T:Tp c B14 N14)(hl:l.length<=1000)(hso:(posR l).length<64\/Spc (posR l))(hne:∀r∈l,r≠[])(h:∀srt:List (List Int),srt.Perm (posR l)->srt.Pairwise keyLe->Q (.lst ((srt.foldl grdS []).map row)) σ):WF c (Room 2) "_law_due" [.lst (l.map row)] σ Q X:=by
 refine WF.byA 33 (ps:=["_law_rows_here"]) T rfl rfl (bind1 fun _ _ _ _=>rfl) (by rfl) rfl fun A fr env g r hh hs fe=> ?_
 have hpl:(posR l).length<=1000:=Nat.le_trans (List.length_filter_le _ _) hl
 refine Sp.mk ?_
 refine WIv.seqA rfl (sd:=.lst _) row hh rfl trivial (Turns.of (fun x=>if 0<maxL x then some (row x) else none) (fun _ _=>loc1 rfl) trivial (by simp only [sizeLine];exact z1285 hl) (fun x hx fr' cenv hc=>WIfs.one ?_) (.inl ?_))
 ·have g:=g.at (relab_of hc hs)
  (with_reducible refine WT.go (by assumption) ?_);refine Sp.mk ?_
  refine At1.max (sd:=.tup _) (l:=x) hh rfl (hne x hx) trivial ?_
  refine Sp.mk ?_
  by_cases q:0<maxL x
  ·refine brT (decide_eq_true q) ?_
   (with_reducible refine WE.go (by assumption) ?_);refine Sp.mk ?_
   exact ⟨rfl,by rw [if_pos q]⟩
  ·refine brF (decide_eq_false q) ?_
   skip
   rw [if_neg q]
   exact ⟨rfl,rfl⟩
 rw [posR_eq]
 refine Sp.mk ?_
 refine .inr fun a ha=> ?_
 refine Sp.mk ?_
 refine WIv.seqA rfl (sd:=.lst _) row hh rfl trivial (Turns.map keyD (fun _ _=>loc1 rfl) trivial (by simp only [sizeLine];exact z1285 hpl) (fun x hx fr' cenv hc=> ?_) (.inl ?_))
 ·have g:=g.at (relab_of hc hs)
  (with_reducible refine WE.go (by assumption) ?_);refine Sp.mk ?_
  refine At1.sum (sd:=.tup _) (l:=x) hh rfl trivial ?_
  refine Sp.mk ?_
  exact ⟨rfl,rfl⟩
 refine Sp.mk ?_
 refine At1.sortedP (sd:=.lst _) (rows:=posR l) r rfl rfl trivial hso (z1286 hpl) fun srt hp hso=>.inl ?_
 have hsl:srt.length<=1000:=hp.length_eq▸hpl
 refine Sp.mk ?_
 refine WIv.seqA rfl (sd:=.lst _) keyD hh rfl trivial ?_
 refine Loop.of (DuL srt a σ) (fun _ _=>kinds1 (by with_unfolding_all exact Or.inr (kindOf_of (by assumption) (by rfl)))) ⟨rfl,Hs.lit rfl⟩ (fun _ _ _ _=>trivial) (fun k x m' σ' hk hL fr'=> ?_) (fun m' σ' hL=> ?_)
 ·obtain ⟨rfl,hv⟩:=hL
  have hfl:=grd_len (srt.take k) []
  have es:(srt.take (k+1)).foldl grdS []=grdS ((srt.take k).foldl grdS []) x:=by rw [take_next hk,List.foldl_append];rfl
  rw [List.length_take,List.length_nil] at hfl
  generalize (srt.take k).foldl grdS []=f at*
  (with_reducible refine WS.base (Hs.both (by assumption) _) ?_;refine WS.goN (by assumption) ?_);refine Sp.mk ?_
  refine WIv.seqA rfl (sd:=.ref a _) row hh rfl List.mem_cons_self (Turns.map (fun o=>.bool (inR o x)) (fun _ _=>loc1 rfl) List.mem_cons_self (by simp only [sizeLine];exact z1287 hfl hsl) (fun o ho fr' cenv hc=> ?_) (.inl ?_))
  ·have g:=g.at (relab_of hc hs)
   (with_reducible refine WE.go (by assumption) ?_);refine Sp.mk ?_
   refine WSb.at (sd:=.tup _) (d:=row x) (k:=1) rfl trivial rfl (by decide) ?_
   refine Sp.mk ?_
   refine WF.at (lawWithin_ T ?_) (by decide)
   refine Sp.mk ?_
   exact ⟨rfl,rfl⟩
  refine Sp.mk ?_
  refine WB.notInL r (.of (Py.bool (n:=1))) (.of (Py.lst (n:=1) (.map (G:=fun o=>PyData.bool (inR o x)) fun _ _=>Py.bool))) ?_
  rw [anyTrue]
  cases hq:f.any fun o=>inR o x with
  | true=>
   rw [show grdS f x=f by unfold grdS;rw [hq,if_pos rfl]] at es
   refine Sp.mk ?_
   exact ⟨by rw [es],Hs.lit rfl⟩
  | false=>
   rw [show grdS f x=f++[x] by unfold grdS;rw [hq,if_neg (by decide)]] at es
   refine Sp.mk ?_
   refine ⟨.ref a _,rfl,rfl,List.mem_cons_self,?_⟩
   refine Sp.mk ?_
   refine WSb.at (sd:=.tup _) (d:=row x) (k:=1) rfl trivial rfl (by decide) ?_
   refine Sp.mk ?_
   refine At1.append (σ1:=[]) (by simp only [List.length_map,sizeLine];exact z1287 hfl hsl) ?_
   refine Sp.mk ?_
   exact ⟨by rw [es];simp,Hs.lit rfl⟩
 ·obtain ⟨rfl,hv⟩:=hL
  rw [List.take_length]
  refine WS.cons (W1.ret (WE.freeze ?_))
  (with_reducible refine WE.base (by assumption) ?_;refine WE.go (by assumption) ?_);refine Sp.mk ?_
  exact ⟨a,_,[],σ,rfl,rfl,Sp.mk (h srt hp hso)⟩
end
structure Grd (p f:List (List Int)):Prop where
 sub:f.Sublist p
 some:∀x∈p,∃o∈f,inR o x=true
 apart:f.Pairwise fun a b=>inR a b=false
theorem inR_self (x:List Int):inR x x=true:=by
 unfold inR
 induction x with
 | nil=>rfl
 | cons a x ih=>simp only [List.zip_cons_cons,List.all_cons,ih,Bool.and_true];exact decide_eq_true (Int.le_refl _)
theorem Grd.step {p f:List (List Int)}{x:List Int}(g:Grd p f):Grd (p++[x]) (grdS f x):=by
 unfold grdS
 split
 ·rename_i h
  refine ⟨g.sub.trans (List.sublist_append_left _ _),fun y hy=> ?_,g.apart⟩
  rcases List.mem_append.mp hy with z| z
  ·exact g.some y z
  ·rw [List.mem_singleton.mp z]
   obtain ⟨o,ho,e⟩:=List.any_eq_true.mp h
   exact ⟨o,ho,e⟩
 ·rename_i h
  refine ⟨g.sub.append (.refl _),fun y hy=> ?_,?_⟩
  ·rcases List.mem_append.mp hy with z| z
   ·obtain ⟨o,ho,e⟩:=g.some y z
    exact ⟨o,List.mem_append_left _ ho,e⟩
   ·rw [List.mem_singleton.mp z]
    exact ⟨x,List.mem_append_right _ (.head _),inR_self x⟩
  ·refine List.pairwise_append.mpr ⟨g.apart,by simp,fun a ha b hb=> ?_⟩
   rw [List.mem_singleton.mp hb]
   cases q:inR a x with
   | false=>rfl
   | true=>exact absurd (List.any_eq_true.mpr ⟨a,ha,q⟩) h
theorem Grd.all:∀(xs:List (List Int)) {p f:List (List Int)},Grd p f->Grd (p++xs) (xs.foldl grdS f)
 | [],p,f,g=>by rw [List.append_nil];exact g
 | x::xs,p,f,g=>by
  have:=Grd.all xs (g.step (x:=x))
  rw [List.append_assoc] at this
  exact this
theorem grd_ok (xs:List (List Int)):Grd xs (xs.foldl grdS []):=Grd.all xs (p:=[]) ⟨.refl _,nofun,.nil⟩
theorem keyLe_sum {a b:List Int}(h:keyLe a b):a.sum<=b.sum:=by
 unfold keyLe keyLt at h
 rw [Bool.or_eq_false_iff] at h
 exact Int.not_lt.mp (of_decide_eq_false h.1)
structure Holds (E:List (List Int))(n:Nat)(S:List (List Int)):Prop where
 row:∀s∈S,Row n s
 even:∀s∈S,Even E s
 least:∀s,Least E n s->s∈S
theorem foldl_max_le {b:Int}:∀(l:List Int) (a:Int),l.foldl max a<=b↔a<=b/\∀x∈l,x<=b
 | [],a=>by simp
 | c::l,a=>by
  simp only [List.foldl_cons,foldl_max_le l,Int.max_le]
  simp only [List.mem_cons,forall_eq_or_imp,and_assoc]
theorem maxL_pos {n:Nat}{s:List Int}(r:Row n s):0<maxL s↔0<s.sum:=by
 cases s with
 | nil=>rfl
 | cons a l=>
  have h:=foldl_max_le (b:=0) l a
  constructor
  ·intro h1
   refine Int.not_le.mp fun z=>Int.not_le.mpr h1 (h.mpr ?_)
   have key:∀x∈a::l,x<=0:=fun x hx=>by
    obtain ⟨i,hi,rfl⟩:=List.getElem_of_mem hx
    have:=get_le_sum r i
    rw [List.getD_eq_getElem?_getD,List.getElem?_eq_getElem hi] at this
    exact Int.le_trans this z
   exact ⟨key a (.head _),fun x hx=>key x (.tail _ hx)⟩
  ·intro h1
   refine Int.not_le.mp fun z=>Int.not_le.mpr h1 ?_
   obtain ⟨z1,z2⟩:=h.mp z
   have:∀(k:List Int),(∀x∈k,x<=0)->k.sum<=0:=fun k=>by
    induction k with
    | nil=>decide
    | cons b k ih=>
     intro hk
     simp only [List.sum_cons];exact z1288 (hk b (.head _)) (ih fun x hx=>hk x (.tail _ hx))
   exact this _ fun x hx=>by
    rcases List.mem_cons.mp hx with rfl| hx
    ·exact z1
    ·exact z2 x hx
theorem pw_two {α:Type}{R:α->α->Prop}{a b:α}:∀{l:List α},l.Pairwise R->a∈l->b∈l->a≠b->R a b\/R b a
 | [],_,h,_,_=>by cases h
 | c::l,p,ha,hb,ne=>by
  rw [List.pairwise_cons] at p
  rcases List.mem_cons.mp ha with ea| ha2
  ·rcases List.mem_cons.mp hb with eb| hb2
   ·exact absurd (ea.trans eb.symm) ne
   ·exact .inl (ea▸p.1 b hb2)
  ·rcases List.mem_cons.mp hb with eb| hb2
   ·exact .inr (eb▸p.1 a ha2)
   ·exact pw_two p.2 ha2 hb2 ne
theorem Holds.told {E:List (List Int)}{n:Nat}{S srt:List (List Int)}(H:Holds E n S)(hp:srt.Perm (posR S))(hs:srt.Pairwise keyLe):(srt.foldl grdS []).Pairwise (fun x y=>keyLt x y=true)/\∀s,s∈srt.foldl grdS []↔Least E n s:=by
 have g:=grd_ok srt
 generalize srt.foldl grdS []=f at g
 have hm:∀x∈srt,x∈S/\0<x.sum:=fun x hx=>by
  obtain ⟨h1,h2⟩:=List.mem_filter.mp (hp.mem_iff.mp hx)
  exact ⟨h1,(maxL_pos (H.row x h1)).mp (of_decide_eq_true h2)⟩
 have hfs:=hs.sublist g.sub
 have hlst:∀s,Least E n s->s∈f:=fun s l=>by
  obtain ⟨o,ho,e⟩:=g.some s ((fun x hx hx0=>hp.mem_iff.mpr (List.mem_filter.mpr ⟨hx,decide_eq_true ((maxL_pos (H.row x hx)).mpr hx0)⟩)) s (H.least s l) l.pos)
  have ho2:=hm o (g.sub.mem ho)
  have:=l.least o (H.row o ho2.1) (H.even o ho2.1) ho2.2 (((H.row o ho2.1).inR l.row).mp e)
  exact this▸ho
 have hst:f.Pairwise fun x y=>keyLt x y=true:=by
  refine (List.pairwise_and_iff.mpr ⟨hfs,g.apart⟩).imp fun {x y} h=> ?_
  cases q:keyLt x y with
  | true=>rfl
  | false=>
   have e:=keyLt_total q h.1
   rw [e,inR_self] at h
   nomatch h.2
 exact ⟨hst,fun s=>⟨(fun s hsf=>by
  have hs2:=hm s (g.sub.mem hsf)
  have rs:=H.row s hs2.1
  obtain ⟨t,lt,le⟩:=least_below s.sum.toNat (Nat.le_refl _) rs (H.even s hs2.1) hs2.2
  by_cases q:t=s
  ·exact q▸lt
  ·exfalso
   rcases pw_two (List.pairwise_and_iff.mpr ⟨hfs,g.apart⟩) (hlst t lt) hsf q with z| z
   ·rw [(lt.row.inR rs).mpr le] at z
    nomatch z.2
   ·exact q (Le.eq lt.row rs le (keyLe_sum z.1)):∀s∈f,Least E n s) s,hlst s⟩⟩
theorem Holds.due {E:List (List Int)}{n:Nat}{S srt out:List (List Int)}(H:Holds E n S)(L:Lst E n out)(hp:srt.Perm (posR S))(hs:srt.Pairwise keyLe):srt.foldl grdS []=out:=
 have h:=H.told hp hs
 sorted_eq h.1 L.srt fun s=>(h.2 s).trans (L.mem s).symm
theorem twoAt_mem {w0 w1 want:Int}{b i:Nat}{r:List Int}:r∈twoAt w0 w1 want b i↔∃y:Int,r=[(i:Int),y]/\0<=y/\y<=(b:Int)/\w0*(i:Int)+w1*y=want:=by
 unfold twoAt
 by_cases hz:w1=0
 ·rw [if_pos hz]
  subst hz
  by_cases h0:want-w0*(i:Int)=0
  ·rw [if_pos h0]
   constructor
   ·intro h
    obtain ⟨j,hj,rfl⟩:=List.mem_map.mp h
    have:=List.mem_range.mp hj
    exact ⟨j,rfl,z289,z1289 this,z1290 h0⟩
   ·rintro ⟨y,rfl,y0,yb,_⟩
    exact List.mem_map.mpr ⟨y.toNat,List.mem_range.mpr (z401 yb),by rw [Int.toNat_of_nonneg y0]⟩
  ·rw [if_neg h0]
   constructor
   ·intro h;contradiction
   ·rintro ⟨y,rfl,y0,yb,e⟩
    exact absurd (z1291 e h0).elim h0
 ·rw [if_neg hz]
  constructor
  ·intro h
   split at h
   ·rename_i q
    rw [List.mem_singleton.mp h]
    refine ⟨_,rfl,q.2.1,q.2.2,?_⟩
    exact z1292 (Int.mul_fdiv_add_fmod (want-w0*(i:Int)) w1) q.1
   ·nomatch h
  ·rintro ⟨y,rfl,y0,yb,e⟩
   rw [(z1293 e),Int.mul_fdiv_cancel_left _ hz,Int.mul_fmod_right,if_pos ⟨rfl,y0,yb⟩]
   exact .head _
theorem twoUp_mem {w0 w1 want:Int}{b k:Nat}{r:List Int}:r∈twoUp w0 w1 want b k↔∃x y:Int,r=[x,y]/\0<=x/\x<(k:Int)/\0<=y/\y<=(b:Int)/\w0*x+w1*y=want:=by
 unfold twoUp
 rw [List.mem_flatMap]
 constructor
 ·rintro ⟨i,hi,h⟩
  obtain ⟨y,rfl,y0,yb,e⟩:=twoAt_mem.mp h
  exact ⟨i,y,rfl,z289,z943 (List.mem_range.mp hi),y0,yb,e⟩
 ·rintro ⟨x,y,rfl,x0,xk,y0,yb,e⟩
  refine ⟨x.toNat,List.mem_range.mpr (z309 x0 xk),twoAt_mem.mpr ⟨y,?_,y0,yb,?_⟩⟩
  ·rw [Int.toNat_of_nonneg x0]
  ·rw [Int.toNat_of_nonneg x0];exact e
theorem triUp_mem {e:List Int}{r:List Int}:r∈triUp e 6↔∃x y z:Int,r=[x,y,z]/\(0<=x/\x<=5)/\(0<=y/\y<=5)/\(0<=z/\z<=5)/\e.getD 0 0*x+e.getD 1 0*y+e.getD 2 0*z=0:=by
 unfold triUp
 rw [List.mem_flatMap]
 constructor
 ·rintro ⟨i,hi,h⟩
  obtain ⟨p,hp,rfl⟩:=List.mem_map.mp h
  obtain ⟨y,z,rfl,y0,y5,z0,z5,e⟩:=twoUp_mem.mp hp
  exact ⟨i,y,z,rfl,z1294 (List.mem_range.mp hi),z1295 y5 y0,z1296 z5 z0,z1297 e⟩
 ·rintro ⟨x,y,z,rfl,x1,y1,z1,e⟩
  refine ⟨x.toNat,List.mem_range.mpr (z1298 x1.2),List.mem_map.mpr ⟨[y,z],twoUp_mem.mpr ⟨y,z,rfl,y1.1,z1299 y1.2,z1.1,z1300 z1.2,?_⟩,?_⟩⟩
  ·rw [Int.toNat_of_nonneg x1.1];exact z1301 e
  ·rw [Int.toNat_of_nonneg x1.1]
theorem even_iff {E:List (List Int)}{v:List Int}:Even E v↔∀e∈E,dot e v=0:=by
 constructor
 ·exact fun h e he=>h _ (List.mem_map.mpr ⟨e,he,rfl⟩)
 ·rintro h x hx
  obtain ⟨e,he,rfl⟩:=List.mem_map.mp hx
  exact h e he
theorem holds2 {E:List (List Int)}{e:List Int}(he:e.length=2)(hE:∀r∈E,r.length=2)(hb:∀s,Least (e::E) 2 s->∀i,s.getD i 0<=20):Holds (e::E) 2 (fltUp E (twoUp (e.getD 0 0) (e.getD 1 0) 0 20 21)):=by
 obtain ⟨w0,w1,rfl⟩:=len2 he
 refine ⟨fun s hs=>twoUp_row (fltUp_mem.mp hs).1,fun s hs=>even_iff.mpr fun d hd=> ?_,fun s l=> ?_⟩
 ·obtain ⟨h1,h2⟩:=fltUp_mem.mp hs
  rcases List.mem_cons.mp hd with rfl| hd
  ·obtain ⟨x,y,rfl,_,_,_,_,q⟩:=twoUp_mem.mp h1
   simpa [dot] using q
  ·exact h2 d hd
 ·have ev:=even_iff.mp l.even
  refine fltUp_mem.mpr ⟨?_,fun d hd=>ev d (.tail _ hd)⟩
  obtain ⟨x,y,rfl⟩:=len2 l.row.len
  have b0:=hb _ l 0
  have b1:=hb _ l 1
  have p0:=l.row.pos 0
  have p1:=l.row.pos 1
  have q:=ev _ (.head _)
  simp [dot] at b0 b1 p0 p1 q
  exact twoUp_mem.mpr ⟨x,y,rfl,p0,z1302 b0,p1,b1,by trivial⟩
theorem holds3 {E:List (List Int)}{e:List Int}(he:e.length=3)(hb:∀s,Least (e::E) 3 s->∀i,s.getD i 0<=5):Holds (e::E) 3 (fltUp E (triUp e 6)):=by
 obtain ⟨w0,w1,w2,rfl⟩:=len3 he
 refine ⟨fun s hs=>triUp_row (fltUp_mem.mp hs).1,fun s hs=>even_iff.mpr fun d hd=> ?_,fun s l=> ?_⟩
 ·obtain ⟨h1,h2⟩:=fltUp_mem.mp hs
  rcases List.mem_cons.mp hd with rfl| hd
  ·obtain ⟨x,y,z,rfl,_,_,_,q⟩:=triUp_mem.mp h1
   simp [dot];exact z1303 q
  ·exact h2 d hd
 ·have ev:=even_iff.mp l.even
  refine fltUp_mem.mpr ⟨?_,fun d hd=>ev d (.tail _ hd)⟩
  obtain ⟨x,y,z,rfl⟩:=len3 l.row.len
  have b0:=hb _ l 0
  have b1:=hb _ l 1
  have b2:=hb _ l 2
  have p0:=l.row.pos 0
  have p1:=l.row.pos 1
  have p2:=l.row.pos 2
  have q:=ev _ (.head _)
  simp [dot] at b0 b1 b2 p0 p1 p2 q
  exact triUp_mem.mpr ⟨x,y,z,rfl,⟨p0,b0⟩,⟨p1,b1⟩,⟨p2,b2⟩,by exact z1304 q⟩
theorem Least.less {E F:List (List Int)}{n:Nat}{s:List Int}(l:Least E n s)(sub:∀g,Even E g->Even F g)(h:∀g,Row n g->Even F g->0<g.sum->Le g s->Even E g):Least F n s:=
 ⟨l.row,sub s l.even,l.pos,fun g r e p q=>l.least g r (h g r e p q) p q⟩
theorem getD_bnd {e:List Int}{w:Nat}(h:∀x∈e,-(w:Int)<=x/\x<=w)(i:Nat): -(w:Int)<=e.getD i 0/\e.getD i 0<=w:=by
 rw [List.getD_eq_getElem?_getD]
 by_cases hi:i<e.length
 ·rw [List.getElem?_eq_getElem hi];exact h _ (List.getElem_mem hi)
 ·rw [List.getElem?_eq_none (z12 hi)];simp
theorem mul_zero2 {a b:Int}(h:a*b=0)(hb:b≠0):a=0:=(Int.mul_eq_zero.mp h).resolve_right hb
theorem least2_one {E:List (List Int)}{e s:List Int}(he:e∈E)(hE:∀r∈E,r.length=2)(h0:e≠[0,0])(l:Least E 2 s):Least [e] 2 s:=by
 refine l.less (fun g hg=>even_iff.mpr fun d hd=>List.mem_singleton.mp hd▸even_iff.mp hg e he) fun g r ev p q=>even_iff.mpr fun d hd=> ?_
 obtain ⟨a,b,rfl⟩:=len2 (hE e he)
 obtain ⟨u,v,rfl⟩:=len2 (hE d hd)
 obtain ⟨x,y,rfl⟩:=len2 l.row.len
 obtain ⟨z,t,rfl⟩:=len2 r.len
 have e1:=even_iff.mp ev _ (.head _)
 have e2:=even_iff.mp l.even _ he
 have e3:=even_iff.mp l.even _ hd
 have lp:=l.pos
 simp [dot] at e1 e2 e3 lp⊢
 have cr:x*t=y*z:=by
  by_cases ha:a=0
  ·have hb:b≠0:=fun q=>h0 (by rw [ha,q])
   rw [ha,Int.zero_mul,Int.zero_add] at e1 e2
   have:=mul_zero2 ((Int.mul_comm _ _).trans e1) hb
   have:=mul_zero2 ((Int.mul_comm _ _).trans e2) hb
   grind
  ·have:a*(x*t-y*z)=0:=by grind
   exact z424 (mul_zero2 ((Int.mul_comm _ _).trans this) ha)
 by_cases hx:x=0
 ·exact mul_zero2 (by grind) fun hy=>z1305 lp hy hx
 ·exact mul_zero2 (by grind) hx
theorem least2_le {E:List (List Int)}{s:List Int}(hE:∀r∈E,r.length=2)(hw:∀r∈E,∀x∈r,-20<=x/\x<=20)(l:Least E 2 s)(i:Nat):s.getD i 0<=20:=by
 by_cases h:∃e∈E,e≠[0,0]
 ·obtain ⟨e,he,h0⟩:=h
  exact entry_le (w:=20) (hE e he) (least2_one he hE h0 l) (getD_bnd (w:=20) (hw e he)) (by decide) i
 ·refine entry_le (w:=20) (e:=[0,0]) rfl (l.less (fun g hg=>even_iff.mpr fun d hd=> ?_) fun g r _ _ _=>(fun g hg=>even_iff.mpr fun e he=>by
   have:e=[0,0]:=Classical.byContradiction fun q=>h ⟨e,he,q⟩
   obtain ⟨x,y,rfl⟩:=len2 hg
   rw [this];simp [dot]:∀g:List Int,g.length=2->Even E g) g r.len) (getD_bnd (w:=20) (by decide)) (by decide) i
  rw [List.mem_singleton.mp hd]
  simp [dot]
  cases g with
  | nil=>rfl
  | cons a g=>cases g<;>simp
theorem least3_one {e s:List Int}{w:Nat}(he:e.length=3)(hw:∀x∈e,-(w:Int)<=x/\x<=w)(w1:1<=w)(l:Least [e] 3 s)(i:Nat):s.getD i 0<=w:=
 entry_le he l (getD_bnd hw) w1 i
theorem least3_par {e f s:List Int}(he:e.length=3)(hf:f.length=3)(bw:∀r∈[e,f],∀x∈r,-3<=x/\x<=3)(h0:crsL e f=[0,0,0])(l:Least [e,f] 3 s)(i:Nat):s.getD i 0<=5:=by
 have be:=bw e (.head _)
 have bf:=bw f (.tail _ (.head _))
 obtain ⟨a,b,c,rfl⟩:=len3 he
 obtain ⟨u,v,w,rfl⟩:=len3 hf
 have hc:b*w-c*v=0/\c*u-a*w=0/\a*v-b*u=0:=by
  have:crsL [a,b,c] [u,v,w]=[b*w-c*v,c*u-a*w,a*v-b*u]:=rfl
  rw [this] at h0
  simpa using h0
 obtain ⟨c1,c2,c3⟩:=hc
 by_cases q:a=0/\b=0/\c=0
 ·obtain ⟨rfl,rfl,rfl⟩:=q
  have l2:=l.less (fun g hg=>even_iff.mpr fun d hd=>even_iff.mp hg d (.tail _ hd)) fun g r ev _ _=>even_iff.mpr fun d hd=>by
   rcases List.mem_cons.mp hd with rfl| hd
   ·obtain ⟨x,y,z,rfl⟩:=len3 r.len
    simp [dot]
   ·exact even_iff.mp ev d hd
  exact z1306 (least3_one (w:=3) hf bf (by decide) l2 i)
 ·exact z1306 (least3_one (w:=3) he be (by decide) (l.less (fun g hg=>even_iff.mpr fun d hd=>even_iff.mp hg d (List.mem_singleton.mp hd▸.head _)) fun g r ev _ _=>even_iff.mpr fun d hd=>by
   rcases List.mem_cons.mp hd with rfl| hd
   ·exact even_iff.mp ev _ (.head _)
   ·rw [List.mem_singleton.mp hd]
    have e1:=even_iff.mp ev _ (.head _)
    obtain ⟨x,y,z,rfl⟩:=len3 r.len
    simp [dot] at e1⊢
    by_cases ha:a=0
    ·by_cases hb:b=0
     ·refine mul_zero2 (b:=c) ?_ (fun z=>q ⟨ha,hb,z⟩)
      grind
     ·refine mul_zero2 (b:=b) ?_ hb
      grind
    ·refine mul_zero2 (b:=a) ?_ ha
     grind) i)
theorem on_par {a b c u v w x y z p q r:Int}(hp:p=b*w-c*v)(hq:q=c*u-a*w)(hr:r=a*v-b*u)(e1:a*x+(b*y+c*z)=0)(e2:u*x+(v*y+w*z)=0):x*q=y*p/\x*r=z*p/\y*r=z*q:=by
 subst hp hq hr
 refine ⟨?_,?_,?_⟩<;>grind
theorem ray3 {x y z P Q R P' Q' R' G:Nat}(hP:P=G*P')(hQ:Q=G*Q')(hR:R=G*R')(hG:G=Nat.gcd (Nat.gcd P Q) R)(h0:0<P)(h1:x*Q=y*P)(h2:x*R=z*P):∃k,x=k*P'/\y=k*Q'/\z=k*R':=by
 have d:P∣x*G:=by
  rw [hG,<-Nat.gcd_mul_left,<-Nat.gcd_mul_left]
  exact Nat.dvd_gcd (Nat.dvd_gcd (Nat.dvd_mul_left P x) (h1▸Nat.dvd_mul_left P y)) (h2▸Nat.dvd_mul_left P z)
 obtain ⟨k,hk⟩:=d
 have hx:x=k*P':=Nat.eq_of_mul_eq_mul_left (Nat.pos_of_ne_zero fun q=>by rw [hP,q,Nat.zero_mul] at h0;exact absurd h0 (Nat.lt_irrefl _):0<G) (by rw [Nat.mul_comm G x,hk,hP];grind)
 refine ⟨k,hx,?_,?_⟩
 ·refine Nat.eq_of_mul_eq_mul_right h0 ?_
  rw [<-h1,hx,hQ,hP];grind
 ·refine Nat.eq_of_mul_eq_mul_right h0 ?_
  rw [<-h2,hx,hR,hP];grind
theorem ray3' {x y z P Q R P' Q' R' G:Nat}(hP:P=G*P')(hQ:Q=G*Q')(hR:R=G*R')(hG:G=Nat.gcd (Nat.gcd P Q) R)(h0:0<P\/0<Q\/0<R)(h1:x*Q=y*P)(h2:x*R=z*P)(h3:y*R=z*Q):∃k,x=k*P'/\y=k*Q'/\z=k*R':=by
 rcases h0 with h| h| h
 ·exact ray3 hP hQ hR hG h h1 h2
 ·obtain ⟨k,a,b,c⟩:=ray3 (x:=y) (y:=x) (z:=z) hQ hP hR (by rw [hG,Nat.gcd_comm Q P]) h h1.symm h3
  exact ⟨k,b,a,c⟩
 ·obtain ⟨k,a,b,c⟩:=ray3 (x:=z) (y:=x) (z:=y) hR hP hQ (by rw [hG,Nat.gcd_assoc R P Q,Nat.gcd_comm R]) h h2.symm h3.symm
  exact ⟨k,b,c,a⟩
theorem sgn0 {x y p q:Int}(hx:0<=x)(hy:0<=y)(h:x*q=y*p)(hp:p<0)(hq:0<q):x=0/\y=0:=by
 have a:=Int.mul_nonneg hx (Int.le_of_lt hq)
 have b:=Int.mul_nonneg hy (z349 hp)
 rw [Int.mul_neg] at b
 exact ⟨mul_zero2 (b:=q) (z1307 b a h) (z775 hq),mul_zero2 (b:=p) (z1308 b a h) (z1309 hp)⟩
theorem gcd3_eq {p q r:Int}:gcdUp [p,q,r]=Nat.gcd (Nat.gcd p.natAbs q.natAbs) r.natAbs:=by
 show Nat.gcd (Nat.gcd (Nat.gcd 0 p.natAbs) q.natAbs) r.natAbs=_
 rw [Nat.gcd_zero_left]
theorem crs_eq3 {a b c u v w : Int} : crsL [a, b, c] [u, v, w] = [b * w - c * v, c * u - a * w, a * v - b * u] := rfl
theorem holdsOn {e f:List Int}(he:e.length=3)(hf:f.length=3)(h0:crsL e f≠[0,0,0]):Holds [e,f] 3 (onL (crsL e f)):=by
 obtain ⟨a,b,c,rfl⟩:=len3 he
 obtain ⟨u,v,w,rfl⟩:=len3 hf
 simp only [crs_eq3] at h0⊢
 generalize hp:b*w-c*v=p at h0⊢
 generalize hq:c*u-a*w=q at h0⊢
 generalize hr:a*v-b*u=r at h0⊢
 have nz:p≠0\/q≠0\/r≠0:=by
  by_cases h1:p=0
  ·by_cases h2:q=0
   ·exact .inr (.inr fun h3=>h0 (by simp only [h1,h2,h3]))
   ·exact .inr (.inl h2)
  ·exact .inl h1
 have par:∀x y z,Even [[a,b,c],[u,v,w]] [x,y,z]->x*q=y*p/\x*r=z*p/\y*r=z*q:=fun x y z ev=>by
  have e1:=even_iff.mp ev _ (.head _)
  have e2:=even_iff.mp ev _ (.tail _ (.head _))
  simp [dot] at e1 e2
  exact on_par hp.symm hq.symm hr.symm e1 e2
 unfold onL
 by_cases hm:minL [p,q,r]<0/\0<maxL [p,q,r]
 ·rw [if_pos hm]
  refine ⟨nofun,nofun,fun s l=> ?_⟩
  exfalso
  obtain ⟨x,y,z,rfl⟩:=len3 l.row.len
  have p0:=l.row.pos 0
  have p1:=l.row.pos 1
  have p2:=l.row.pos 2
  have lp:=l.pos
  obtain ⟨k1,k2,k3⟩:=par x y z l.even
  simp at p0 p1 p2 lp
  have e1:minL [p,q,r]=min (min p q) r:=rfl
  have e2:maxL [p,q,r]=max (max p q) r:=rfl
  have zz:∀{t m:Int},t*m=0->m≠0->t=0:=fun h hm=>mul_zero2 h hm
  by_cases hpn:p<0
  ·by_cases hqp:0<q
   ·obtain ⟨x0,y0⟩:=sgn0 p0 p1 k1 hpn hqp
    rw [x0,Int.zero_mul] at k2
    have:=zz k2.symm (z1309 hpn)
    exact z1310 lp this y0 x0
   ·have hrp:0<r:=z1311 hpn hm.2 hqp
    obtain ⟨x0,z0⟩:=sgn0 p0 p2 k2 hpn hrp
    rw [x0,Int.zero_mul] at k1
    have:=zz k1.symm (z1309 hpn)
    exact z1312 lp this z0 x0
  ·by_cases hqn:q<0
   ·by_cases hpp:0<p
    ·obtain ⟨y0,x0⟩:=sgn0 p1 p0 k1.symm hqn hpp
     rw [y0,Int.zero_mul] at k3
     have:=zz k3.symm (z1309 hqn)
     exact z1313 lp this x0 y0
    ·have hrp:0<r:=z1314 hqn hm.2 hpp
     obtain ⟨y0,z0⟩:=sgn0 p1 p2 k3 hqn hrp
     rw [y0,Int.zero_mul] at k1
     have:=zz k1 (z1309 hqn)
     exact z1315 lp this z0 y0
   ·have hrn:r<0:=z1316 hm.1 hqn hpn
    by_cases hpp:0<p
    ·obtain ⟨z0,x0⟩:=sgn0 p2 p0 k2.symm hrn hpp
     rw [z0,Int.zero_mul] at k3
     have:=zz k3 (z1309 hrn)
     exact z1317 lp this x0 z0
    ·have hqp:0<q:=z1318 hrn hm.2 hpp
     obtain ⟨z0,y0⟩:=sgn0 p2 p1 k3.symm hrn hqp
     rw [z0,Int.zero_mul] at k2
     have:=zz k2 (z1309 hrn)
     exact z1319 lp this y0 z0
 ·rw [if_neg hm]
  have e1:minL [p,q,r]=min (min p q) r:=rfl
  have e2:maxL [p,q,r]=max (max p q) r:=rfl
  rw [e1,e2] at hm
  have sg:(0<=p/\0<=q/\0<=r)\/(p<=0/\q<=0/\r<=0):=z1320 hm
  clear hm e1 e2
  have dP:=Nat.dvd_trans (Nat.gcd_dvd_left (Nat.gcd p.natAbs q.natAbs) r.natAbs) (Nat.gcd_dvd_left p.natAbs q.natAbs)
  have dQ:=Nat.dvd_trans (Nat.gcd_dvd_left (Nat.gcd p.natAbs q.natAbs) r.natAbs) (Nat.gcd_dvd_right p.natAbs q.natAbs)
  have dR:=Nat.gcd_dvd_right (Nat.gcd p.natAbs q.natAbs) r.natAbs
  rw [gcd3_eq]
  generalize hG:Nat.gcd (Nat.gcd p.natAbs q.natAbs) r.natAbs=G at*
  obtain ⟨P',hP⟩:=dP
  obtain ⟨Q',hQ⟩:=dQ
  obtain ⟨R',hR⟩:=dR
  have g0:0<G:=Nat.pos_of_ne_zero fun z=>by rw [z] at hP hQ hR;exact z1321 hQ hR hP nz
  have hdiv:([p,q,r].map fun x=>absI x/(G:Int))=[(P':Int),(Q':Int),(R':Int)]:=by
   simp only [List.map_cons,List.map_nil,absI_ok,hP,hQ,hR]
   have gg:(G:Int)≠0:=z373 g0
   simp only [Int.natCast_mul,Int.mul_ediv_cancel_left _ gg]
  rw [hdiv]
  have sg2:(p=G*P'/\q=G*Q'/\r=G*R')\/(-p=G*P'/\-q=G*Q'/\-r=G*R'):=by
   rcases sg with ⟨h1,h2,h3⟩| ⟨h1,h2,h3⟩
   ·exact .inl ⟨by rw [<-Int.natCast_mul,<-hP];exact z1322 h1,by rw [<-Int.natCast_mul,<-hQ];exact z1322 h2,by rw [<-Int.natCast_mul,<-hR];exact z1322 h3⟩
   ·exact .inr ⟨by rw [<-Int.natCast_mul,<-hP];exact z1323 h1,by rw [<-Int.natCast_mul,<-hQ];exact z1323 h2,by rw [<-Int.natCast_mul,<-hR];exact z1323 h3⟩
  have hrow:Row 3 [(P':Int),(Q':Int),(R':Int)]:=.of rfl fun x hx=>by
   simp at hx;rcases hx with rfl| rfl| rfl<;>lia
  have gi:(G:Int)≠0:=z373 g0
  have hev:Even [[a,b,c],[u,v,w]] [(P':Int),(Q':Int),(R':Int)]:=even_iff.mpr fun d hd=>by
   rcases List.mem_cons.mp hd with rfl| hd
   ·simp [dot]
    refine mul_zero2 (b:=(G:Int)) ?_ gi
    rcases sg2 with ⟨h1,h2,h3⟩| ⟨h1,h2,h3⟩<;>grind
   ·rw [List.mem_singleton.mp hd]
    simp [dot]
    refine mul_zero2 (b:=(G:Int)) ?_ gi
    rcases sg2 with ⟨h1,h2,h3⟩| ⟨h1,h2,h3⟩<;>grind
  refine ⟨fun s hs=>List.mem_singleton.mp hs▸hrow,fun s hs=>List.mem_singleton.mp hs▸hev,fun s l=> ?_⟩
  obtain ⟨x,y,z,rfl⟩:=len3 l.row.len
  have p0:=l.row.pos 0
  have p1:=l.row.pos 1
  have p2:=l.row.pos 2
  have lp:=l.pos
  obtain ⟨k1,k2,k3⟩:=par x y z l.even
  simp at p0 p1 p2 lp
  obtain ⟨X,rfl⟩:=Int.eq_ofNat_of_zero_le p0
  obtain ⟨Y,rfl⟩:=Int.eq_ofNat_of_zero_le p1
  obtain ⟨Z,rfl⟩:=Int.eq_ofNat_of_zero_le p2
  have tr:∀{A B:Nat} {m t:Int},(A:Int)*m=(B:Int)*t->(0<=m/\0<=t\/m<=0/\t<=0)->A*m.natAbs=B*t.natAbs:=fun h hs=>by
   have:=congrArg Int.natAbs h
   simpa [Int.natAbs_mul] using this
  have t1:=tr k1 (z1324 sg)
  have t2:=tr k2 (z1325 sg)
  have t3:=tr k3 (z1326 sg)
  obtain ⟨k,hx,hy,hz⟩:=ray3' hP hQ hR hG.symm (z1327 nz) t1 t2 t3
  have hk:0<k:=Nat.pos_of_ne_zero fun q=>by
   rw [q,Nat.zero_mul] at hx hy hz
   exact z1328 lp hz hy hx
  have le:Le [(P':Int),(Q':Int),(R':Int)] [(X:Int),(Y:Int),(Z:Int)]:=by
   have f:∀m:Nat,m<=k*m:=fun m=>Nat.le_mul_of_pos_left m hk
   intro i
   match i with
   | 0=>have:=f P';simp;exact z878 hx this
   | 1=>have:=f Q';simp;exact z878 hy this
   | 2=>have:=f R';simp;exact z878 hz this
   | i+3=>simp
  have pos:0<([(P':Int),(Q':Int),(R':Int)]).sum:=by
   simp
   have:P'≠0\/Q'≠0\/R'≠0:=by
    rcases nz with h| h| h
    ·exact .inl fun z=>h (by rw [z,Nat.mul_zero] at hP;exact (z1329 hP h).elim)
    ·exact .inr (.inl fun z=>h (by rw [z,Nat.mul_zero] at hQ;exact (z1329 hQ h).elim))
    ·exact .inr (.inr fun z=>h (by rw [z,Nat.mul_zero] at hR;exact (z1329 hR h).elim))
   exact z1330 this
  rw [<-l.least _ hrow hev pos le]
  exact .head _
theorem EqW.holds {n q:Nat}{w:Int}{E:List (List Int)}(W:EqW n q w E):Holds E n (evS n E):=by
 have hl:=W.len
 have ha:=W.all
 unfold evS
 cases W.mw with
 | two hn h1 h3 hw=>
  subst hn hw
  rw [if_pos rfl]
  cases E with
  | nil=>simp at hl;lia
  | cons e E=>
   exact holds2 (ha e (.head _)).1 (fun r hr=>(ha r (.tail _ hr)).1) fun s l i=>least2_le (fun r hr=>(ha r hr).1) (fun r hr=>(ha r hr).2) l i
 | one hn hq hw=>
  subst hn hq hw
  rw [if_neg (by decide)]
  obtain ⟨e,rfl⟩:=List.length_eq_one_iff.mp hl
  exact holds3 (ha e (.head _)).1 fun s l i=>least3_one (w:=5) (ha e (.head _)).1 (ha e (.head _)).2 (by decide) l i
 | both hn hq hw=>
  subst hn hq hw
  rw [if_neg (by decide)]
  obtain ⟨e,f,rfl⟩:=len2 hl
  have he:=ha e (.head _)
  have hf:=ha f (.tail _ (.head _))
  by_cases h0:crsL e f=[0,0,0]
  ·rw [if_neg fun z=>z.2 h0]
   exact holds3 he.1 fun s l i=>least3_par he.1 hf.1 (fun r hr=>(ha r hr).2) h0 l i
  ·rw [if_pos ⟨rfl,h0⟩]
   exact holdsOn he.1 hf.1 h0
theorem EqW.evlen {n q:Nat}{w:Int}{E:List (List Int)}(W:EqW n q w E):(evS n E).length<=441:=by
 unfold evS
 split
 ·exact Nat.le_trans (fltUp_len _ _) (twoUp_len 21)
 ·split
  ·unfold onL;split<;>exact Nat.le_add_left _ _
  ·exact Nat.le_trans (fltUp_len _ _) (Nat.le_trans (triUp_len 6) (by decide))
theorem EqW.fits {n q:Nat}{w:Int}{E:List (List Int)}(W:EqW n q w E):Fits6 E n:=by
 have hl:=W.len
 have ha:=W.all
 cases W.mw with
 | two hn h1 h3 hw=>
  subst hn hw
  exact Fits6.small (.inr rfl) (fun r hr=>(ha r hr).1) (z645 hl h3) fun r hr=>(ha r hr).2
 | one hn hq hw=>
  subst hn hq hw
  exact Fits6.line3 (fun r hr=>(ha r hr).1) (z28 hl) fun r hr=>(ha r hr).2
 | both hn hq hw=>
  subst hn hq hw
  obtain ⟨e,f,rfl⟩:=len2 hl
  have he:=ha e (.head _)
  have hf:=ha f (.tail _ (.head _))
  exact Fits6.two3 he.1 hf.1 fun i=>⟨getD_bnd (w:=3) he.2 i,getD_bnd (w:=3) hf.2 i⟩
theorem pair_told {a b:Int}(ha: -20<=a/\a<=20)(hb: -20<=b/\b<=20){srt:List (List Int)}(hp:srt.Perm (posR (twoUp a b 0 20 21)))(hs:srt.Pairwise keyLe):(srt.foldl grdS []).Pairwise (fun x y=>keyLt x y=true)/\∀s,s∈srt.foldl grdS []↔Least [[a,b]] 2 s:=by
 have hw:∀r∈[[a,b]],∀x∈r,-20<=x/\x<=20:=fun r hr x hx=>by
  rw [List.mem_singleton.mp hr] at hx
  simp at hx
  rcases hx with rfl| rfl
  ·exact ha
  ·exact hb
 have H:Holds [[a,b]] 2 (twoUp a b 0 20 21):=holds2 (E:=[]) (e:=[a,b]) rfl nofun fun s l i=>least2_le (fun r hr=>List.mem_singleton.mp hr▸rfl) hw l i
 exact H.told hp hs
theorem twoAt_nodup {w0 w1 want:Int}{b i:Nat}:(twoAt w0 w1 want b i).Nodup:=by
 unfold twoAt
 split
 ·split
  ·rw [List.Nodup,List.pairwise_map]
   refine List.pairwise_lt_range.imp fun {x y} h e=> ?_
   injection e with _ e
   injection e with e
   exact z1359 e h
  ·exact .nil
 ·split
  ·exact List.pairwise_singleton ..
  ·exact .nil
theorem twoUp_nodup {w0 w1 want:Int}{b k:Nat}:(twoUp w0 w1 want b k).Nodup:=by
 unfold twoUp
 rw [List.Nodup,List.pairwise_flatMap]
 refine ⟨fun a _=>twoAt_nodup,List.pairwise_lt_range.imp fun {x y} h r hr t ht e=> ?_⟩
 obtain ⟨p,rfl,_⟩:=twoAt_mem.mp hr
 obtain ⟨q,rfl,_⟩:=twoAt_mem.mp ht
 injection e with e
 exact z1359 e h
theorem triUp_nodup {e:List Int}{k:Nat}:(triUp e k).Nodup:=by
 unfold triUp
 rw [List.Nodup,List.pairwise_flatMap]
 refine ⟨fun a _=> ?_,List.pairwise_lt_range.imp fun {x y} h r hr t ht e=> ?_⟩
 ·unfold triAt
  rw [List.pairwise_map]
  refine (twoUp_nodup (k:=6)).imp fun {p q} h e=>h ?_
  injection e
 ·obtain ⟨p,_,rfl⟩:=List.mem_map.mp hr
  obtain ⟨q,_,rfl⟩:=List.mem_map.mp ht
  injection e with e
  exact z1359 e h
theorem fltUp_sub:∀(ws l:List (List Int)),(fltUp ws l).Sublist l
 | [],l=>.refl _
 | w::ws,l=>(fltUp_sub ws (fltW w l)).trans List.filter_sublist
theorem fltUp_all:∀{ws l:List (List Int)},(∀w∈ws,∀r∈l,dot w r=0)->fltUp ws l=l
 | [],l,_=>rfl
 | w::ws,l,h=>by
  exact (congrArg _ ((List.filter_eq_self.mpr fun r hr=>decide_eq_true (h w (.head _) r hr)) ..)).trans (fltUp_all fun w' hw r hr=>h w' (.tail _ hw) r hr)
theorem count_pair {l:List (List Int)}{i j:Nat}(nd:l.Nodup)(hb:∀s∈l,(0<=s.getD i 0/\s.getD i 0<=5)/\(0<=s.getD j 0/\s.getD j 0<=5))(inj:∀s∈l,∀t∈l,s.getD i 0=t.getD i 0->s.getD j 0=t.getD j 0->s=t):l.length<=36:=by
 have:=length_le_of_nodup (l:=l.map fun s=>[s.getD i 0,s.getD j 0]) (F:=boxL [6,6]) (by
  rw [List.Nodup,List.pairwise_map]
  refine List.Pairwise.imp_of_mem (fun {s t} hs ht ne e=> ?_) nd
  injection e with e1 e
  injection e with e2
  exact ne (inj s hs t ht e1 e2)) fun x hx=>by
  obtain ⟨s,hs,rfl⟩:=List.mem_map.mp hx
  obtain ⟨⟨h1,h2⟩,h3,h4⟩:=hb s hs
  refine boxL_mem rfl fun k hk=> ?_
  match k,hk with
  | 0,_=>exact ⟨h1,Int.lt_of_le_of_lt h2 (by decide)⟩
  | 1,_=>exact ⟨h3,Int.lt_of_le_of_lt h4 (by decide)⟩
 rwa [List.length_map,boxL_len] at this
theorem same_of {a b c x y:Int}(h:c≠0)(e1:a+c*x=b)(e2:a+c*y=b):x=y:=by
 have:c*x=c*y:=z1360 e1 e2
 exact Int.eq_of_mul_eq_mul_left h this
theorem posR_len (l:List (List Int)):(posR l).length<=l.length:=List.length_filter_le _ _
theorem posR_nodup {l:List (List Int)}(h:l.Nodup):(posR l).Nodup:=h.sublist List.filter_sublist
theorem few_two {p q:Int}(h0:p≠0\/q≠0){l:List (List Int)}(nd:l.Nodup)(hl:∀r∈l,∃x y:Int,r=[x,y]/\(0<=x/\x<=20)/\(0<=y/\y<=20)/\p*x+q*y=0):l.length<64:=by
 by_cases hq:q=0
 ·refine Nat.lt_of_le_of_lt (count_at (i:=1) (b:=20) nd (fun s hs=> ?_) fun s hs t ht e=> ?_) (by decide)
  ·obtain ⟨x,y,rfl,_,h,_⟩:=hl s hs
   exact h
  ·obtain ⟨x,y,rfl,_,_,e1⟩:=hl s hs
   obtain ⟨u,v,rfl,_,_,e2⟩:=hl t ht
   replace e:y=v:=e
   rw [same_of (a:=0) (b:=0) (x:=x) (y:=u) (h0.resolve_right fun z=>z hq) (by exact z1361 (hq▸e1)) (by exact z1361 (hq▸e2)),e]
 ·refine Nat.lt_of_le_of_lt (count_at (i:=0) (b:=20) nd (fun s hs=> ?_) fun s hs t ht e=> ?_) (by decide)
  ·obtain ⟨x,y,rfl,h,_,_⟩:=hl s hs
   exact h
  ·obtain ⟨x,y,rfl,_,_,e1⟩:=hl s hs
   obtain ⟨u,v,rfl,_,_,e2⟩:=hl t ht
   replace e:x=u:=e
   subst e
   rw [same_of hq e1 e2]
theorem few_three {a b c:Int}(h0:a≠0\/b≠0\/c≠0){l:List (List Int)}(nd:l.Nodup)(hl:∀r∈l,∃x y z:Int,r=[x,y,z]/\(0<=x/\x<=5)/\(0<=y/\y<=5)/\(0<=z/\z<=5)/\a*x+b*y+c*z=0):l.length<64:=by
 refine Nat.lt_of_le_of_lt ?_ (show 36<64 by decide)
 rcases h0 with h| h| h
 ·refine count_pair (i:=1) (j:=2) nd (fun s hs=> ?_) fun s hs t ht e1 e2=> ?_
  ·obtain ⟨x,y,z,rfl,_,h1,h2,_⟩:=hl s hs
   exact ⟨h1,h2⟩
  ·obtain ⟨x,y,z,rfl,_,_,_,q1⟩:=hl s hs
   obtain ⟨u,v,w,rfl,_,_,_,q2⟩:=hl t ht
   replace e1:y=v:=e1
   replace e2:z=w:=e2
   subst e1 e2
   rw [same_of (a:=b*y+c*z) (b:=0) (x:=x) (y:=u) h (z1362 q1) (z1362 q2)]
 ·refine count_pair (i:=0) (j:=2) nd (fun s hs=> ?_) fun s hs t ht e1 e2=> ?_
  ·obtain ⟨x,y,z,rfl,h1,_,h2,_⟩:=hl s hs
   exact ⟨h1,h2⟩
  ·obtain ⟨x,y,z,rfl,_,_,_,q1⟩:=hl s hs
   obtain ⟨u,v,w,rfl,_,_,_,q2⟩:=hl t ht
   replace e1:x=u:=e1
   replace e2:z=w:=e2
   subst e1 e2
   rw [same_of (a:=a*x+c*z) (b:=0) (x:=y) (y:=v) h (z1363 q1) (z1363 q2)]
 ·refine count_pair (i:=0) (j:=1) nd (fun s hs=> ?_) fun s hs t ht e1 e2=> ?_
  ·obtain ⟨x,y,z,rfl,h1,h2,_,_⟩:=hl s hs
   exact ⟨h1,h2⟩
  ·obtain ⟨x,y,z,rfl,_,_,_,q1⟩:=hl s hs
   obtain ⟨u,v,w,rfl,_,_,_,q2⟩:=hl t ht
   replace e1:x=u:=e1
   replace e2:y=v:=e2
   subst e1 e2
   rw [same_of h q1 q2]
theorem lx {k a a' x x':Nat}(hx:x<k)(hx':x'<k):(a<a'\/a=a'/\x<x')↔a*k+x<a'*k+x':=by
 have up:∀{a a' x x':Nat},x<k->a<a'->a*k+x<a'*k+x':=fun {a a' x x'} hx h=>
  Nat.lt_of_lt_of_le (Nat.add_lt_add_left hx _) (Nat.le_trans (Nat.le_of_eq (Nat.succ_mul a k).symm) (Nat.le_trans (Nat.mul_le_mul_right k h) (Nat.le_add_right ..)))
 rcases Nat.lt_trichotomy a a' with h| h| h
 ·exact ⟨fun _=>up hx h,fun _=>.inl h⟩
 ·subst h
  exact ⟨fun q=>Nat.add_lt_add_left (q.elim (fun z=>absurd z (Nat.lt_irrefl _)) (·.2)) _,fun q=>.inr ⟨rfl,Nat.lt_of_add_lt_add_left q⟩⟩
 ·exact ⟨fun q=>absurd (q.elim (fun z=>z) fun z=>absurd z.1 (Nat.ne_of_gt h)) (Nat.lt_asymm h),fun q=>absurd q (Nat.lt_asymm (up hx' h))⟩
theorem ranked {s s' i j:Nat}{p:Prop}(hi:i<1000)(hj:j<1000)(h:p↔i+1<j+1):(s<s'\/s=s'/\p)↔Nat.blt (s*1000+i) (s'*1000+j)=true:=by
 rw [h,Nat.add_lt_add_iff_right,lx hi hj]
 exact (Iff.of_eq Nat.ble_eq).symm
theorem key2r {i j:Nat}(hi:i<440)(hj:j<440):keyLt [(((i+1)/21:Nat):Int),(((i+1) % 21:Nat):Int)] [(((j+1)/21:Nat):Int),(((j+1) % 21:Nat):Int)]=Nat.blt (rk2 i) (rk2 j):=by
 refine Bool.eq_iff_iff.mpr (Iff.trans ?_ (ranked (Nat.lt_trans hi (by decide)) (Nat.lt_trans hj (by decide)) ((lx (k:=21) (a:=(i+1)/21) (a':=(j+1)/21) (x:=(i+1) % 21) (x':=(j+1) % 21) (Nat.mod_lt _ (by decide)) (Nat.mod_lt _ (by decide))).trans (by simp only [Nat.div_add_mod']))))
 simp only [keyLt,lexLt,List.sum_cons,List.sum_nil,Int.add_zero,<-Int.natCast_add,Int.ofNat_lt,Int.natCast_inj,Bool.or_eq_true,Bool.and_eq_true,decide_eq_true_eq,beq_iff_eq,Bool.and_false,Bool.or_false]
theorem dig3 (m:Nat):m/36*36+(m/6 % 6*6+m % 6)=m:=by
 have h2:=Nat.div_add_mod' (m/6) 6
 rw [Nat.div_div_eq_div_mul] at h2
 rw [<-Nat.add_assoc,<-Nat.mul_assoc (m/36) 6 6,<-Nat.add_mul,h2,(Nat.div_add_mod' m 6)]
theorem key3r {i j:Nat}(hi:i<215)(hj:j<215):keyLt [(((i+1)/36:Nat):Int),(((i+1)/6 % 6:Nat):Int),(((i+1) % 6:Nat):Int)] [(((j+1)/36:Nat):Int),(((j+1)/6 % 6:Nat):Int),(((j+1) % 6:Nat):Int)]=Nat.blt (rk3 i) (rk3 j):=by
 have low:∀m,m/6 % 6*6+m % 6<36:=fun m=>Nat.lt_of_lt_of_le (Nat.add_lt_add_left (Nat.mod_lt _ (by decide)) _) (Nat.le_trans (Nat.le_of_eq (Nat.succ_mul ..).symm) (Nat.mul_le_mul_right 6 (Nat.mod_lt (m/6) (by decide))))
 refine Bool.eq_iff_iff.mpr (Iff.trans ?_ (ranked (Nat.lt_trans hi (by decide)) (Nat.lt_trans hj (by decide)) ((or_congr_right (and_congr_right fun _=>lx (k:=6) (a:=(i+1)/6 % 6) (a':=(j+1)/6 % 6) (x:=(i+1) % 6) (x':=(j+1) % 6) (Nat.mod_lt _ (by decide)) (Nat.mod_lt _ (by decide)))).trans ((lx (a:=(i+1)/36) (a':=(j+1)/36) (low (i+1)) (low (j+1))).trans (by simp only [dig3,dig3])))))
 simp only [keyLt,lexLt,List.sum_cons,List.sum_nil,Int.add_zero,<-Int.natCast_add,Int.ofNat_lt,Int.natCast_inj,Bool.or_eq_true,Bool.and_eq_true,decide_eq_true_eq,beq_iff_eq,Bool.and_false,Bool.or_false,Nat.add_assoc]
theorem spc2:Spc (posR (twoUp 0 0 0 20 21)):=by
 have e:posR (twoUp 0 0 0 20 21)=(List.range 440).map fun i:Nat=>[(((i+1)/21:Nat):Int),(((i+1) % 21:Nat):Int)]:=by decide+kernel
 have el:((List.range 440).map fun i:Nat=>[(((i+1)/21:Nat):Int),(((i+1) % 21:Nat):Int)]).length=440:=by exact (List.length_map ..).trans (List.length_range ..)
 rw [e]
 refine ⟨rk2,fun i j hi hj=> ?_,?_⟩
 ·have g:∀{i:Nat},i<440->((List.range 440).map fun i:Nat=>[(((i+1)/21:Nat):Int),(((i+1) % 21:Nat):Int)]).getD i []=[(((i+1)/21:Nat):Int),(((i+1) % 21:Nat):Int)]:=fun {i} h=>by
   simp only [List.getD_eq_getElem?_getD,List.getElem?_map,List.getElem?_range h];rfl
  simp only [g hi,g hj]
  exact key2r hi hj
 ·exact fun c h=>sorted2 h
theorem spc3:Spc (posR (triUp [0,0,0] 6)):=by
 have e:posR (triUp [0,0,0] 6)=(List.range 215).map fun i:Nat=>[(((i+1)/36:Nat):Int),(((i+1)/6 % 6:Nat):Int),(((i+1) % 6:Nat):Int)]:=by decide+kernel
 have el:((List.range 215).map fun i:Nat=>[(((i+1)/36:Nat):Int),(((i+1)/6 % 6:Nat):Int),(((i+1) % 6:Nat):Int)]).length=215:=by exact (List.length_map ..).trans (List.length_range ..)
 rw [e]
 refine ⟨rk3,fun i j hi hj=> ?_,?_⟩
 ·have g:∀{i:Nat},i<215->((List.range 215).map fun i:Nat=>[(((i+1)/36:Nat):Int),(((i+1)/6 % 6:Nat):Int),(((i+1) % 6:Nat):Int)]).getD i []=[(((i+1)/36:Nat):Int),(((i+1)/6 % 6:Nat):Int),(((i+1) % 6:Nat):Int)]:=fun {i} h=>by
   simp only [List.getD_eq_getElem?_getD,List.getElem?_map,List.getElem?_range h];rfl
  simp only [g hi,g hj]
  exact key3r hi hj
 ·exact fun c h=>sorted3 h
theorem two_sort {a b:Int}{E:List (List Int)}(hE:∀r∈E,r.length=2):(posR (fltUp E (twoUp a b 0 20 21))).length<64\/Spc (posR (fltUp E (twoUp a b 0 20 21))):=by
 have nd:=posR_nodup ((twoUp_nodup (w0:=a) (w1:=b) (want:=0) (b:=20) (k:=21)).sublist (fltUp_sub E _))
 have hm:∀r∈posR (fltUp E (twoUp a b 0 20 21)),r∈twoUp a b 0 20 21/\∀w∈E,dot w r=0:=fun r hr=>fltUp_mem.mp (List.mem_filter.mp hr).1
 by_cases h:a=0/\b=0
 ·obtain ⟨rfl,rfl⟩:=h
  by_cases hz:∃w∈E,w≠[0,0]
  rotate_left
  ·rw [fltUp_all fun w hw r hr=>by
    obtain ⟨x,y,rfl,_⟩:=twoUp_mem.mp hr
    rw [Classical.byContradiction fun q=>hz ⟨w,hw,q⟩,dot_pair];exact z1364]
   exact .inr spc2
  ·obtain ⟨w,hw,hn⟩:=hz
   obtain ⟨p,q,rfl⟩:=len2 (hE w hw)
   refine .inl (few_two (p:=p) (q:=q) ?_ nd fun r hr=> ?_)
   ·by_cases z:p=0
    ·exact .inr fun z2=>hn (by rw [z,z2])
    ·exact .inl z
   ·obtain ⟨h1,h2⟩:=hm r hr
    obtain ⟨x,y,rfl,x0,x1,y0,y1,_⟩:=twoUp_mem.mp h1
    exact ⟨x,y,rfl,⟨x0,z1365 x1⟩,⟨y0,z1366 y1⟩,dot_pair▸h2 _ hw⟩
 ·refine .inl (few_two (p:=a) (q:=b) ?_ nd fun r hr=> ?_)
  ·by_cases z:a=0
   ·exact .inr fun z2=>h ⟨z,z2⟩
   ·exact .inl z
  ·obtain ⟨x,y,rfl,x0,x1,y0,y1,e⟩:=twoUp_mem.mp (hm r hr).1
   exact ⟨x,y,rfl,⟨x0,z1365 x1⟩,⟨y0,z1366 y1⟩,e⟩
theorem dot_three {a b c x y z:Int}:dot [a,b,c] [x,y,z]=a*x+b*y+c*z:=by simp [dot];exact z1367
theorem tri_sort {e:List Int}{E:List (List Int)}(he:e.length=3)(hE:∀r∈E,r.length=3):(posR (fltUp E (triUp e 6))).length<64\/Spc (posR (fltUp E (triUp e 6))):=by
 have nd:=posR_nodup ((triUp_nodup (e:=e) (k:=6)).sublist (fltUp_sub E _))
 have hm:∀r∈posR (fltUp E (triUp e 6)),r∈triUp e 6/\∀w∈E,dot w r=0:=fun r hr=>fltUp_mem.mp (List.mem_filter.mp hr).1
 have nz:∀{p q s:Int},[p,q,s]≠[0,0,0]->p≠0\/q≠0\/s≠0:=fun {p q s} hn=>by
  by_cases z1:p=0
  ·by_cases z2:q=0
   ·exact .inr (.inr fun z3=>hn (by rw [z1,z2,z3]))
   ·exact .inr (.inl z2)
  ·exact .inl z1
 by_cases h:e=[0,0,0]
 ·subst h
  by_cases hz:∃w∈E,w≠[0,0,0]
  rotate_left
  ·rw [fltUp_all fun w hw r hr=>by
    obtain ⟨x,y,z,rfl,_⟩:=triUp_mem.mp hr
    rw [Classical.byContradiction fun q=>hz ⟨w,hw,q⟩,dot_three];exact z1368]
   exact .inr spc3
  ·obtain ⟨w,hw,hn⟩:=hz
   obtain ⟨p,q,s,rfl⟩:=len3 (hE w hw)
   refine .inl (few_three (nz hn) nd fun r hr=> ?_)
   obtain ⟨h1,h2⟩:=hm r hr
   obtain ⟨x,y,z,rfl,x0,y0,z0,_⟩:=triUp_mem.mp h1
   exact ⟨x,y,z,rfl,x0,y0,z0,dot_three▸h2 _ hw⟩
 ·obtain ⟨p,q,s,rfl⟩:=len3 he
  refine .inl (few_three (nz h) nd fun r hr=> ?_)
  obtain ⟨x,y,z,rfl,x0,y0,z0,e⟩:=triUp_mem.mp (hm r hr).1
  exact ⟨x,y,z,rfl,x0,y0,z0,e⟩
theorem EqW.sort {n q:Nat}{w:Int}{E:List (List Int)}(W:EqW n q w E):(posR (evS n E)).length<64\/Spc (posR (evS n E)):=by
 have ha:=W.all
 unfold evS
 cases E with
 | nil=>have:=W.len;cases W.mw<;>simp at this<;>lia
 | cons e E=>
  by_cases hn:n=2
  ·subst hn
   exact (if_pos rfl)▸two_sort fun r hr=>(ha r (.tail _ hr)).1
  ·rw [if_neg hn]
   have hn3:n=3:=by cases W.mw<;>lia
   subst hn3
   split
   ·exact .inl (Nat.lt_of_le_of_lt (posR_len _) (by unfold onL;split<;>exact Nat.le_add_left _ _))
   ·exact tri_sort (ha e (.head _)).1 fun r hr=>(ha r (.tail _ hr)).1
section
variable {c:Cx} {σ:Sto} {X:Addr->Sto->Prop} {Q:D->Sto->Prop} {K:Frag} {C:Addr}
inductive Bes (n u:Nat):Nat->List (List Int)->List (List Int)->Prop
 | zero:Bes n u 0 [] []
 | succ {k:Nat} {E D out:List (List Int)} {a b:Int} (x:Bes n u k E D) (ha: -20<=a/\a<=20) (hb: -20<=b/\b<=20) (hs:out.Pairwise fun x y=>keyLt x y=true) (hm:∀s,s∈out↔Least [[a,b]] 2 s):
   Bes n u (k+1) (E++[wide n ((u+2*k) % n) ((u+2*k+1) % n) a b]) (D++out.map fun r=>wide n ((u+2*k) % n) ((u+2*k+1) % n) (r.getD 0 0) (r.getD 1 0))
theorem Bes.len {n u k:Nat}{E D:List (List Int)}(x:Bes n u k E D):E.length=k/\D.length<=2*k/\(∀r∈E,r.length=n)/\∀r∈D,r.length=n:=by
 induction x with
 | zero=>exact ⟨rfl,by exact Nat.zero_le _,nofun,nofun⟩
 | @succ k E D out a b x ha hb hs hm ih=>
  obtain ⟨h1,h2,h3,h4⟩:=ih
  refine ⟨by simp [h1],by simp only [List.length_append,List.length_map];exact z1370 (few2 (E:=[[a,b]]) (fun d hd=>List.mem_singleton.mp hd▸rfl) (hs.imp fun {x y} h e=>by rw [e,keyLt_irrefl] at h;contradiction) fun s hs=>(hm s).mp hs) h2,fun r hr=> ?_,fun r hr=> ?_⟩
  ·rcases List.mem_append.mp hr with z| z
   ·exact h3 r z
   ·rw [List.mem_singleton.mp z];exact wide_len
  ·rcases List.mem_append.mp hr with z| z
   ·exact h4 r z
   ·obtain ⟨t,_,rfl⟩:=List.mem_map.mp z
    exact wide_len
inductive BsA (S:List Int)(n u:Nat)(ea da:Addr)(σ:Sto)(k:Nat)(m':Vars)(σ':Sto):Prop
 | mk (E G:List (List Int)) (hk:k<=2) (B:Bes n u k E G) (eq:σ'=(da,.lst (G.map row))::(ea,.lst (E.map il))::σ) (hv:Hs m' [("_law_size",.int n),("_law_turn",.int u),("_law_equations_here",.ref ea),("_law_due_here",.ref da),("_law_script",.lst (S.map D.int))]):BsA S n u ea da σ k m' σ'
inductive BsB (S:List Int)(n u lo hi:Nat)(ea da:Addr)(E G out:List (List Int))(σ:Sto)(j:Nat)(m':Vars)(σ':Sto):Prop
 | mk (eq:σ'=(da,.lst ((G++(out.take j).map fun r=>wide n lo hi (r.getD 0 0) (r.getD 1 0)).map row))::(ea,.lst (E.map il))::σ) (hv:Hs m' [("_law_high",.int hi),("_law_low",.int lo),("_law_size",.int n),("_law_turn",.int u),("_law_equations_here",.ref ea),("_law_due_here",.ref da),("_law_script",.lst (S.map D.int))]):BsB S n u lo hi ea da E G out σ j m' σ'
theorem fz_tup {a:Addr}{ds es:List D}{x:Str}{m:Vars}:fz a ds ((x,.tup es)::m)=(x,.tup es)::fz a ds m:=rfl
noncomputable def lstW (rows:List (List Int)):List (SD × List Int):=rows.map fun r=>(SD.lst (r.map D.int),r)
theorem lstW_d {rows:List (List Int)}:rows.map il=(lstW rows).map fun w=>w.1.d:=by unfold lstW;simp only [List.map_map];rfl
theorem lstW_2 {rows:List (List Int)}:(lstW rows).map (·.2)=rows:=by exact (List.map_map ..).trans (List.map_id _)
theorem lstW_len {rows:List (List Int)}:(lstW rows).length=rows.length:=by simp [lstW]
theorem lstW_ok {rows:List (List Int)}{w:SD × List Int}(h:w∈lstW rows):Ints σ w.1 w.2/\w.2∈rows:=by
 obtain ⟨p,hp,rfl⟩:=List.mem_map.mp h
 exact ⟨⟨rfl,rfl,trivial⟩,hp⟩
theorem small_of {n:Nat}{r:List Int}(h:okW n r)(hn:n<=5):small r/\r.length<100:=⟨fun x hx=>by have:=h.2 x hx;exact z718 this.1 this.2,by exact z849 (h.1) hn⟩
theorem eqvSame:∀(xs:List (List Int)),PyData.eqvAll (xs.map fun r=>.tuple (r.map .int)) (xs.map fun r=>.tuple (r.map .int))=true
 | []=>rfl
 | a::r=>by
  simp only [List.map_cons,PyData.eqvAll,eqvSame r]
  rw [show PyData.eqv (.tuple (a.map .int)) (.tuple (a.map .int))=decide (a=a) from eqv_all a a];simp
theorem eqvRows1 {xs:List (List Int)}:PyData.eqv (.list (xs.map fun r=>.tuple (r.map .int))) (.list (xs.map fun r=>.tuple (r.map .int)))=true:=eqvSame xs
theorem Bes.told {n u:Nat}{E D R:List (List Int)}(hn:n=4\/n=5)(hu:u<n)(x:Bes n u 2 E D)(h4:n=4->R=[])(h5:n=5->R=[unitR 5 (((u+4) % 5:Nat):Int)]):
  (D++R).Nodup/\(∀s,s∈D++R↔Least E n s)/\Fits6 E n/\∀e∈E,okW n e:=by
 have F:=four_at hn hu
 have nd:∀{o:List (List Int)},(o.Pairwise fun x y=>keyLt x y=true)->o.Nodup:=fun h=>h.imp fun {x y} h e=>by rw [e,keyLt_irrefl] at h;contradiction
 cases x with
 | succ x ha hb hs hm=>
  cases x with
  | succ x ha' hb' hs' hm'=>
   cases x with
   | zero=>
    have nR:R.Nodup:=by
     rcases hn with rfl| rfl
     ·rw [h4 rfl];exact .nil
     ·rw [h5 rfl];exact List.pairwise_singleton ..
    refine And.elim (fun d1 d2=> ?_) (F.due ha' hb' ha hb (nd hs') hm' (nd hs) hm nR (fun s=>by
     rcases hn with rfl| rfl
     ·rw [h4 rfl]
      refine ⟨nofun,fun ⟨i,hi,hr,_⟩=> ?_⟩
      exact absurd ((rest_at (.inl rfl) hu hi).mp hr).1 (by decide)
     ·rw [h5 rfl,List.mem_singleton]
      refine ⟨fun e=>⟨(u+4) % 5,Nat.mod_lt _ (by decide),(rest_at (.inr rfl) hu (Nat.mod_lt _ (by decide))).mpr ⟨rfl,rfl⟩,e⟩,fun ⟨i,hi,hr,e⟩=> ?_⟩
      rw [e,((rest_at (.inr rfl) hu hi).mp hr).2]))
    refine ⟨d1,d2,Fits6.beside F (z1355 hn) ha' hb' ha hb,fun e he=> ?_⟩
    rcases List.mem_cons.mp he with rfl| he
    ·exact ⟨wide_len,wide_bnd (by decide) ha' hb'⟩
    ·rw [List.mem_singleton.mp he];exact ⟨wide_len,wide_bnd (by decide) ha hb⟩
end
section
variable {c:Cx} {σ:Sto} {X:Addr->Sto->Prop} {Q:D->Sto->Prop} {K:Frag} {C:Addr}
theorem beside_ {S:List Int}(T:Tp c B14 N14)(G:Gi c G14)(Sy:Ks c K C "System" Bd14)(hS:S.length<=63)(h:∀σ',Q (.bool true) σ'):WF c (Room 6) "_law_beside" [.lst (S.map .int)] σ Q X:=by
 refine WF.byG 34 (ps:=["_law_script"]) T G rfl rfl (bind1 fun _ _ _ _=>rfl) (by rfl) rfl fun A fr env g r hh hs fe=> ?_
 have m1:Mth K C "__init__":=Mth.byA 0 Sy rfl rfl
 have m4:Mth K C "least":=Mth.byA 5 Sy rfl rfl
 refine Sp.mk ?_
 refine WF.at (cell_at_ T hS (by decide) (by decide) ?_) (by decide)
 refine Sp.mk ?_
 obtain ⟨n,hn,en⟩:∃n:Nat,(n=4\/n=5)/\4+S.getD (Int.toNat 0) 0/4 % 2=(n:Int):=⟨(4+S.getD (Int.toNat 0) 0/4 % 2).toNat,z1331,z1332⟩
 rw [en]
 skip
 refine WF.at (cell_at_ T hS (by decide) (by decide) ?_) (by decide)
 refine Sp.mk ?_
 refine WB.modE (z1333 hn) (z1334 hn) ?_
 obtain ⟨u,hu,eu⟩:∃u:Nat,u<n/\S.getD (Int.toNat 0) 0/8 % (n:Int)=(u:Int):=⟨(S.getD (Int.toNat 0) 0/8 % (n:Int)).toNat,by
  have h1:=Int.emod_nonneg (S.getD (Int.toNat 0) 0/8) (show (n:Int)≠0 by exact z1335 hn)
  have h2:=Int.emod_lt_of_pos (S.getD (Int.toNat 0) 0/8) (show 0<(n:Int) by exact z1333 hn)
  exact z309 h1 h2,(Int.toNat_of_nonneg (Int.emod_nonneg _ (z1335 hn))).symm⟩
 rw [eu]
 refine Sp.mk ?_
 refine .inr fun ea hea=> ?_
 refine Sp.mk ?_
 refine .inr fun da hda=> ?_
 refine Sp.mk ?_
 refine ⟨by decide,by decide,?_⟩
 refine Loop.of (BsA S n u ea da σ) (fun _ _=>kinds1 (by with_unfolding_all exact Or.inl (kindOf_of (by assumption) (by rfl)))) ⟨[],[],z597,.zero,rfl,Hs.lit rfl⟩ (fun _ _ _ _=>trivial) (fun k i m' σ' hi hL fr'=> ?_) (fun m' σ' hL=> ?_)
 ·obtain ⟨E,G,hk,B,rfl,hv⟩:=hL
  have hi':i=k/\k<2:=by
   obtain ⟨z1,z2⟩:=List.getElem?_eq_some_iff.mp hi
   simp at z1 z2
   exact z655 z1 z2
  obtain ⟨rfl,hkb⟩:=hi'
  have el:((u:Int)+2*(i:Int)) % (n:Int)=(((u+2*i) % n:Nat):Int):=by simp
  have eh:((u:Int)+2*(i:Int)+1) % (n:Int)=(((u+2*i+1) % n:Nat):Int):=by simp
  have ll:(u+2*i) % n<n:=Nat.mod_lt _ (z1232 hn)
  have lh:(u+2*i+1) % n<n:=Nat.mod_lt _ (z1232 hn)
  (with_reducible refine WS.base (Hs.both (by assumption) _) ?_;refine WS.goN (by assumption) ?_);refine Sp.mk ?_
  refine WB.mul (mulOk_left (by decide)) ?_
  refine Sp.mk ?_
  refine WB.modE (z1333 hn) (z1334 hn) ?_
  rw [el]
  refine Sp.mk ?_
  refine WB.mul (mulOk_left (by decide)) ?_
  refine Sp.mk ?_
  refine WB.modE (z1333 hn) (z1334 hn) ?_
  rw [eh]
  refine Sp.mk ?_
  refine WB.mul (mulOk_left (by decide)) ?_
  refine Sp.mk ?_
  refine WF.at (cell_at_ T hS z1336 (z1337 hk) ?_) (by decide)
  refine Sp.mk ?_
  refine WB.mul (mulOk_left (by decide)) ?_
  refine Sp.mk ?_
  refine WF.at (cell_at_ T hS z1338 (z1339 hk) ?_) (by decide)
  refine Sp.mk ?_
  refine .inl ?_
  obtain ⟨pa,hpa,ea1⟩:∃pa:Int,(-20<=pa/\pa<=20)/\S.getD (2+2*(i:Int)).toNat 0 % 41-20=pa:=⟨_,z1340,rfl⟩
  obtain ⟨pb,hpb,eb1⟩:∃pb:Int,(-20<=pb/\pb<=20)/\S.getD (3+2*(i:Int)).toNat 0 % 41-20=pb:=⟨_,z1340,rfl⟩
  rw [ea1,eb1]
  refine Sp.mk ?_
  refine .inl ?_
  refine Sp.mk ?_
  refine WB.rep (z1341 hn) (.inr fun wa hwa=> ?_)
  refine Sp.mk ?_
  refine W1.setL ?_ (by with_unfolding_all rfl)
  (with_reducible refine WE.go (by assumption) ?_);refine Sp.mk ?_
  refine WSb.at (sd:=.lst _) (d:=.int pa) (k:=0) rfl trivial rfl (by decide) ?_
  refine Sp.mk ?_;(with_reducible refine WE.go (by assumption) ?_);refine Sp.mk ?_;(with_reducible refine WE.go (by assumption) ?_);refine Sp.mk ?_
  refine ⟨wa,_,(u+2*i) % n,[],_,rfl,rfl,rfl,by simp;exact ll,z1342 ll hn,?_⟩
  rw [<-List.map_set]
  (with_reducible refine WS.goK (by assumption) ?_);refine Sp.mk ?_
  refine W1.setL ?_ (by with_unfolding_all rfl)
  (with_reducible refine WE.go (by assumption) ?_);refine Sp.mk ?_
  refine WSb.at (sd:=.lst _) (d:=.int pb) (k:=1) rfl trivial rfl (by decide) ?_
  refine Sp.mk ?_;(with_reducible refine WE.go (by assumption) ?_);refine Sp.mk ?_;(with_reducible refine WE.go (by assumption) ?_);refine Sp.mk ?_
  refine ⟨wa,_,(u+2*i+1) % n,[],_,rfl,rfl,rfl,by simp;exact lh,z1342 lh hn,?_⟩
  rw [<-List.map_set]
  refine WS.freeze (σa:=[]) ?_
  have hne:wa≠da/\wa≠ea:=⟨fun z=>hwa (by rw [z];exact List.mem_cons_self),fun z=>hwa (by rw [z];exact List.mem_cons_of_mem _ List.mem_cons_self)⟩
  simp only [List.cons_append,List.nil_append,fz_self,fz_ne hne.1.symm,fz_ne hne.2.symm,fz_int,fz_lst,fz_nil]
  rw [show ((List.replicate n (0:Int)).set ((u+2*i) % n) pa).set ((u+2*i+1) % n) pb=wide n ((u+2*i) % n) ((u+2*i+1) % n) pa pb from rfl]
  (with_reducible refine WS.goK (by assumption) ?_);refine Sp.mk ?_
  have hEl:=B.len.1
  have hGl:=B.len.2.1
  refine ⟨.ref ea _,rfl,rfl,List.mem_cons_of_mem _ List.mem_cons_self,?_⟩
  refine Sp.mk ?_
  refine At1.append (σ1:=[_]) (by simp only [List.length_map,sizeLine];exact z1343 hEl hk) ?_
  simp only [List.cons_append,List.nil_append]
  refine Sp.mk ?_
  refine WF.at (two_ (b:=20) T (by decide) (z1344 ea1) (z714 hpb.1 hpb.2) ?_) (by decide)
  refine Sp.mk ?_
  refine WF.at (due_ T (Nat.le_trans (twoUp_len 21) (by decide)) (two_sort (E:=[]) nofun) (fun r hr e=>by have:=(twoUp_row hr).len;rw [e] at this;cases this) fun srt hp hso=> ?_) (by decide)
  have tl:=pair_told hpa hpb hp hso
  generalize srt.foldl grdS []=out at tl
  refine Sp.mk ?_
  have B2:=Bes.succ B hpa hpb tl.1 tl.2
  have hol:out.length<=2:=few2 (E:=[[pa,pb]]) (fun d hd=>List.mem_singleton.mp hd▸rfl) (tl.1.imp fun {x y} h e=>by rw [e,keyLt_irrefl] at h;cases h) fun s hs=>(tl.2 s).mp hs
  generalize (u+2*i) % n=lo at*
  generalize (u+2*i+1) % n=hi' at*
  refine WIv.seqA rfl (sd:=.lst _) row hh rfl trivial ?_
  refine Loop.of (BsB S n u lo hi' ea da (E++[wide n lo hi' pa pb]) G out σ) (fun _ _=>kinds1 (by with_unfolding_all exact Or.inl (kindOf_of (by assumption) (by rfl)))) ⟨by simp,Hs.lit rfl⟩ (fun _ _ _ _=>trivial) (fun j y m2 σ2 hy hL fr'=> ?_) (fun m2 σ2 hL=> ?_)
  ·obtain ⟨rfl,hv⟩:=hL
   have hyl:=((tl.2 y).mp (List.mem_of_getElem? hy)).row.len
   obtain ⟨y0,y1,rfl⟩:=len2 hyl
   have et:=take_next hy
   (with_reducible refine WS.base (Hs.both (by assumption) _) ?_;refine WS.goN (by assumption) ?_);refine Sp.mk ?_
   refine .inl ?_
   refine Sp.mk ?_
   refine WB.rep (z1341 hn) (.inr fun wb hwb=> ?_)
   refine Sp.mk ?_
   refine W1.setL ?_ (by with_unfolding_all rfl)
   (with_reducible refine WE.go (by assumption) ?_);refine Sp.mk ?_
   refine WSb.at (sd:=.tup _) (d:=.int y0) (k:=0) rfl trivial rfl (by decide) ?_
   refine Sp.mk ?_;(with_reducible refine WE.go (by assumption) ?_);refine Sp.mk ?_;(with_reducible refine WE.go (by assumption) ?_);refine Sp.mk ?_
   refine ⟨wb,_,lo,[],_,rfl,rfl,rfl,by simp;exact ll,z1342 ll hn,?_⟩
   rw [<-List.map_set]
   (with_reducible refine WS.goK (by assumption) ?_);refine Sp.mk ?_
   refine W1.setL ?_ (by with_unfolding_all rfl)
   (with_reducible refine WE.go (by assumption) ?_);refine Sp.mk ?_
   refine WSb.at (sd:=.tup _) (d:=.int y1) (k:=1) rfl trivial rfl (by decide) ?_
   refine Sp.mk ?_;(with_reducible refine WE.go (by assumption) ?_);refine Sp.mk ?_;(with_reducible refine WE.go (by assumption) ?_);refine Sp.mk ?_
   refine ⟨wb,_,hi',[],_,rfl,rfl,rfl,by simp;exact lh,z1342 lh hn,?_⟩
   rw [<-List.map_set]
   have hne2:wb≠da/\wb≠ea:=⟨fun z=>hwb (by rw [z];exact List.mem_cons_self),fun z=>hwb (by rw [z];exact List.mem_cons_of_mem _ List.mem_cons_self)⟩
   refine WS.freeze (σa:=[]) ?_
   simp only [List.cons_append,List.nil_append,fz_self,fz_ne hne2.1.symm,fz_ne hne2.2.symm,fz_int,fz_lst,fz_nil,fz_tup]
   rw [show ((List.replicate n (0:Int)).set lo y0).set hi' y1=wide n lo hi' y0 y1 from rfl]
   (with_reducible refine WS.goK (by assumption) ?_);refine Sp.mk ?_
   refine ⟨.ref da _,rfl,rfl,List.mem_cons_self,?_⟩
   refine Sp.mk ?_
   refine At1.tupM (sd:=.lst _) (ds:=(wide n lo hi' y0 y1).map D.int) rfl trivial (by rw [List.length_map,wide_len];simp only [sizeLine];exact z1345 hn) ?_
   refine Sp.mk ?_
   refine At1.append (σ1:=[]) (by simp only [List.length_map,List.length_append,List.length_take,sizeLine];exact z1346 hk hol hGl) ?_
   refine Sp.mk ?_
   refine ⟨?_,Hs.lit rfl⟩
   rw [et]
   simp [row]
  ·obtain ⟨rfl,hv⟩:=hL
   (with_reducible refine WS.base (by assumption) ?_;refine WS.goK (by assumption) ?_);refine Sp.mk ?_
   rw [List.take_length]
   exact ⟨_,_,hkb,B2,rfl,Hs.lit rfl⟩
 ·obtain ⟨E,G',hk,B,rfl,hv⟩:=hL
  have hEl:=B.len.1
  have hGl:=B.len.2.1
  have hGn:=B.len.2.2.2
  show WS _ _ _ _ _ _ _ _ _ _
  refine WS.base hv ?_
  refine WS.joinA rfl (fun m' σ'=>∃R:List (List Int),(n=4->R=[])/\(n=5->R=[unitR 5 (((u+4) % 5:Nat):Int)])/\σ'=(da,.lst ((G'++R).map row))::(ea,.lst (E.map il))::σ/\Hs m' [("_law_size",.int n),("_law_equations_here",.ref ea),("_law_due_here",.ref da)]) ?_ fun m' σ' ⟨R,hR4,hR5,e0,hv⟩=> ?_
  ·(with_reducible refine W1.goN (by assumption) ?_)
   by_cases h5:n=5
   ·refine brT (show ((n:Int)==5)=true by rw [h5];rfl) ?_
    refine Sp.mk ?_
    refine ⟨.ref da _,rfl,rfl,List.mem_cons_self,?_⟩
    refine Sp.mk ?_
    refine ⟨by decide,by decide,Turns.map (fun (i:Nat)=>.int (if ((i:Int)==(((u+4) % 5:Nat):Int))=true then (1:Int) else 0)) (fun _ _=>loc1 rfl) trivial (by decide) (fun x hx fr' cenv hc=> ?_) (.inl ?_)⟩
    ·have g:=g.at (relab_of hc hs)
     (with_reducible refine WE.go (by assumption) ?_);refine Sp.mk ?_
     refine At1.intB ?_
     rw [show ((u:Int)+4) % 5=(((u+4) % 5:Nat):Int) by exact z1347]
     refine Sp.mk ?_
     exact ⟨rfl,rfl⟩
    refine Sp.mk ?_
    refine At1.tuple (sd:=.lst _) trivial (by (simp only [SD.ds,List.length_map,List.length_range,List.length_zip,List.length_take,List.length_drop,List.length_append,List.length_replicate,List.length_cons,List.length_nil,sizeLine]<;>lia)) ?_
    refine Sp.mk ?_
    refine At1.append (σ1:=[]) (by simp only [List.length_map,sizeLine];exact z1349 hk hGl) ?_
    refine Sp.mk ?_
    exact ⟨[unitR 5 (((u+4) % 5:Nat):Int)],fun z=>by lia,fun _=>rfl,by simp [row,SD.ds,unitR,Function.comp_def],Hs.lit rfl⟩
   ·refine brF (show ((n:Int)==5)=false by rw [beq_eq_false_iff_ne];exact z1350 h5) ?_
    refine Sp.mk ?_
    exact ⟨[],fun _=>rfl,fun z=>absurd z h5,by rw [List.append_nil],Hs.lit rfl⟩
  subst e0
  obtain ⟨nd,hm,F,hok⟩:=B.told hn hu hR4 hR5
  have hRl:R.length<=1:=by
   rcases hn with z| z
   ·rw [hR4 z];exact Nat.zero_le _
   ·rw [hR5 z];exact Nat.le_refl _
  have hDl:(G'++R).length<64:=by rw [List.length_append];exact z1351 hRl hk hGl
  have mE:((ea,O.lst (E.map il)):Addr × O)∈(da,O.lst ((G'++R).map row))::(ea,O.lst (E.map il))::σ:=List.mem_cons_of_mem _ List.mem_cons_self
  have mD:((da,O.lst ((G'++R).map row)):Addr × O)∈(da,O.lst ((G'++R).map row))::(ea,O.lst (E.map il))::σ:=List.mem_cons_self
  generalize (da,O.lst ((G'++R).map row))::(ea,O.lst (E.map il))::σ=σ1 at mE mD⊢
  (with_reducible refine WS.base (by assumption) ?_;refine WS.goK (by assumption) ?_);refine Sp.mk ?_;(with_reducible refine WE.mthA (by with_unfolding_all rfl) (by assumption) (by assumption) (by assumption) ?_ (by with_unfolding_all decide) (by with_unfolding_all decide) (by with_unfolding_all rfl) (by with_unfolding_all (intro _;rfl)) (by with_unfolding_all rfl) (by with_unfolding_all rfl);refine WE.callCA (by with_unfolding_all rfl) (by assumption) (by assumption) (by assumption) (by with_unfolding_all exact kindOf_of (by assumption) (by rfl)) (by assumption) ?_ (by with_unfolding_all rfl) (by with_unfolding_all decide);refine WA.go (by assumption) ?_);refine Sp.mk ?_
  refine WIv.seqA rfl (sd:=.ref ea _) il hh rfl mE (Turns.map (fun w=>il w) (fun _ _=>loc1 rfl) mE (by simp only [SD.ds,List.length_map,sizeLine];exact z1343 hEl hk) (fun w hw fr' cenv hc=> ?_) (.inl ?_))
  ·have g:=g.at (relab_of hc hs)
   have:=(hok w hw).1
   (with_reducible refine WE.go (by assumption) ?_);refine Sp.mk ?_
   refine At1.list (sd:=.lst _) trivial (by (simp only [SD.ds,List.length_map,List.length_range,List.length_zip,List.length_take,List.length_drop,List.length_append,List.length_replicate,List.length_cons,List.length_nil,sizeLine]<;>lia)) (.inl ⟨rfl,rfl⟩)
  refine Sp.mk ?_
  intro dx hdx
  refine WM.at (new_ (sd:=.lst _) (ws:=lstW E) T G Sy rfl trivial lstW_d ⟨fun w hw=>⟨(lstW_ok hw).1,hok _ (lstW_ok (σ:=[]) hw).2⟩,by rw [lstW_len];exact z1353 hEl hk⟩ (z1354 hn) (z1355 hn) ?_ dx) (by decide)
  (with_reducible refine kMeth.mk ?_;refine WA.go (by assumption) ?_);refine Sp.mk ?_
  rw [lstW_2]
  skip
  refine WM.at (least_ T Sy F (fun e he=>small_of (hok e he) (z1355 hn)) (z1356 hEl hk) (z1357 hn) (z1354 hn) fun o L=>.inl ?_) (by decide)
  refine Sp.mk ?_
  refine WIv.seqA rfl (sd:=.ref da _) row hh rfl mD (Turns.map keyD (fun _ _=>loc1 rfl) mD (by simp only [sizeLine];exact z652 hDl) (fun x hx fr' cenv hc=> ?_) (.inl ?_))
  ·have g:=g.at (relab_of hc hs)
   (with_reducible refine WE.go (by assumption) ?_);refine Sp.mk ?_
   refine At1.sum (sd:=.tup _) (l:=x) hh rfl trivial ?_
   refine Sp.mk ?_
   exact ⟨rfl,rfl⟩
  refine Sp.mk ?_
  refine At1.sortedP (sd:=.lst _) (rows:=G'++R) r rfl rfl trivial (.inl hDl) (z1358 hDl) fun srt hp hso=>.inl ?_
  have eo:o=srt:=L.eq (.of nd hm hDl hp hso)
  refine Sp.mk ?_
  refine WF.at (rows_ (sd:=.lst _) (l:=o) (n:=n) T rfl trivial rfl (fun s hs=>((L.mem s).mp hs).row.len) (z1357 hn) ?_) (by decide)
  refine Sp.mk ?_
  refine WIv.seqA rfl (sd:=.lst _) keyD hh rfl trivial (Turns.map row (fun _ _=>loc1 rfl) trivial (by have:=L.few;rw [<-eo];simp only [sizeLine];exact z652 this) (fun x hx fr' cenv hc=> ?_) (.inl ?_))
  ·have g:=g.at (relab_of hc hs)
   (with_reducible refine WE.go (by assumption) ?_);refine Sp.mk ?_
   refine WSb.at (sd:=.tup _) (d:=row x) (k:=1) rfl trivial rfl (by decide) ?_
   refine Sp.mk ?_
   exact ⟨rfl,rfl⟩
  refine Sp.mk ?_
  rw [eo]
  refine WB.eqD r (.of (Py.lst (n:=3) PyAll.rows)) (.of (Py.lst (n:=3) PyAll.rows)) ?_
  refine Sp.mk ?_
  rw [eqvRows1]
  skip
  exact h _
end
section
variable {c:Cx} {X:Addr->Sto->Prop} {K:Frag} {C:Addr}
theorem law_ {S:List Int}(T:Tp c B14 N14)(G:Gi c G14)(Sy:Ks c K C "System" Bd14)(hS:S.length<=63):WF c (Room 14) "law" [.lst (S.map .int)] [] (fun d _=>d=.bool true) X:=by
 refine WF.byG 35 (ps:=["_law_script"]) T G rfl rfl (bind1 fun _ _ _ _=>rfl) (by rfl) rfl fun A fr env g r hh hs fe=> ?_
 have m1:Mth K C "__init__":=Mth.byA 0 Sy rfl rfl
 have m4:Mth K C "least":=Mth.byA 5 Sy rfl rfl
 refine Sp.mk ?_
 refine WF.at (cell_at_ T hS (by decide) (by decide) ?_) (by decide)
 skip
 by_cases q3:S.getD (Int.toNat 0) 0 % 4=3
 ·refine brT (show (S.getD (Int.toNat 0) 0 % 4==3)=true by simpa using q3) ?_
  refine Sp.mk ?_
  refine WF.at (beside_ T G Sy hS fun σ'=> ?_) (by decide)
  refine Sp.mk ?_
  rfl
 refine brF (show (S.getD (Int.toNat 0) 0 % 4==3)=false by simpa using q3) ?_
 refine Sp.mk ?_
 refine .inl ?_
 refine Sp.mk ?_
 refine WF.at (cell_at_ T hS (by decide) (by decide) ?_) (by decide)
 refine Sp.mk ?_
 obtain ⟨n,hn,en⟩:∃n:Nat,(n=2\/n=3)/\[D.int 2,D.int 3,D.int 3][(S.getD (Int.toNat 0) 0 % 4).toNat]? =some (.int n):=by
  have:(S.getD (Int.toNat 0) 0 % 4).toNat<3:=z1371 q3
  generalize (S.getD (Int.toNat 0) 0 % 4).toNat=i at this
  rcases ((z202 this):i=0\/i=1\/i=2) with rfl| rfl| rfl
  ·exact ⟨2,.inl rfl,rfl⟩
  ·exact ⟨3,.inr rfl,rfl⟩
  ·exact ⟨3,.inr rfl,rfl⟩
 refine WSb.at (sd:=.lst _) (d:=.int n) (k:=(S.getD (Int.toNat 0) 0 % 4).toNat) z1372 trivial en z774 ?_
 refine Sp.mk ?_
 refine WF.at (equations14_ T hS hn fun q w E W=> ?_) (by decide)
 refine Sp.mk ?_;(with_reducible refine WE.callCA (by with_unfolding_all rfl) (by assumption) (by assumption) (by assumption) (by with_unfolding_all exact kindOf_of (by assumption) (by rfl)) (by assumption) ?_ (by with_unfolding_all rfl) (by with_unfolding_all decide);refine WA.go (by assumption) ?_);refine Sp.mk ?_
 have hM:w<=20/\1<=q/\q<=3:=by cases W.mw<;>lia
 have hok:∀e∈E,okW n e:=fun e he=>⟨(W.all e he).1,fun x hx=>by have:=(W.all e he).2 x hx;exact z594 this.1 hM.1 this.2⟩
 have hEl:=W.len
 refine WIv.seqA rfl (sd:=.lst _) il hh rfl trivial (Turns.map (fun w=>il w) (fun _ _=>loc1 rfl) trivial (by simp only [sizeLine];exact z647 hEl hM.2.2) (fun w hw fr' cenv hc=> ?_) (.inl ?_))
 ·have g:=g.at (relab_of hc hs)
  have:=(hok w hw).1
  (with_reducible refine WE.go (by assumption) ?_);refine Sp.mk ?_
  refine At1.list (sd:=.lst _) trivial (by (simp only [SD.ds,List.length_map,List.length_range,List.length_zip,List.length_take,List.length_drop,List.length_append,List.length_replicate,List.length_cons,List.length_nil,sizeLine]<;>lia)) (.inl ⟨rfl,rfl⟩)
 refine Sp.mk ?_
 intro dx hdx
 refine WM.at (new_ (sd:=.lst _) (ws:=lstW E) T G Sy rfl trivial lstW_d ⟨fun w hw=>⟨(lstW_ok hw).1,hok _ (lstW_ok (σ:=[]) hw).2⟩,by rw [lstW_len];exact z645 hEl hM.2.2⟩ (z1377 hn) (z1378 hn) ?_ dx) (by decide)
 refine Sp.mk ?_;(with_reducible refine WE.mthA (by with_unfolding_all rfl) (by assumption) (by assumption) (by assumption) ?_ (by with_unfolding_all decide) (by with_unfolding_all decide) (by with_unfolding_all rfl) (by with_unfolding_all (intro _;rfl)) (by with_unfolding_all rfl) (by with_unfolding_all rfl);refine WE.go (by assumption) ?_);refine Sp.mk ?_;(with_reducible refine kMeth.mk ?_;refine WA.go (by assumption) ?_);refine Sp.mk ?_
 rw [lstW_2]
 skip
 refine WM.at (least_ T Sy W.fits (fun e he=>small_of (hok e he) (z1378 hn)) (z1379 hEl hM.2.2) (z1380 hn) (z1377 hn) fun o L=>.inl ?_) (by decide)
 refine Sp.mk ?_
 refine WF.at (rows_ (sd:=.lst _) (l:=o) (n:=n) T rfl trivial rfl (fun s hs=>((L.mem s).mp hs).row.len) (z1380 hn) ?_) (by decide)
 refine Sp.mk ?_
 have ev:∀{Q:D->Sto->Prop},Q (.lst ((evS n E).map row)) []->WF c (Room 2) "_law_even_rows" [rl E,.int n] [] Q X:=fun {Q} h=>by
  cases E with
  | nil=>simp at hEl;lia
  | cons e E=>
   rcases hn with rfl| rfl
   ·exact even2_ T (hok e (.head _)).1 (fun r hr=>(hok r (.tail _ hr)).1) (fun r hr=>(hok r hr).2) (by simp at hEl;exact z1381 hEl hM.2.2) h
   ·have h1:E.length<=1:=by simp at hEl;cases W.mw<;>lia
    exact even3_ T (hok e (.head _)).1 (fun r hr=>(hok r (.tail _ hr)).1) (fun r hr=>(hok r hr).2) h1 h
 refine WF.at (ev ?_) (by decide)
 refine Sp.mk ?_
 refine WF.at (due_ T (Nat.le_trans W.evlen (by decide)) W.sort (fun r hr e=>by have:=(W.holds.row r hr).len;rw [e] at this;simp at this;exact z1385 this hn) fun srt hp hso=> ?_) (by decide)
 rw [W.holds.due L hp hso]
 refine Sp.mk ?_
 refine WB.eqD r (.of (Py.lst (n:=3) PyAll.rows)) (.of (Py.lst (n:=3) PyAll.rows)) ?_
 refine Sp.mk ?_
 rw [eqvRows1]
 skip
end
end Mine
open PySem PySem.W PyProof.Rows
set_option maxRecDepth 100000
set_option maxHeartbeats 8000000
theorem PySem.Challenge.cw_uf050013_14_holds : PySem.Challenge.rw_uf050013_14.Holds := by
 w_on
 refine holds_law Mine.said14 fun said=> ?_
 refine holds_open (q:=Mine.q14) (loose:=[]) (Xt:=fun s=>xlAt Mine.q14 [] s&&recOk (RowW.records PySem.Challenge.rw_uf050013_14.row.toRowW) s) (XP:=XL Mine.q14 []) (Yf:=Hook.obs Hook.none) (Ya:=Hook.val Hook.none) (YP:=Hook.says Hook.none) (N:=3872) Mine.left14 (Hook.of Hook.none) (Hook.keeps Hook.none) (fun s e=>xl_of s (Bool.and_eq_true_iff.mp e).1) XL.keeps (by rfl) (by rfl) (by rfl) (fun s e=>recFacts_of (Bool.and_eq_true_iff.mp e).2) (by rfl) (by assumption) (by decide+kernel) ⟨rfl,rfl,rfl,rfl,rfl,by decide+kernel⟩ ?hw ?hc
 (case hw=>w_witness2)
 intro w s₀ s₁ mg mb G Y fa o pm cd doc dV kV ho hd hcd hD hmg hg args vals as hpre hlay hrd hwl hlo
 refine Ground.open G ?_
 intro T B D TE TW
 clear ho hd hcd hD
 wrow_args hpre hlay hrd hwl hlo
 rename_i S hs1 hlay0 hL1 hr1 hl2 w4 w3 l vs as' hL ra w1 r0 hI hr hc1 hc2
 have Tm:Mine.Tp ⟨PySem.Challenge.rw_uf050013_14.row.prog,w,s₁.heap,mg,mb⟩ Mine.B14 Mine.N14:=Mine.Tp.ofTop T (by kernel_rfl) (by kernel_rfl) (by kernel_rfl)
 have Gm:Mine.Gi ⟨PySem.Challenge.rw_uf050013_14.row.prog,w,s₁.heap,mg,mb⟩ Mine.G14:=Mine.Gi.ofTop T (by kernel_rfl)
 obtain ⟨K,C,Sm⟩:=Mine.Ks.ofTop (c:=⟨PySem.Challenge.rw_uf050013_14.row.prog,w,s₁.heap,mg,mb⟩) (cn:=Str.ofString "System") (Bd:=Mine.Bd14) TE 0 (by kernel_rfl)
 have w2:Well w.params s₁.heap (.ref l) (.list (S.map WData.int)):=by
  have:=w1
  simp only [ofPy,Mine.ofPys_ints] at this
  exact this
 exact Mine.last (c:=⟨PySem.Challenge.rw_uf050013_14.row.prog,w,s₁.heap,mg,mb⟩) (Mine.law_ Tm Gm Sm (by omega)) (by decide) hmg (Mine.V.ofWell w2) rfl hg (Mine.post_ok _ _ _) (Mine.raises_ok _ _)
