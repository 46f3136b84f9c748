import PyProof.Rows.All
import Wide.FinOn
import Open.Line
import PyProof.Walks
import PyProof.WalksMore
import PyProof.WalksT
import PyProof.CompFree
import PyProof.Cells
import PyProof.Rows.Many
import PyProof.RaisesMany
import PyProof.TupleKey
import PyProof.DictRoadsH
import PyProof.RangeFor
import PyProof.Rows.Range3
import PyProof.ZipIter
import PyProof.EnumMake
import PyProof.Rows.ZipGen
import PyProof.IsInstance
import PyProof.IsInstanceH
import PyProof.IsiNone
import PyProof.Rows.IntRules
import PyProof.Rows.RuleB_mul
import PyProof.Rows.RuleB_floordiv
import PyProof.Rows.RuleB_pow
import PyProof.Rows.RuleC_int
import PyProof.Rows.RuleU_int
import PyProof.SumAny
import PyProof.MinMaxWalk
import PyProof.ConsumeWalk
import PyProof.TupleOfSeq
import PyProof.ListCopy
import PyProof.TupleCall
import PyProof.ListIndexNeg
import PyProof.Rows.StrTemp
import KE.KSortTup
import KE.KSortKey
import KE.KEqDeep
import OpenK.KMore
import PyProof.Rows.CatchOwn
import PyProof.RulesAs
import PyProof.ExcAttrAll.ValueError
import PyProof.StrBlock
import PyProof.Rows.RuleN_abs
import PyProof.EnumFor
import PyProof.StrOps2
import PyProof.StrCalls2
import PyProof.StrCalls3
import PyProof.SliceStr2
import PyProof.StrWalks
import PyProof.StrLawsNeg
import PyProof.StrLawsTight
import PyProof.CallStr
import KE.KIntText
import PyProof.Rows.TupAssign
import PyProof.Dict
import PyProof.DictIter
import PyProof.DictWalks
import PyProof.ListRange
import PyProof.MeetsDictList
import PyProof.Rows.TupMore
import PyProof.AutoListH
import PyProof.AutoSeq1
import PyProof.SliceSyntax
import PyProof.SliceList
import PyProof.LetGo
import PySem.Challenge.RW_uf050013_10
set_option compiler.extract_closed false
set_option Elab.async false
set_option linter.all false
set_option autoImplicit false
namespace Mine
open PySem PySem.Calls PyProof.Rows PySem.W
end Mine
namespace Mine
open PySem PySem.W PyProof.Rows
def q10:Program:={PySem.Challenge.rw_uf050013_10.row.prog with main:={PySem.Challenge.rw_uf050013_10.row.prog.main with body:=[0,2,3,4,5,7,8,9,10,11,13,14,15,16,17,18,19,20,21,22,23,25,26,27,28,29,30,31,32,33,34,35,36,37,38,39,40,41,42,43].filterMap fun i=>PySem.Challenge.rw_uf050013_10.row.prog.main.body[i]?}}
set_option maxRecDepth 100000 in
theorem said10:OpenLaw.wellSaid PySem.Challenge.rw_uf050013_10=true:=by kernel_rfl
set_option maxRecDepth 100000 in
theorem left10:LeftO PySem.Challenge.rw_uf050013_10.row.prog q10 [] (fun s=>xlAt q10 [] s&&recOk (RowW.records PySem.Challenge.rw_uf050013_10.row.toRowW) s) (Hook.obs Hook.none) (Hook.val Hook.none) 4732:=fun w=>by kernel_rfl
end Mine
namespace Mine
inductive NE where
 | v (i:Nat)
 | n (k:Nat)
 | a (x y:NE)
 | m (k:Nat) (x:NE)
inductive IE where
 | v (i:Nat)
 | n (k:Int)
 | a (x y:IE)
 | s (x y:IE)
 | g (x:IE)
 | m (k:Int) (x:IE)
 | c (x:NE)
noncomputable def NE.d (xs:List Nat):NE->Nat
 | .v i=>xs.getD i 0
 | .n k=>k
 | .a x y=>x.d xs+y.d xs
 | .m k x=>k*x.d xs
noncomputable def IE.d (xs:List Nat)(ys:List Int):IE->Int
 | .v i=>ys.getD i 0
 | .n k=>k
 | .a x y=>x.d xs ys+y.d xs ys
 | .s x y=>x.d xs ys-y.d xs ys
 | .g x=> -x.d xs ys
 | .m k x=>k*x.d xs ys
 | .c x=>((x.d xs:Nat):Int)
inductive Cn where
 | nl (x y:NE)
 | nt (x y:NE)
 | ne (x y:NE)
 | nf (x y:NE)
 | il (x y:IE)
 | it (x y:IE)
 | ie (x y:IE)
 | jf (x y:IE)
noncomputable def Cn.d (xs:List Nat)(ys:List Int):Cn->Prop
 | .nl x y=>x.d xs<=y.d xs
 | .nt x y=>x.d xs<y.d xs
 | .ne x y=>x.d xs=y.d xs
 | .nf x y=>x.d xs=y.d xs
 | .il x y=>x.d xs ys<=y.d xs ys
 | .it x y=>x.d xs ys<y.d xs ys
 | .ie x y=>x.d xs ys=y.d xs ys
 | .jf x y=>x.d xs ys=y.d xs ys
structure Li where
 p:List Int
 q:List Int
 k:Int
noncomputable def ladd:List Int->List Int->List Int
 | [],y=>y
 | x,[]=>x
 | a::x,b::y=>(a+b)::ladd x y
noncomputable def lev:List Int->List Int->Int
 | a::x,b::y=>a*b+lev x y
 | _,_=>0
noncomputable def lone:Nat->List Int
 | 0=>[1]
 | i+1=>0::lone i
noncomputable def Li.add (x y:Li):Li:=⟨ladd x.p y.p,ladd x.q y.q,x.k+y.k⟩
noncomputable def Li.mul (c:Int)(x:Li):Li:=⟨x.p.map (c*·),x.q.map (c*·),c*x.k⟩
noncomputable def Li.ev (xs:List Nat)(ys:List Int)(x:Li):Int:=lev x.p (xs.map fun (n:Nat)=>(n:Int))+lev x.q ys+x.k
noncomputable def NE.l:NE->Li
 | .v i=>⟨lone i,[],0⟩
 | .n k=>⟨[],[],k⟩
 | .a x y=>x.l.add y.l
 | .m k x=>x.l.mul k
noncomputable def IE.l:IE->Li
 | .v i=>⟨[],lone i,0⟩
 | .n k=>⟨[],[],k⟩
 | .a x y=>x.l.add y.l
 | .s x y=>x.l.add (y.l.mul (-1))
 | .g x=>x.l.mul (-1)
 | .m k x=>x.l.mul k
 | .c x=>x.l
theorem lev_add:∀(x y z:List Int),lev (ladd x y) z=lev x z+lev y z
 | [],y,z=>by cases z<;>simp [ladd,lev]
 | a::x,[],z=>by cases z<;>simp [ladd,lev]
 | a::x,b::y,[]=>by simp [ladd,lev]
 | a::x,b::y,c::z=>by
  simp only [ladd,lev,lev_add x y z,Int.add_mul];lia
theorem lev_mul (c:Int):∀(x z:List Int),lev (x.map (c*·)) z=c*lev x z
 | [],z=>by cases z<;>simp [lev]
 | a::x,[]=>by simp [lev]
 | a::x,b::z=>by simp only [List.map_cons,lev,lev_mul c x z,Int.mul_add,Int.mul_assoc]
theorem lev_one:∀(i:Nat) (z:List Int),lev (lone i) z=z.getD i 0
 | 0,[]=>rfl
 | 0,b::z=>by cases z<;>simp [lone,lev]
 | i+1,[]=>rfl
 | i+1,b::z=>by simp [lone,lev,lev_one i z]
section
variable (xs:List Nat) (ys:List Int)
theorem Li.ev_add (x y:Li):(x.add y).ev xs ys=x.ev xs ys+y.ev xs ys:=by
 simp only [Li.add,Li.ev,lev_add];lia
theorem Li.ev_mul (c:Int)(x:Li):(x.mul c).ev xs ys=c*x.ev xs ys:=by
 simp only [Li.mul,Li.ev,lev_mul,Int.mul_add]
theorem NE.ok:∀e:NE,((e.d xs:Nat):Int)=e.l.ev xs ys
 | .v i=>by
  simp only [NE.d,NE.l,Li.ev,lev_one]
  have:(xs.map fun (n:Nat)=>(n:Int)).getD i 0=((xs.getD i 0:Nat):Int):=by
   simp only [List.getD_eq_getElem?_getD,List.getElem?_map]
   cases xs[i]? <;>rfl
  rw [this];cases ys<;>simp [lev]
 | .n k=>by simp [NE.d,NE.l,Li.ev,lev]
 | .a x y=>by rw [NE.l,Li.ev_add,<-NE.ok x,<-NE.ok y];simp [NE.d]
 | .m k x=>by rw [NE.l,Li.ev_mul,<-NE.ok x];simp [NE.d]
theorem IE.ok:∀e:IE,e.d xs ys=e.l.ev xs ys
 | .v i=>by
  simp only [IE.d,IE.l,Li.ev,lev_one]
  cases xs<;>simp [lev]
 | .n k=>by simp [IE.d,IE.l,Li.ev,lev]
 | .a x y=>by rw [IE.l,Li.ev_add,<-IE.ok x,<-IE.ok y];rfl
 | .s x y=>by rw [IE.l,Li.ev_add,Li.ev_mul,<-IE.ok x,<-IE.ok y];simp only [IE.d];lia
 | .g x=>by rw [IE.l,Li.ev_mul,<-IE.ok x];simp only [IE.d];lia
 | .m k x=>by rw [IE.l,Li.ev_mul,<-IE.ok x];rfl
 | .c x=>by rw [IE.l,<-NE.ok];rfl
noncomputable def Cn.l:Cn->Li
 | .nl x y=>x.l.add (y.l.mul (-1))
 | .nt x y=>(x.l.add (y.l.mul (-1))).add ⟨[],[],1⟩
 | .ne x y=>x.l.add (y.l.mul (-1))
 | .nf x y=>y.l.add (x.l.mul (-1))
 | .il x y=>x.l.add (y.l.mul (-1))
 | .it x y=>(x.l.add (y.l.mul (-1))).add ⟨[],[],1⟩
 | .ie x y=>x.l.add (y.l.mul (-1))
 | .jf x y=>y.l.add (x.l.mul (-1))
theorem ev_one:Li.ev xs ys ⟨[],[],1⟩=1:=by simp [Li.ev,lev]
theorem Cn.ok (c:Cn)(h:c.d xs ys):c.l.ev xs ys<=0:=by
 cases c<;>simp only [Cn.d,Cn.l,Li.ev_add,Li.ev_mul,<-NE.ok,<-IE.ok,ev_one] at h⊢<;>lia
noncomputable def imp:List (Nat × Cn)->Prop
 | []=>False
 | c::r=>c.2.d xs ys->imp r
noncomputable def linTot:Li->List (Nat × Cn)->Li
 | s,[]=>s
 | s,c::r=>linTot (s.add (c.2.l.mul c.1)) r
noncomputable def lok (x:Li):Bool:=x.p.all (fun a=>decide (0<=a))&&x.q.all (fun a=>decide (a=0))&&decide (0<x.k)
theorem lev_pos:∀(p:List Int) (zs:List Nat),p.all (fun a=>decide (0<=a))=true->0<=lev p (zs.map fun (n:Nat)=>(n:Int))
 | [],zs,_=>by cases zs<;>simp [lev]
 | a::p,[],_=>by simp [lev]
 | a::p,b::zs,h=>by
  simp only [List.all_cons,Bool.and_eq_true,decide_eq_true_eq] at h
  have:=lev_pos p zs h.2
  have:=Int.mul_nonneg h.1 (Int.natCast_nonneg b)
  simp only [List.map_cons,lev];lia
theorem lev_zero:∀(q:List Int) (z:List Int),q.all (fun a=>decide (a=0))=true->lev q z=0
 | [],z,_=>by cases z<;>simp [lev]
 | a::p,[],_=>by simp [lev]
 | a::p,b::zs,h=>by
  simp only [List.all_cons,Bool.and_eq_true,decide_eq_true_eq] at h
  simp only [lev,lev_zero p zs h.2,h.1];simp
theorem lin_of:∀(cs:List (Nat × Cn)) (s:Li),s.ev xs ys<=0->lok (linTot s cs)=true->imp xs ys cs
 | [],s,h,hk=>by
  simp only [linTot,lok,Bool.and_eq_true] at hk
  have h1:=lev_pos s.p xs hk.1.1
  have h2:=lev_zero s.q ys hk.1.2
  have h3:=of_decide_eq_true hk.2
  simp only [Li.ev] at h
  exact absurd h (by lia)
 | c::r,s,h,hk=>fun hc=>lin_of r _ (by
  rw [Li.ev_add,Li.ev_mul]
  have:=c.2.ok xs ys hc
  have:=Int.mul_le_mul_of_nonneg_left this (Int.natCast_nonneg c.1)
  lia) hk
end
theorem lin (xs:List Nat)(ys:List Int)(cs:List (Nat × Cn))(h:lok (linTot ⟨[],[],0⟩ cs)=true):imp xs ys cs:=lin_of xs ys cs _ (by cases xs<;>cases ys<;>simp [Li.ev,lev]) h
theorem z0 {a b c:Nat}(h0:a<b):a<b+c:=Nat.lt_add_right c h0
theorem z1 {a b c d:Int}:a+b+(c+d)=a+c+(b+d):=by lia
theorem z2 {a b:Int}(h0:a+b<0)(h1:¬(b<0)):a<0:=Int.not_le.mp fun qz=>lin [] [_,_] [(1,.il (.n 0) (.v 0)),(1,.il (.n 0) (.v 1)),(1,.it (.a (.v 0) (.v 1)) (.n 0))] rfl qz (Int.not_lt.mp h1) h0
theorem z3 {a b c d:Int}(h0:b<=d)(h1:a<=c):a+b<=c+d:=Int.add_le_add h1 h0
theorem z4 {a:Nat}(h0:a<0):False:=Nat.not_succ_le_zero a h0
theorem z5 {a b c d:Int}(h0:a+c<=b+d)(h1:d<=c):a<=b:=Int.not_lt.mp fun qz=>lin [] [_,_,_,_] [(1,.it (.v 0) (.v 1)),(1,.il (.v 2) (.v 3)),(1,.il (.a (.v 1) (.v 3)) (.a (.v 0) (.v 2)))] rfl qz h1 h0
theorem z6 {a b:Nat}(h0:a<b+1)(h1:¬(a=b)):a<b:=by lia
theorem z7 {a b c d:Int}:a-b+(c-d)=a+c-(b+d):=by lia
theorem z8 {a b:Nat}(h0:a<b):¬(a=b):=Nat.ne_of_lt h0
theorem z9 {a b:Int}(h0:0<=b)(h1:0<=a):0<=a+b:=Int.add_nonneg h1 h0
theorem z10 {a b:Int}(h0:0<=b)(h1:0<=a)(h2:a+b<=0):a=0:=Int.le_antisymm (Int.not_lt.mp fun qz=>lin [] [_,_] [(1,.it (.n 0) (.v 0)),(1,.il (.a (.v 0) (.v 1)) (.n 0)),(1,.il (.n 0) (.v 1))] rfl qz h2 h0) (Int.not_lt.mp fun qz=>lin [] [_] [(1,.it (.v 0) (.n 0)),(1,.il (.n 0) (.v 0))] rfl qz h1)
theorem z11 {a b:Int}(h0:0<=b)(h1:b+a<=0):a<=0:=Int.not_lt.mp fun qz=>lin [] [_,_] [(1,.it (.n 0) (.v 0)),(1,.il (.a (.v 1) (.v 0)) (.n 0)),(1,.il (.n 0) (.v 1))] rfl qz h1 h0
theorem z12 {a b:Nat}(h0:¬(b<a)):a<=b:=Nat.le_of_not_lt h0
theorem z13 {a b:Int}(h0:b<=a):0<=a-b:=Int.sub_nonneg_of_le h0
theorem z14 {a b:Int}(h0:0<=b):a-b<=a:=Int.sub_le_self a h0
theorem z15 {a b:Int}(h0:¬(b<=a)):a<b:=Int.lt_of_not_ge h0
theorem z16 {b:Nat}{a c:Int}(h0:c.toNat<=b+1)(h1:a<c):a.toNat<=b:=by simp at*;lia
theorem z17 {a b:Int}(h0:a=0):a-b= -b:=by lia
theorem z18 {a b:Int}(h0:0<b)(h1:a= -b):a<0:=Int.not_le.mp fun qz=>lin [] [_,_] [(1,.il (.n 0) (.v 0)),(1,.ie (.v 0) (.g (.v 1))),(1,.it (.n 0) (.v 1))] rfl qz h1 h0
theorem z19 {a b c:Int}(h0:a=b-c)(h1:c<=b)(h2:¬(c<b)):a=0:=Int.le_antisymm (Int.not_lt.mp fun qz=>lin [] [_,_,_] [(1,.it (.n 0) (.v 0)),(1,.il (.v 1) (.v 2)),(1,.ie (.v 0) (.s (.v 1) (.v 2)))] rfl qz (Int.not_lt.mp h2) h0) (Int.not_lt.mp fun qz=>lin [] [_,_,_] [(1,.it (.v 0) (.n 0)),(1,.il (.v 1) (.v 2)),(1,.jf (.v 0) (.s (.v 2) (.v 1)))] rfl qz h1 h0)
theorem z20 {a b c:Int}(h0:a=b-c)(h1:c<=b):0<=a:=Int.not_lt.mp fun qz=>lin [] [_,_,_] [(1,.it (.v 0) (.n 0)),(1,.il (.v 1) (.v 2)),(1,.jf (.v 0) (.s (.v 2) (.v 1)))] rfl qz h1 h0
theorem z21 {a b:Int}(h0:¬(b<a)):a<=b:=Int.not_lt.mp h0
theorem z22 {a b:Int}(h0:a<b)(h1:b<=a):False:=lin [] [_,_] [(1,.il (.v 0) (.v 1)),(1,.it (.v 1) (.v 0))] rfl h1 h0
theorem z23 {a b c:Nat}(h0:a<c)(h1:b=c):a<b:=Nat.lt_of_lt_of_eq h0 (id (Eq.symm h1))
theorem z24 {a b:Nat}(h0:a<b):a<=b:=Nat.le_of_lt h0
theorem z26 {a b:Nat}(h0:a<b+1)(h1:¬(a<b)):a=b:=Nat.eq_of_lt_succ_of_not_lt h0 h1
theorem z27 {a:Nat}:a<=a:=Nat.le_refl a
theorem z28 {a b:Nat}(h0:a=b):a<=b:=Nat.le_of_eq h0
theorem z29 {a b:Nat}(h0:b=a):a<=b:=(Nat.le_of_eq h0.symm)
theorem z32 {a b c:Nat}(h0:a+c<=b):a<=b:=Nat.le_of_add_right_le h0
theorem z36 {a b c:Int}(h0:a+c=b)(h1:c=0):a=b:=Int.le_antisymm (Int.not_lt.mp fun qz=>lin [] [_,_,_] [(1,.it (.v 0) (.v 1)),(1,.jf (.v 2) (.n 0)),(1,.ie (.a (.v 1) (.v 2)) (.v 0))] rfl qz h1 h0) (Int.not_lt.mp fun qz=>lin [] [_,_,_] [(1,.it (.v 0) (.v 1)),(1,.ie (.v 2) (.n 0)),(1,.jf (.a (.v 0) (.v 2)) (.v 1))] rfl qz h1 h0)
theorem z39 {a b c:Nat}(h0:a<c)(h1:c=b):a<b:=Nat.lt_of_lt_of_le h0 (Nat.le_of_eq h1)
theorem z40 {a b c:Nat}(h0:c=a)(h1:¬(b<c)):a<=b:=Nat.le_trans (Nat.le_of_eq h0.symm) (Nat.not_lt.mp h1)
theorem z41 {a b:Nat}(h0:¬(a<b)):a=b+(a-b):=Nat.le_antisymm (Nat.not_lt.mp fun qz=>lin [_,_,_] [] [(1,.nt (.a (.v 0) (.v 1)) (.v 2)),(1,.nl (.v 2) (.a (.v 1) (.v 0)))] rfl qz (Nat.sub_le_iff_le_add.mp (Nat.le_refl _))) (Nat.not_lt.mp fun qz=>lin [_,_,_] [] [(1,.nt (.v 0) (.a (.v 1) (.v 2))),(1,.ne (.a (.v 2) (.v 1)) (.v 0))] rfl qz (Nat.sub_add_cancel (Nat.not_lt.mp fun qz=>lin [_,_] [] [(1,.nt (.v 0) (.v 1)),(1,.nl (.v 1) (.v 0))] rfl qz (Nat.not_lt.mp h0))))
theorem z42 {a b:Nat}(h0:b<=a):a-(a-b)=b:=Nat.sub_sub_self h0
theorem z51 {a b c:Int}:a+(b+c)=b+(a+c):=Int.add_left_comm a b c
theorem z52 {a b:Nat}(h0:a<=b)(h1:¬(b=a)):a+1<=b:=by lia
theorem z53 {a b c:Int}(h0:b-a=c): -a+b=c:=by lia
theorem z54 {a b c d:Nat}(h0:a+(c+b)=d):a+b+c=d:=by lia
theorem z55 {a b c:Int}(h0:a<b)(h1:a=c)(h2:b<=c):False:=lin [] [_,_,_] [(1,.il (.v 0) (.v 1)),(1,.jf (.v 2) (.v 1)),(1,.it (.v 2) (.v 0))] rfl h2 h1 h0
theorem z56 {a:Int}(h0:¬(0<=a)):0<=-a:=Int.not_lt.mp fun qz=>lin [] [_] [(1,.it (.g (.v 0)) (.n 0)),(1,.it (.v 0) (.n 0))] rfl qz (Int.not_le.mp h0)
theorem z57 {a:Int}(h0:a<0):0< -a:=Int.neg_pos_of_neg h0
theorem z58 {a b c:Int}(h0:a+(b+c)=c):a= -b:=by lia
theorem z59 {a b:Int}(h0:0*b+(a+0)=0):a=0:=by lia
theorem z60 {a b:Int}:a+(-b+0)=a-b:=by lia
theorem z61 {a:Int}(h0:¬(0<a)):0<=-a:=Int.not_lt.mp fun qz=>lin [] [_] [(1,.it (.g (.v 0)) (.n 0)),(1,.il (.v 0) (.n 0))] rfl qz (Int.not_lt.mp h0)
theorem z62 {a b:Int}(h0:0<=-b)(h1:0<=a):0<=a-b:=Int.not_lt.mp fun qz=>lin [] [_,_] [(1,.it (.s (.v 0) (.v 1)) (.n 0)),(1,.il (.n 0) (.v 0)),(1,.il (.n 0) (.g (.v 1)))] rfl qz h1 h0
theorem z63 {a b:Int}(h0:0<=a)(h1:a+1<=b)(h2:b.toNat<=a.toNat):False:=by simp at*;lia
theorem z64 {a:Int}(h0:a<0):0< -1*a+(0*a+0):=by lia
theorem z65 {a b:Int}:1*a+(-1*b+0)=a-b:=by lia
theorem z66 {b:Nat}{a:Int}(h0:0<=a)(h1:a<=(b:Int)):0<=a/\a<0+(b+1:Int):=⟨h0,Int.not_le.mp fun qz=>lin [_] [_] [(1,.il (.a (.n 0) (.a (.c (.v 0)) (.n 1))) (.v 0)),(1,.il (.v 0) (.c (.v 0)))] rfl qz h1⟩
theorem z67 {b:Nat}{a c:Int}(h0:0<=c)(h1:a+c<=(b:Int)):a.toNat<b+1:=by simp;lia
theorem z69 {a:Nat}(h0:a<=5):a<6:=Nat.lt_succ_of_le h0
theorem z70 {b:Nat}{a:Int}(h0:(b+1:Int)<=a):0<a:=Int.not_le.mp fun qz=>lin [_] [_] [(1,.il (.v 0) (.n 0)),(1,.il (.a (.c (.v 0)) (.n 1)) (.v 0))] rfl qz h0
theorem z71 {a b:Int}(h0:0<=a):0<=a+b*0:=by lia
theorem z72 {a:Nat}{b:Int}(h0:(a+1:Int)<=b):(a:Int)<=b+-1:=Int.sub_right_le_iff_le_add.mp h0
theorem z73 {a b c:Int}(h0:a<=b+c*0):a<=b:=by lia
theorem z74 {a b:Nat}(h0:a<b)(h1:b<=a):False:=lin [_,_] [] [(1,.nl (.v 0) (.v 1)),(1,.nt (.v 1) (.v 0))] rfl h1 h0
theorem z75 {a:Nat}:1+(a:Int)=(a+1:Int):=Int.add_comm 1 ↑a
theorem z76 {a b:Nat}(h0:b<a):0<(a:Int):=Int.not_le.mp fun qz=>lin [_,_] [] [(1,.il (.c (.v 0)) (.n 0)),(1,.nt (.v 1) (.v 0))] rfl qz h0
theorem z77 {a b:Int}(h0:0<a-b)(h1:0<=b):1<=a:=Int.not_lt.mp fun qz=>lin [] [_,_] [(1,.it (.v 0) (.n 1)),(1,.il (.n 0) (.v 1)),(1,.it (.n 0) (.s (.v 0) (.v 1)))] rfl qz h1 h0
theorem z80 {a b:Int}:0<a-b\/0<b-a\/a-b=0/\b-a=0:=by lia
theorem z81 {a:Int}(h0: -2<=a)(h1:a<=2):a=0\/a=1\/a= -1\/a=2\/a= -2:=by lia
theorem z82 {a b c d e:Int}(h0:0*e+(1*a+(-1*b+(2*c+(-2*d+0))))=0):a-b+2*(c-d)=0:=by lia
theorem z83 {a b c d:Int}(h0:a-b+2*(c-d)=0)(h1:d-c=0):a=b:=Int.le_antisymm (Int.not_lt.mp fun qz=>lin [] [_,_,_,_] [(1,.it (.v 0) (.v 1)),(2,.ie (.s (.v 2) (.v 3)) (.n 0)),(1,.ie (.a (.s (.v 1) (.v 0)) (.m 2 (.s (.v 3) (.v 2)))) (.n 0))] rfl qz h1 h0) (Int.not_lt.mp fun qz=>lin [] [_,_,_,_] [(1,.it (.v 0) (.v 1)),(2,.jf (.s (.v 2) (.v 3)) (.n 0)),(1,.jf (.a (.s (.v 0) (.v 1)) (.m 2 (.s (.v 3) (.v 2)))) (.n 0))] rfl qz h1 h0)
theorem z84 {a b:Int}(h0:b-a=0):a=b:=Eq.symm (Int.eq_of_sub_eq_zero h0)
theorem z89 {b:Nat}{a:Int}:a<=(a.natAbs+b:Int):=by lia
theorem z90 {b c:Nat}{a:Int}(h0:a<=(c:Int)):a<=(b+c:Int):=Int.not_lt.mp fun qz=>lin [_,_] [_] [(1,.it (.a (.c (.v 0)) (.c (.v 1))) (.v 0)),(1,.il (.v 0) (.c (.v 1)))] rfl qz h0
theorem z91 {b c:Nat}{a:Int}(h0:a<=(b:Int)):a<=(b+c:Int):=Int.not_lt.mp fun qz=>lin [_,_] [_] [(1,.it (.a (.c (.v 0)) (.c (.v 1))) (.v 0)),(1,.il (.v 0) (.c (.v 0)))] rfl qz h0
theorem z92 {a:Nat}(h0:4<=a):¬(a<3):=Nat.not_lt_of_gt h0
theorem z93 {a:Nat}(h0:4<=a):¬(a=3):=Nat.ne_of_lt' h0
theorem z95 {a b c:Int}(h0: -c<=b)(h1:b<=c)(h2:c<=a): -a<=b/\b<=a:=⟨Int.not_lt.mp fun qz=>lin [] [_,_,_] [(1,.it (.v 0) (.g (.v 1))),(1,.il (.v 2) (.v 1)),(1,.il (.g (.v 2)) (.v 0))] rfl qz h2 h0,Int.le_trans h1 h2⟩
theorem z107 {a b:Int}(h0:a<b):a+1<=b:=Int.not_lt.mp fun qz=>lin [] [_,_] [(1,.it (.v 0) (.a (.v 1) (.n 1))),(1,.it (.v 1) (.v 0))] rfl qz h0
theorem z112 {a b c:Nat}(h0:a<min c b):a<b:=Nat.lt_of_lt_of_le h0 (Nat.min_le_right _ _)
theorem z113 {a b c:Nat}(h0:a<min b c):a<b:=Nat.lt_of_lt_of_le h0 (Nat.min_le_left _ _)
theorem z114 {a b:Nat}(h0:b<a):a-1<a:=Nat.sub_one_lt_of_lt h0
theorem z115 {a b:Int}(h0:0<=b):a<=a+b:=Int.le_add_of_nonneg_right h0
theorem z116 {a b:Int}(h0:b=a+1):a<b:=Int.lt.intro (id (Eq.symm h0))
theorem z117 {a b c:Int}(h0:a<c)(h1:b=c+1):a<b:=Int.not_le.mp fun qz=>lin [] [_,_,_] [(1,.il (.v 0) (.v 1)),(1,.jf (.v 0) (.a (.v 2) (.n 1))),(1,.it (.v 1) (.v 2))] rfl qz h1 h0
theorem z118 {a b:Int}(h0:b<a):0<a-b:=Int.sub_pos_of_lt h0
theorem z119 {a b c:Int}(h0:0<=a)(h1:b-a=c)(h2:b<c):False:=lin [] [_,_,_] [(1,.it (.v 0) (.v 1)),(1,.jf (.s (.v 0) (.v 2)) (.v 1)),(1,.il (.n 0) (.v 2))] rfl h2 h1 h0
theorem z120 {a b c d:Nat}(h0:c<b)(h1:d=b-1)(h2:a<=d):a+1<=b:=Nat.not_lt.mp fun qz=>lin [_,_,_,_] [] [(1,.nt (.v 0) (.a (.v 1) (.n 1))),(1,.nl (.v 1) (.v 2)),(1,.ne (.v 2) (.v 3)),(1,.ne (.a (.v 3) (.n 1)) (.v 0))] rfl qz h2 h1 (Nat.sub_add_cancel (Nat.not_lt.mp fun qz=>lin [_,_] [] [(1,.nt (.v 0) (.n 1)),(1,.nt (.v 1) (.v 0))] rfl qz h0))
theorem z121 {a c:Nat}{b:Int}(h0:a<=c):(a:Int)+b<=(c:Int)+b:=Int.not_lt.mp fun qz=>lin [_,_] [_] [(1,.it (.a (.c (.v 0)) (.v 0)) (.a (.c (.v 1)) (.v 0))),(1,.nl (.v 1) (.v 0))] rfl qz h0
theorem z122 {a b c:Int}(h0:c<b)(h1:a<=c):a<b:=Int.lt_of_le_of_lt h1 h0
theorem z123 {a b c:Int}(h0:a=c+1)(h1:¬(b<=c)):a<=b:=Int.not_lt.mp fun qz=>lin [] [_,_,_] [(1,.it (.v 0) (.v 1)),(1,.it (.v 2) (.v 0)),(1,.ie (.v 1) (.a (.v 2) (.n 1)))] rfl qz (Int.not_le.mp h1) h0
theorem z124 {a b:Int}(h0:a<=b):a<=b+1:=Int.le_add_one h0
theorem z125 {b:Nat}{a:Int}(h0:a=(b:Int)+1):0<a:=Int.not_le.mp fun qz=>lin [_] [_] [(1,.il (.v 0) (.n 0)),(1,.jf (.v 0) (.a (.c (.v 0)) (.n 1)))] rfl qz h0
theorem z126 {a b:Int}(h0:a=b):a<=b:=Int.le_of_eq h0
theorem z127 {a b:Int}(h0:a=b+1)(h1:a<=b):False:=lin [] [_,_] [(1,.il (.v 0) (.v 1)),(1,.jf (.v 0) (.a (.v 1) (.n 1)))] rfl h1 h0
theorem z128 {a b:Int}(h0:¬(b<=a)):a+1<=b:=Int.not_lt.mp fun qz=>lin [] [_,_] [(1,.it (.v 0) (.a (.v 1) (.n 1))),(1,.it (.v 1) (.v 0))] rfl qz (Int.not_le.mp h0)
theorem z129 {c:Nat}{a b:Int}(h0:b=(c:Int)+1)(h1:a<=(c+1:Int)):a<=b:=Int.le_trans h1 (Int.le_of_eq h0.symm)
theorem z130 {a d:Nat}{b c:Int}(h0:(a+d:Int)+b<=c):(a:Int)+b<=c:=Int.not_lt.mp fun qz=>lin [_,_] [_,_] [(1,.it (.v 0) (.a (.c (.v 0)) (.v 1))),(1,.il (.a (.a (.c (.v 0)) (.c (.v 1))) (.v 1)) (.v 0))] rfl qz h0
theorem z131 {a:Nat}{b c:Int}(h0:(a+1:Int)+b<=c)(h1:c=(a:Int)+b):False:=lin [_] [_,_] [(1,.ie (.v 0) (.a (.c (.v 0)) (.v 1))),(1,.il (.a (.a (.c (.v 0)) (.n 1)) (.v 1)) (.v 0))] rfl h1 h0
theorem z132 {a b:Int}(h0:a<=b):a+0<=b:=Int.not_lt.mp fun qz=>lin [] [_,_] [(1,.it (.v 0) (.a (.v 1) (.n 0))),(1,.il (.v 1) (.v 0))] rfl qz h0
theorem z134 {a:Int}(h0: -a<0):1<=a:=Int.not_lt.mp fun qz=>lin [] [_] [(1,.it (.v 0) (.n 1)),(1,.it (.g (.v 0)) (.n 0))] rfl qz h0
theorem z172 {a:Int}(h0:0<a):1<=a:=Int.le_of_sub_one_lt h0
theorem z177 {a:Nat}(h0:1<=a):1<=(a:Int):=Int.toNat_le.mp h0
theorem z182 {a b c:Nat}(h0:b<c)(h1:¬(a<c)):¬(a=b):=fun qz=>lin [_,_,_] [] [(1,.ne (.v 0) (.v 1)),(1,.nl (.v 2) (.v 0)),(1,.nt (.v 1) (.v 2))] rfl qz (Nat.not_lt.mp h1) h0
theorem z183 {a b:Int}(h0:b+a=0):a= -b:=Eq.symm (Int.neg_eq_of_add_eq_zero h0)
theorem z192 {b:Nat}{a:Int}(h0: -(b:Int)<=a)(h1:a<=(b:Int)):a.natAbs<=b:=by lia
theorem z194 {a b:Int}(h0: -b<=a):0<=a+b:=Int.add_nonneg_iff_neg_le.mpr h0
theorem z202 {a:Nat}(h0:a<3):a=0\/a=1\/a=2:=(by decide:∀x,x<3->(x=0\/x=1\/x=2)) a h0
theorem z235 {a b:Nat}:a<=b+a:=Nat.le_add_left a b
theorem z252 {a:Nat}(h0:a<2):a=0\/a=1:=by lia
theorem z256 {b:Nat}{a:Int}(h0: -(b:Int)<=a)(h1:a<=(b:Int))(h2:b<=3*(20*20)): -1200<=a/\a<=1200:=⟨Int.not_lt.mp fun qz=>lin [_] [_] [(1,.it (.v 0) (.g (.n 1200))),(1,.nl (.v 0) (.m 3 (.m 20 (.n 20)))),(1,.il (.g (.c (.v 0))) (.v 0))] rfl qz h2 h0,Int.not_lt.mp fun qz=>lin [_] [_] [(1,.it (.n 1200) (.v 0)),(1,.nl (.v 0) (.m 3 (.m 20 (.n 20)))),(1,.il (.v 0) (.c (.v 0)))] rfl qz h2 h1⟩
theorem z257 {a:Int}:a= -(-a):=Int.eq_neg_comm.mp rfl
theorem z258 {a b:Int}(h0: -a<=b)(h1:b<=a): -a<=-b/\-b<=a:=⟨Int.not_lt.mp fun qz=>lin [] [_,_] [(1,.it (.g (.v 0)) (.g (.v 1))),(1,.il (.v 0) (.v 1))] rfl qz h1,Int.not_lt.mp fun qz=>lin [] [_,_] [(1,.it (.v 0) (.g (.v 1))),(1,.il (.g (.v 0)) (.v 1))] rfl qz h0⟩
theorem z259 {a b c:Int}:0+a+-b+c=a-b+c:=by lia
theorem z260 {a b c:Int}:0+-a+b+c=b-a+c:=by lia
theorem z261 {a:Int}(h0:0<=a)(h1:a<2):a=0\/a=1:=by lia
theorem z267 {a b c d e f g k m:Int}(h0: -d<=m)(h1:0<g)(h2:a-c+m<0)(h3:e-f<=k):a+b-c<=b+d/\e-(f+g)<=k:=⟨Int.not_lt.mp fun qz=>lin [] [_,_,_,_,_] [(1,.it (.a (.v 0) (.v 1)) (.s (.a (.v 2) (.v 0)) (.v 3))),(1,.it (.a (.s (.v 2) (.v 3)) (.v 4)) (.n 0)),(1,.il (.g (.v 1)) (.v 4))] rfl qz h2 h0,Int.not_lt.mp fun qz=>lin [] [_,_,_,_] [(1,.it (.v 0) (.s (.v 1) (.a (.v 2) (.v 3)))),(1,.il (.s (.v 1) (.v 2)) (.v 0)),(1,.it (.n 0) (.v 3))] rfl qz h3 h1⟩
theorem z268 {a b c d e f g k m:Int}(h0: -k<=m)(h1:0<c)(h2:e-g+m<0)(h3:a-b<=d):a-(b+c)<=d/\e+f-g<=f+k:=⟨Int.not_lt.mp fun qz=>lin [] [_,_,_,_] [(1,.it (.v 0) (.s (.v 1) (.a (.v 2) (.v 3)))),(1,.il (.s (.v 1) (.v 2)) (.v 0)),(1,.it (.n 0) (.v 3))] rfl qz h3 h1,Int.not_lt.mp fun qz=>lin [] [_,_,_,_,_] [(1,.it (.a (.v 0) (.v 1)) (.s (.a (.v 2) (.v 0)) (.v 3))),(1,.it (.a (.s (.v 2) (.v 3)) (.v 4)) (.n 0)),(1,.il (.g (.v 1)) (.v 4))] rfl qz h2 h0⟩
theorem z269 {a:Int}(h0:a<=0):0<=-a:=Int.neg_nonneg_of_nonpos h0
theorem z270 {a:Int}(h0:0<=a)(h1:¬(a=0)):1<=a:=by lia
theorem z271 {a b c d e f:Int}(h0: -1200<=c)(h1:d-e+c<f)(h2:f<=-e)(h3:b<=1201)(h4:a<=d):a+1<=1201/\b<=1201:=⟨Int.not_lt.mp fun qz=>lin [] [_,_,_,_,_] [(1,.it (.n 1201) (.a (.v 0) (.n 1))),(1,.il (.v 0) (.v 1)),(1,.il (.v 2) (.g (.v 3))),(1,.it (.a (.s (.v 1) (.v 3)) (.v 4)) (.v 2)),(1,.il (.g (.n 1200)) (.v 4))] rfl qz h4 h2 h1 h0,h3⟩
theorem z272 {a b c d e f:Int}(h0: -1200<=c)(h1:d-e+c<f)(h2:f<=-e)(h3:a<=1201)(h4:b<=d):a<=1201/\b+1<=1201:=⟨h3,Int.not_lt.mp fun qz=>lin [] [_,_,_,_,_] [(1,.it (.n 1201) (.a (.v 0) (.n 1))),(1,.il (.v 0) (.v 1)),(1,.il (.v 2) (.g (.v 3))),(1,.it (.a (.s (.v 1) (.v 3)) (.v 4)) (.v 2)),(1,.il (.g (.n 1200)) (.v 4))] rfl qz h4 h2 h1 h0⟩
theorem z273 {a:Int}(h0:¬(1<=a)):a<=0:=by lia
theorem z274 {a b:Int}(h0:0<a)(h1:b= -a)(h2:b=0):False:=lin [] [_,_] [(1,.jf (.v 0) (.n 0)),(1,.ie (.v 0) (.g (.v 1))),(1,.it (.n 0) (.v 1))] rfl h2 h1 h0
theorem z275 {a b:Int}(h0:a<b):a<=b:=Int.le_of_lt h0
theorem z276 {a:Int}(h0:a<=1200):a+1200<=2400:=Int.add_le_of_le_sub_right h0
theorem z277 {a b c d e f g k m n p q:Int}(h0:c=d+e)(h1:f=g+k)(h2:m<=1200*2400)(h3:n<=1200*2400)(h4:p<=1200*2400)(h5:q<=1200*2400)(h6:b<=c)(h7:e<=m)(h8:d<=p)(h9:k<=n)(h10:g<=q)(h11:a<=f):a<=5760000/\b<=5760000:=⟨Int.not_lt.mp fun qz=>lin [] [_,_,_,_,_,_] [(1,.it (.n 5760000) (.v 0)),(1,.il (.v 0) (.v 1)),(1,.il (.v 2) (.v 3)),(1,.il (.v 4) (.v 5)),(1,.il (.v 3) (.m 1200 (.n 2400))),(1,.il (.v 5) (.m 1200 (.n 2400))),(1,.ie (.v 1) (.a (.v 2) (.v 4)))] rfl qz h11 h10 h9 h5 h3 h1,Int.not_lt.mp fun qz=>lin [] [_,_,_,_,_,_] [(1,.it (.n 5760000) (.v 0)),(1,.il (.v 1) (.v 2)),(1,.il (.v 3) (.v 4)),(1,.il (.v 0) (.v 5)),(1,.il (.v 2) (.m 1200 (.n 2400))),(1,.il (.v 4) (.m 1200 (.n 2400))),(1,.ie (.v 5) (.a (.v 1) (.v 3)))] rfl qz h8 h7 h6 h4 h2 h0⟩
theorem z279 {a b:Int}(h0:0<a)(h1:0<=b):0<a+b:=Int.add_pos_of_pos_of_nonneg h0 h1
theorem z280 {a b c:Int}(h0:a<c)(h1:c<=b):a<=b:=Int.le_of_lt (Int.lt_of_lt_of_le h0 h1)
theorem z281 {a b c d e f:Int}(h0:c-d<=e+1200)(h1:a<f)(h2:e<=1200)(h3:f<=1200)(h4:d<=1200*1200)(h5:b<=c):a<=5760000/\b<=5760000:=⟨Int.le_of_lt (Int.lt_trans (Int.lt_of_lt_of_le h1 h3) (by decide)),Int.not_lt.mp fun qz=>lin [] [_,_,_,_] [(1,.it (.n 5760000) (.v 0)),(1,.il (.v 0) (.v 1)),(1,.il (.v 2) (.m 1200 (.n 1200))),(1,.il (.v 3) (.n 1200)),(1,.il (.s (.v 1) (.v 2)) (.a (.v 3) (.n 1200)))] rfl qz h5 h4 h2 h0⟩
theorem z282 {a b c d e f:Int}(h0:a-e<=b+f)(h1:f<=d)(h2:e<=c):a<=b+c+d:=Int.not_lt.mp fun qz=>lin [] [_,_,_,_,_,_] [(1,.it (.a (.a (.v 0) (.v 1)) (.v 2)) (.v 3)),(1,.il (.v 4) (.v 1)),(1,.il (.v 5) (.v 2)),(1,.il (.s (.v 3) (.v 4)) (.a (.v 0) (.v 5)))] rfl qz h2 h1 h0
theorem z283 {a:Int}(h0:1<=a):0<a:=Int.lt_of_add_one_le h0
theorem z284 {a b c d:Int}(h0:b<c)(h1:a<=1+d+1200)(h2:c<=1200)(h3:d<=1200):a<=5760000/\b<=5760000:=⟨Int.not_lt.mp fun qz=>lin [] [_,_] [(1,.it (.n 5760000) (.v 0)),(1,.il (.v 1) (.n 1200)),(1,.il (.v 0) (.a (.a (.n 1) (.v 1)) (.n 1200)))] rfl qz h3 h1,Int.le_of_lt (Int.lt_trans (Int.lt_of_lt_of_le h0 h2) (by decide))⟩
theorem z285 {a b c d:Int}(h0:c=a)(h1:d=b)(h2:d<=1200)(h3:c<=1200):a<=5760000/\b<=5760000:=⟨Int.le_of_lt (Int.lt_of_le_of_lt (Int.le_trans (Int.le_of_eq h0.symm) h3) (by decide)),Int.le_of_lt (Int.lt_of_le_of_lt (Int.le_trans (Int.le_of_eq h1.symm) h2) (by decide))⟩
theorem z286 {a b:Int}(h0:b<=1201)(h1:a<=1201):a<=5760000/\b<=5760000:=⟨Int.le_of_lt (Int.lt_of_le_of_lt h1 (by decide)),Int.le_of_lt (Int.lt_of_le_of_lt h0 (by decide))⟩
theorem z287 {a b c d:Int}(h0:b<2)(h1:a=0+c+d+b)(h2:d<=5760000)(h3:c<=5760000):a<=(11520001:Int):=Int.not_lt.mp fun qz=>lin [] [_,_,_,_] [(1,.it (.n 11520001) (.v 0)),(1,.il (.v 1) (.n 5760000)),(1,.il (.v 2) (.n 5760000)),(1,.ie (.v 0) (.a (.a (.a (.n 0) (.v 1)) (.v 2)) (.v 3))),(1,.it (.v 3) (.n 2))] rfl qz h3 h2 h1 h0
theorem z288 {a:Int}(h0:a<=5760000):a<5760001:=Int.lt_of_le_sub_one h0
theorem z289 {a:Nat}:0<=(a:Int):=by simp
theorem z290 {b c:Nat}{a:Int}(h0:(b+c:Int)=a):a=(b:Int)+(c:Int):=(h0).symm
theorem z291 {a b c d e f g:Int}(h0:0<=c)(h1:2*d+2*e-a=c)(h2:f+g<=b)(h3:e=g)(h4:d=f):a<=2*b:=Int.not_lt.mp fun qz=>lin [] [_,_,_,_,_,_,_] [(1,.it (.m 2 (.v 0)) (.v 1)),(2,.ie (.v 2) (.v 3)),(2,.ie (.v 4) (.v 5)),(2,.il (.a (.v 3) (.v 5)) (.v 0)),(1,.jf (.s (.a (.m 2 (.v 2)) (.m 2 (.v 4))) (.v 1)) (.v 6)),(1,.il (.n 0) (.v 6))] rfl qz h4 h3 h2 h1 h0
theorem z292 {a:Int}(h0:¬(a<=258)):259<=a:=Int.not_lt.mp fun qz=>lin [] [_] [(1,.it (.v 0) (.n 259)),(1,.it (.n 258) (.v 0))] rfl qz (Int.not_le.mp h0)
theorem z293 {a b c d:Int}(h0:259*a<=b)(h1:c<=10*d+690)(h2:d<=12*a+168)(h3:b<=2*c)(h4:¬(a<=258)):False:=lin [] [_,_,_,_] [(19,.it (.n 258) (.v 0)),(1,.il (.v 1) (.m 2 (.v 2))),(20,.il (.v 3) (.a (.m 12 (.v 0)) (.n 168))),(2,.il (.v 2) (.a (.m 10 (.v 3)) (.n 690))),(1,.il (.m 259 (.v 0)) (.v 1))] rfl (Int.not_le.mp h4) h3 h2 h1 h0
theorem z294 {a b c d:Int}(h0:c<=10*d+56)(h1:a<=10*d+56)(h2:b<=10*d+56)(h3:d<=258):a<2800/\b<2800/\c<2800:=⟨Int.not_le.mp fun qz=>lin [] [_,_] [(1,.il (.n 2800) (.v 0)),(10,.il (.v 1) (.n 258)),(1,.il (.v 0) (.a (.m 10 (.v 1)) (.n 56)))] rfl qz h3 h1,⟨Int.not_le.mp fun qz=>lin [] [_,_] [(1,.il (.n 2800) (.v 0)),(10,.il (.v 1) (.n 258)),(1,.il (.v 0) (.a (.m 10 (.v 1)) (.n 56)))] rfl qz h3 h2,Int.not_le.mp fun qz=>lin [] [_,_] [(1,.il (.n 2800) (.v 0)),(10,.il (.v 1) (.n 258)),(1,.il (.v 0) (.a (.m 10 (.v 1)) (.n 56)))] rfl qz h3 h0⟩⟩
theorem z295 {a b c:Int}(h0:c<=1)(h1:a<=4)(h2:b<=4):a+b+c<=9:=Int.not_lt.mp fun qz=>lin [] [_,_,_] [(1,.it (.n 9) (.a (.a (.v 0) (.v 1)) (.v 2))),(1,.il (.v 1) (.n 4)),(1,.il (.v 0) (.n 4)),(1,.il (.v 2) (.n 1))] rfl qz h2 h1 h0
theorem z296 {a b c:Int}(h0:0<=c)(h1:0<=b)(h2:0<=a):0<=a+b+c:=Int.not_lt.mp fun qz=>lin [] [_,_,_] [(1,.it (.a (.a (.v 0) (.v 1)) (.v 2)) (.n 0)),(1,.il (.n 0) (.v 0)),(1,.il (.n 0) (.v 1)),(1,.il (.n 0) (.v 2))] rfl qz h2 h1 h0
theorem z297 {a b c d e:Int}(h0:c=a)(h1:d=b)(h2:c<=e)(h3:e<=d):a<=b:=Int.le_trans (Int.le_trans (Int.le_trans (Int.le_of_eq h0.symm) h2) h3) (Int.le_of_eq h1)
theorem z298 {a b:Int}(h0:1<=b)(h1:a=4*b):4<=a:=Int.not_lt.mp fun qz=>lin [] [_,_] [(1,.it (.v 0) (.n 4)),(1,.jf (.v 0) (.m 4 (.v 1))),(4,.il (.n 1) (.v 1))] rfl qz h1 h0
theorem z299 {a b c:Int}(h0:c<=4)(h1:b<=4)(h2:a<=4):a+b+c<=12:=Int.not_lt.mp fun qz=>lin [] [_,_,_] [(1,.it (.n 12) (.a (.a (.v 0) (.v 1)) (.v 2))),(1,.il (.v 0) (.n 4)),(1,.il (.v 1) (.n 4)),(1,.il (.v 2) (.n 4))] rfl qz h2 h1 h0
theorem z300 {a b c:Int}(h0:1<=b)(h1:c<=9*9)(h2:a<=c):a<=81*b:=Int.not_lt.mp fun qz=>lin [] [_,_,_] [(1,.it (.m 81 (.v 0)) (.v 1)),(1,.il (.v 1) (.v 2)),(1,.il (.v 2) (.m 9 (.n 9))),(81,.il (.n 1) (.v 0))] rfl qz h2 h1 h0
theorem z301 {a b c:Int}(h0:4<=b)(h1:c<=9*12)(h2:a<=c):a<=81*b:=Int.not_lt.mp fun qz=>lin [] [_,_,_] [(1,.it (.m 81 (.v 0)) (.v 1)),(1,.il (.v 1) (.v 2)),(1,.il (.v 2) (.m 9 (.n 12))),(81,.il (.n 4) (.v 0))] rfl qz h2 h1 h0
theorem z302 {a b c:Int}(h0:a<=9\/a<=12/\b<=c):a<=12:=by lia
theorem z303 {a b c:Int}(h0:4<=b)(h1:c<=12*12)(h2:a<=c):a<=81*b:=Int.not_lt.mp fun qz=>lin [] [_,_,_] [(1,.it (.m 81 (.v 0)) (.v 1)),(1,.il (.v 1) (.v 2)),(1,.il (.v 2) (.m 12 (.n 12))),(81,.il (.n 4) (.v 0))] rfl qz h2 h1 h0
theorem z304 {a b c d e:Int}(h0:0<=c)(h1:0<=d)(h2:0<=e)(h3:b-a=e+d+c):a<=b:=Int.not_lt.mp fun qz=>lin [] [_,_,_,_,_] [(1,.it (.v 0) (.v 1)),(1,.jf (.s (.v 0) (.v 1)) (.a (.a (.v 2) (.v 3)) (.v 4))),(1,.il (.n 0) (.v 2)),(1,.il (.n 0) (.v 3)),(1,.il (.n 0) (.v 4))] rfl qz h3 h2 h1 h0
theorem z305 {a:Int}(h0:¬(a<=7400)):7401<=a:=Int.not_lt.mp fun qz=>lin [] [_] [(1,.it (.v 0) (.n 7401)),(1,.it (.n 7400) (.v 0))] rfl qz (Int.not_le.mp h0)
theorem z306 {a:Int}(h0:¬(a<=7400)):0<=a:=Int.le_of_lt (Int.lt_trans (by decide) (Int.not_le.mp h0))
theorem z307 {a b c d e f:Int}(h0:7401*a<=b)(h1:c<=10*a+690)(h2:b<=3*(d+e+f))(h3:d<=81*c)(h4:e<=81*c)(h5:f<=81*c)(h6:¬(a<=7400)):False:=lin [] [_,_,_,_,_,_] [(111,.it (.n 7400) (.v 0)),(3,.il (.v 1) (.m 81 (.v 2))),(3,.il (.v 3) (.m 81 (.v 2))),(3,.il (.v 4) (.m 81 (.v 2))),(1,.il (.v 5) (.m 3 (.a (.a (.v 4) (.v 3)) (.v 1)))),(729,.il (.v 2) (.a (.m 10 (.v 0)) (.n 690))),(1,.il (.m 7401 (.v 0)) (.v 5))] rfl (Int.not_le.mp h6) h5 h4 h3 h2 h1 h0
theorem z308 {a b c:Int}(h0:b<=10*c+690)(h1:c<=7400)(h2:a<=81*b):a<2800*2800:=Int.not_le.mp fun qz=>lin [] [_,_,_] [(1,.il (.m 2800 (.n 2800)) (.v 0)),(1,.il (.v 0) (.m 81 (.v 1))),(810,.il (.v 2) (.n 7400)),(81,.il (.v 1) (.a (.m 10 (.v 2)) (.n 690)))] rfl qz h2 h1 h0
theorem z309 {b:Nat}{a:Int}(h0:0<=a)(h1:a<(b:Int)):a.toNat<b:=(Int.toNat_lt h0).mpr h1
theorem z310 {a b c d:Int}(h0:a+c=d)(h1:b+c=d):a=b:=Int.le_antisymm (Int.not_lt.mp fun qz=>lin [] [_,_,_,_] [(1,.it (.v 0) (.v 1)),(1,.jf (.a (.v 0) (.v 2)) (.v 3)),(1,.ie (.a (.v 1) (.v 2)) (.v 3))] rfl qz h1 h0) (Int.not_lt.mp fun qz=>lin [] [_,_,_,_] [(1,.it (.v 0) (.v 1)),(1,.ie (.a (.v 1) (.v 2)) (.v 3)),(1,.jf (.a (.v 0) (.v 2)) (.v 3))] rfl qz h1 h0)
theorem z311 {a b:Nat}(h0:0=a)(h1:a=b+1):False:=lin [_,_] [] [(1,.nf (.v 0) (.a (.v 1) (.n 1))),(1,.nf (.n 0) (.v 0))] rfl h1 h0
theorem z312 {a b:Nat}(h0:b<a):a=a-1+1:=((Nat.sub_add_cancel (Nat.not_lt.mp fun qz=>lin [_,_] [] [(1,.nt (.v 0) (.n 1)),(1,.nt (.v 1) (.v 0))] rfl qz h0))).symm
theorem z313 {a b c:Int}(h0:c<=b)(h1:a<=c):a<b+1:=Int.not_le.mp fun qz=>lin [] [_,_,_] [(1,.il (.a (.v 0) (.n 1)) (.v 1)),(1,.il (.v 1) (.v 2)),(1,.il (.v 2) (.v 0))] rfl qz h1 h0
theorem z314 {a:Nat}(h0:a<=24):a-1<=23:=Nat.sub_le_of_le_add h0
theorem z315 {a b c:Int}:a+(b+(c+(0+0)))=a+b+c:=by lia
theorem z316 {a:Nat}(h0:a<3):a<4:=Nat.lt_succ_of_lt h0
theorem z317 {b c:Nat}{a:Int}(h0:a<=(c:Int))(h1:c<=b):a<=(b:Int):=Int.not_lt.mp fun qz=>lin [_,_] [_] [(1,.it (.c (.v 0)) (.v 0)),(1,.nl (.v 1) (.v 0)),(1,.il (.v 0) (.c (.v 1)))] rfl qz h1 h0
theorem z318 {a:Int}(h0:a<=108):a<=118:=Int.le_of_lt (Int.lt_of_le_of_lt h0 (by decide))
theorem z319 {a:Nat}(h0:a<4)(h1:¬(a=3)):a<3:=by lia
theorem z320 {a b:Int}(h0:a<=(3*(2*2):Int)):a<=8*1+4+b*0:=by lia
theorem z321 {a b c d e f:Int}(h0:b<0)(h1:c<=108)(h2:a<=8*d+e+106*f):a+(2*b+c)<=8*(d+1)+e+106*(f+1):=Int.not_lt.mp fun qz=>lin [] [_,_,_,_,_,_] [(1,.it (.a (.a (.m 8 (.a (.v 0) (.n 1))) (.v 1)) (.m 106 (.a (.v 2) (.n 1)))) (.a (.v 3) (.a (.m 2 (.v 4)) (.v 5)))),(1,.il (.v 3) (.a (.a (.m 8 (.v 0)) (.v 1)) (.m 106 (.v 2)))),(1,.il (.v 5) (.n 108)),(2,.it (.v 4) (.n 0))] rfl qz h2 h1 h0
theorem z322 {a b c d e:Int}(h0:b<=8)(h1:a<=8*c+d+106*e):a+b<=8*(c+1)+d+106*(e+0):=Int.not_lt.mp fun qz=>lin [] [_,_,_,_,_] [(1,.it (.a (.a (.m 8 (.a (.v 0) (.n 1))) (.v 1)) (.m 106 (.a (.v 2) (.n 0)))) (.a (.v 3) (.v 4))),(1,.il (.v 3) (.a (.a (.m 8 (.v 0)) (.v 1)) (.m 106 (.v 2)))),(1,.il (.v 4) (.n 8))] rfl qz h1 h0
theorem z323 {a b c d:Int}:a+(b+(c+d))=a+b+c+d:=by lia
theorem z324 {a b c d e:Int}(h0:0<=c)(h1:0<=d)(h2:0<=b)(h3:a<=8*(b+c+d+0)+4+e*0):a<=10*(b+c+d)+690:=by lia
theorem z325 {a b c d:Int}(h0:0<=a+(2*(5*c)+5*(5*d)))(h1:a+(2*c+d)<=8*(b+1)+4+106*1)(h2:d<=108):a<=10*b+690:=Int.not_lt.mp fun qz=>lin [] [_,_,_,_] [(4,.it (.a (.m 10 (.v 0)) (.n 690)) (.v 1)),(20,.il (.v 2) (.n 108)),(5,.il (.a (.v 1) (.a (.m 2 (.v 3)) (.v 2))) (.a (.a (.m 8 (.a (.v 0) (.n 1))) (.n 4)) (.m 106 (.n 1)))),(1,.il (.n 0) (.a (.v 1) (.a (.m 2 (.m 5 (.v 3))) (.m 5 (.m 5 (.v 2))))))] rfl qz h2 h1 h0
theorem z326 {a:Int}(h0: -2<=a)(h1:a<=2)(h2:¬(a=1\/a= -1)):a= -2\/a=0\/a=2:=by lia
theorem z327 {a:Int}(h0:a=2\/a= -2):a/2=1\/a/2= -1:=by rcases h0 with rfl|rfl<;>decide
theorem z337 {a:Int}(h0: -2<=a)(h1:a<=2): -2<=a/2/\a/2<=2:=⟨by lia,by lia⟩
theorem z338 {a:Int}(h0:a=0): -2<=a/\a<=2:=⟨Int.not_lt.mp fun qz=>lin [] [_] [(1,.it (.v 0) (.g (.n 2))),(1,.jf (.v 0) (.n 0))] rfl qz h0,Int.le_of_lt (Int.lt_of_le_of_lt (Int.le_of_eq h0) (by decide))⟩
theorem z339 {a b c d:Int}(h0:a=c\/a=b\/a=d)(h1:¬(a=d\/a=c)):a=b:=by lia
theorem z340 {a:Int}(h0: -6<=a)(h1:a<=6):a.natAbs<=6:=by lia
theorem z341 {e f:Nat}{a b c d:Int}(h0:(e:Int)=a)(h1: -(6*b)<=d)(h2: -(f*6:Int)<=c)(h3:c<=(f*6:Int))(h4:d<=6*b)(h5:f<=e): -(6*(a+b))<=c+d/\c+d<=6*(a+b):=by lia
theorem z342 {a b c:Nat}(h0:a<b)(h1:b=c):a<min b c:=by subst h1;lia
theorem z343 {a b c:Nat}(h0:¬(c<a)):min a b<=c:=by simp at*;lia
theorem z344 {a b:Nat}(h0:a=b):min a b=a:=by lia
theorem z345 {b:Nat}{a:Int}(h0:a<=(b:Int)):(a+(b:Int)).toNat<2*b+1:=by simp;lia
theorem z346 {a b:Int}(h0: -b<=a):((a+b).toNat:Int)-b=a:=by lia
theorem z348 {a:Int}(h0: -2<=a)(h1:a<=2): -8<=a/\a<=8:=⟨Int.not_lt.mp fun qz=>lin [] [_] [(1,.it (.v 0) (.g (.n 8))),(1,.il (.g (.n 2)) (.v 0))] rfl qz h0,Int.le_of_lt (Int.lt_of_le_of_lt h1 (by decide))⟩
theorem z349 {a:Int}(h0:a<0):0<=-a:=Int.not_lt.mp fun qz=>lin [] [_] [(1,.it (.g (.v 0)) (.n 0)),(1,.it (.v 0) (.n 0))] rfl qz h0
theorem z350 {a:Int}(h0:a<a):False:=lin [] [_] [(1,.it (.v 0) (.v 0))] rfl h0
theorem z357 {a b c d:Int}(h0:0<c)(h1:d<0)(h2:(d<0->b<6))(h3:c<=2)(h4:a<=b):a<=b+c/\b+c<=8:=by lia
theorem z358 {a b c:Int}(h0: -2<=b)(h1:0<c)(h2:(0<c->-6<a))(h3:b<0)(h4:a<=8): -8<=a+b/\a+b<=8:=by lia
theorem z359 {a b:Nat}(h0:a<b)(h1:b<=3):a=0\/a=1\/a=2:=by lia
theorem z360 {a b c:Int}(h0:a+b+c=0): -a+-b+-c=0:=by grind
theorem z363 {a:Int}(h0:a=0\/a=1):0<=a:=by lia
theorem z364 {a b c d e f:Int}(h0:f=e)(h1:b=a)(h2:d=c):a=b/\c=d/\e=f:=⟨(h1).symm,⟨(h2).symm,(h0).symm⟩⟩
theorem z365 {a b c:Int}(h0:0<=c):a+b<=a+c+b:=Int.not_lt.mp fun qz=>lin [] [_,_,_] [(1,.it (.a (.a (.v 0) (.v 1)) (.v 2)) (.a (.v 0) (.v 2))),(1,.il (.n 0) (.v 1))] rfl qz h0
theorem z366 {a b c:Int}(h0:0<=c):a+b<=c+a+b:=Int.not_lt.mp fun qz=>lin [] [_,_,_] [(1,.it (.a (.a (.v 0) (.v 1)) (.v 2)) (.a (.v 1) (.v 2))),(1,.il (.n 0) (.v 0))] rfl qz h0
theorem z367 {a b c d:Int}(h0:¬(a≠b\/c≠b\/d≠b)):a=b:=by lia
theorem z368 {a b c d:Int}(h0:¬(c≠b\/a≠b\/d≠b)):a=b:=by lia
theorem z369 {a b c d:Int}(h0:¬(c≠b\/d≠b\/a≠b)):a=b:=by lia
theorem z370 {a b c d e:Int}(h0:b<2)(h1:c<2800)(h2:d<2800)(h3:e<2800)(h4:a=0+c+e+d+b):a<=(8400:Int):=Int.not_lt.mp fun qz=>lin [] [_,_,_,_,_] [(1,.it (.n 8400) (.v 0)),(1,.ie (.v 0) (.a (.a (.a (.a (.n 0) (.v 1)) (.v 2)) (.v 3)) (.v 4))),(1,.it (.v 2) (.n 2800)),(1,.it (.v 3) (.n 2800)),(1,.it (.v 1) (.n 2800)),(1,.it (.v 4) (.n 2))] rfl qz h4 h3 h2 h1 h0
theorem z371 {a b:Nat}(h0:a<b+1):a<=b:=Nat.le_of_lt_succ h0
theorem z372 {a b c d e f:Int}(h0:e+c=a)(h1:f+d=b)(h2:f=e):a-b=c-d:=Int.le_antisymm (Int.not_lt.mp fun qz=>lin [] [_,_,_,_,_,_] [(1,.it (.s (.v 0) (.v 1)) (.s (.v 2) (.v 3))),(1,.jf (.v 4) (.v 5)),(1,.ie (.a (.v 4) (.v 1)) (.v 3)),(1,.jf (.a (.v 5) (.v 0)) (.v 2))] rfl qz h2 h1 h0) (Int.not_lt.mp fun qz=>lin [] [_,_,_,_,_,_] [(1,.it (.s (.v 0) (.v 1)) (.s (.v 2) (.v 3))),(1,.ie (.v 4) (.v 5)),(1,.jf (.a (.v 4) (.v 3)) (.v 1)),(1,.ie (.a (.v 5) (.v 2)) (.v 0))] rfl qz h2 h1 h0)
theorem z373 {a b:Nat}(h0:b<a):(a:Int)≠0:=fun qz=>lin [_,_] [] [(1,.ie (.c (.v 0)) (.n 0)),(1,.nt (.v 1) (.v 0))] rfl qz h0
theorem z374 {a:Int}(h0:0<=a):(a.toNat:Int)=a:=Int.toNat_of_nonneg h0
theorem z375 {a:Nat}(h0:a+1<=a):False:=lin [_] [] [(1,.nl (.a (.v 0) (.n 1)) (.v 0))] rfl h0
theorem z376 {a b e:Nat}{c d:Int}(h0: -(b:Int)<=c)(h1: -(a:Int)<=d)(h2:d<=-(e:Int))(h3:c<=-1): -(a+b:Int)<=c+d/\c+d<=-(e+1:Int):=⟨Int.not_lt.mp fun qz=>lin [_,_] [_,_] [(1,.it (.a (.v 0) (.v 1)) (.g (.a (.c (.v 0)) (.c (.v 1))))),(1,.il (.g (.c (.v 0))) (.v 1)),(1,.il (.g (.c (.v 1))) (.v 0))] rfl qz h1 h0,Int.not_lt.mp fun qz=>lin [_] [_,_] [(1,.it (.g (.a (.c (.v 0)) (.n 1))) (.a (.v 0) (.v 1))),(1,.il (.v 0) (.g (.n 1))),(1,.il (.v 1) (.g (.c (.v 0))))] rfl qz h3 h2⟩
theorem z377 {a b:Int}:a+b=b+(1:Int)*a:=by lia
theorem z378 {a:Int}(h0:0<a):a=(a.toNat:Int):=by cases a<;>simp<;>lia
theorem z379 {a b:Int}(h0:¬(b<=a)):a<=b-1:=Int.not_lt.mp fun qz=>lin [] [_,_] [(1,.it (.s (.v 0) (.n 1)) (.v 1)),(1,.it (.v 1) (.v 0))] rfl qz (Int.not_le.mp h0)
theorem z380 {g:Nat}{a b c d e f:Int}(h0: -a+b<=c)(h1:d+e<=b)(h2:c<f)(h3:f=e)(h4:a<=d-(g:Int)):False:=lin [_] [_,_,_,_,_,_] [(1,.il (.v 0) (.s (.v 1) (.c (.v 0)))),(1,.ie (.v 2) (.v 3)),(1,.it (.v 4) (.v 2)),(1,.il (.a (.v 1) (.v 3)) (.v 5)),(1,.il (.a (.g (.v 0)) (.v 5)) (.v 4))] rfl h4 h3 h2 h1 h0
theorem z381 {a:Nat}{b:Int}(h0:0<b)(h1:b=(a:Int)):0<a:=Nat.not_le.mp fun qz=>lin [_] [_] [(1,.nl (.v 0) (.n 0)),(1,.ie (.v 0) (.c (.v 0))),(1,.it (.n 0) (.v 0))] rfl qz h1 h0
theorem z382 {a b c d:Nat}(h0:b=d)(h1:a<=d):min a b-c=a-c:=by lia
theorem z383 {a b:Int}(h0:b<0)(h1:a<=b):a<=b/\b<=-1:=⟨h1,Int.not_lt.mp fun qz=>lin [] [_] [(1,.it (.g (.n 1)) (.v 0)),(1,.it (.v 0) (.n 0))] rfl qz h0⟩
theorem z384 {a b c d:Int}(h0:c-d=b)(h1:c=d+a):a=b:=Int.le_antisymm (Int.not_lt.mp fun qz=>lin [] [_,_,_,_] [(1,.it (.v 0) (.v 1)),(1,.jf (.v 2) (.a (.v 3) (.v 1))),(1,.ie (.s (.v 2) (.v 3)) (.v 0))] rfl qz h1 h0) (Int.not_lt.mp fun qz=>lin [] [_,_,_,_] [(1,.it (.v 0) (.v 1)),(1,.ie (.v 2) (.a (.v 3) (.v 0))),(1,.jf (.s (.v 2) (.v 3)) (.v 1))] rfl qz h1 h0)
theorem z385 {a b c d:Nat}(h0:a=c-d)(h1:c<=b):a<=b:=Nat.le_trans (Nat.le_trans (Nat.le_of_eq h0) (Nat.sub_le _ _)) h1
theorem z386 {e f g:Nat}{a b c d:Int}(h0:0<=a)(h1:b-c=a)(h2:b=c+d)(h3:d<=-(e:Int))(h4:f<g)(h5:e=g-f):False:=lin [_,_,_,_] [_,_,_,_] [(1,.nf (.v 0) (.v 1)),(1,.nt (.v 2) (.v 3)),(1,.il (.v 0) (.g (.c (.v 0)))),(1,.ie (.v 1) (.a (.v 2) (.v 0))),(1,.jf (.s (.v 1) (.v 2)) (.v 3)),(1,.il (.n 0) (.v 3)),(1,.nl (.v 3) (.a (.v 1) (.v 2)))] rfl h5 h4 h3 h2 h1 h0 (Nat.sub_le_iff_le_add.mp (Nat.le_refl _))
theorem z387 {a c:Nat}{b d e f g:Int}(h0:(a:Int)=b)(h1: -(c:Int)<=d)(h2:0<e)(h3:e=f)(h4:d=g)(h5:g<=-b-f)(h6:c<=a):False:=lin [_,_] [_,_,_,_,_] [(1,.nl (.v 0) (.v 1)),(1,.il (.v 0) (.s (.g (.v 1)) (.v 2))),(1,.ie (.v 3) (.v 0)),(1,.ie (.v 4) (.v 2)),(1,.it (.n 0) (.v 4)),(1,.il (.g (.c (.v 0))) (.v 3)),(1,.ie (.c (.v 1)) (.v 1))] rfl h6 h5 h4 h3 h2 h1 h0
theorem z388 {a:Int}(h0:a<0):a= -((-a).toNat:Int):=by cases a<;>simp<;>lia
theorem z389 {a b:Int}(h0:a<b)(h1:b<a):False:=lin [] [_,_] [(1,.it (.v 0) (.v 1)),(1,.it (.v 1) (.v 0))] rfl h1 h0
theorem z390 {a:Int}: -a+a=0:=Int.add_left_neg a
theorem z391 {a b c d:Int}(h0: -c<=d)(h1:d= -a)(h2:¬(b<=c)):a<=b:=Int.not_lt.mp fun qz=>lin [] [_,_,_,_] [(1,.it (.v 0) (.v 1)),(1,.it (.v 2) (.v 0)),(1,.ie (.v 3) (.g (.v 1))),(1,.il (.g (.v 2)) (.v 3))] rfl qz (Int.not_le.mp h2) h1 h0
theorem z392 {a c:Nat}{b:Int}(h0:(c:Int)<=b)(h1:a<=c):(a:Int)<=b:=Int.not_lt.mp fun qz=>lin [_,_] [_] [(1,.it (.v 0) (.c (.v 0))),(1,.nl (.v 0) (.v 1)),(1,.il (.c (.v 1)) (.v 0))] rfl qz h1 h0
theorem z393 {a b:Nat}(h0:0=a-b)(h1:b<a):False:=lin [_,_,_] [] [(1,.nt (.v 0) (.v 1)),(1,.nf (.n 0) (.v 2)),(1,.nl (.v 1) (.a (.v 2) (.v 0)))] rfl h1 h0 (Nat.sub_le_iff_le_add.mp (Nat.le_refl _))
theorem z394 {a b:Int}:a+-b= -(-a+b):=by lia
theorem z395 {a b c d:Int}(h0: -a<=b)(h1:b= -c)(h2:d=c)(h3:¬(d<=a)):False:=lin [] [_,_,_,_] [(1,.it (.v 0) (.v 1)),(1,.ie (.v 1) (.v 2)),(1,.ie (.v 3) (.g (.v 2))),(1,.il (.g (.v 0)) (.v 3))] rfl (Int.not_le.mp h3) h2 h1 h0
theorem z396 {b:Nat}{a:Int}(h0:¬(0<a)):a<=(b:Int):=Int.not_lt.mp fun qz=>lin [_] [_] [(1,.it (.c (.v 0)) (.v 0)),(1,.il (.v 0) (.n 0))] rfl qz (Int.not_lt.mp h0)
theorem z397 {a:Nat}(h0:a<=3):a<=5:=Nat.le_of_lt (Nat.lt_of_le_of_lt h0 (by decide))
theorem z398 {a b:Nat}(h0:1+a=b)(h1:b<=3):a=0\/a=1\/a=2:=by lia
theorem z399 {a b c:Nat}(h0:b+1+1+a=c)(h1:c<=3):a=0\/a=1:=by subst h0;lia
theorem z400 {a:Nat}(h0:1+a=4):a=3:=Eq.symm (Nat.add_left_cancel (id (Eq.symm h0)))
theorem z401 {b:Nat}{a:Int}(h0:a<=(b:Int)):a.toNat<b+1:=by simp;lia
theorem z402 {a b:Int}(h0:a+b=0):a= -b:=by lia
theorem z408 {a b c:Int}(h0: -12<=b)(h1: -12<=c)(h2:a=b-c\/a= -(b-c))(h3:c<=12)(h4:b<=12): -24<=a/\a<=24:=by rcases h2 with rfl|rfl<;>lia
theorem z409 {a:Nat}(h0:¬(a<3))(h1:¬(a=3)):4<=a:=by lia
theorem z410 {a b:Int}(h0:a-b=0)(h1:b<a):False:=lin [] [_,_] [(1,.it (.v 0) (.v 1)),(1,.ie (.s (.v 1) (.v 0)) (.n 0))] rfl h1 h0
theorem z411 {a b c:Int}(h0:b-c=a)(h1:c<b):0<a:=Int.not_le.mp fun qz=>lin [] [_,_,_] [(1,.il (.v 0) (.n 0)),(1,.it (.v 1) (.v 2)),(1,.ie (.s (.v 2) (.v 1)) (.v 0))] rfl qz h1 h0
theorem z412 {a b c:Int}(h0:b-c=a)(h1:b<c):a<0:=Int.not_le.mp fun qz=>lin [] [_,_,_] [(1,.il (.n 0) (.v 0)),(1,.it (.v 1) (.v 2)),(1,.jf (.s (.v 1) (.v 2)) (.v 0))] rfl qz h1 h0
theorem z413 {a:Int}(h0:a<0):a<=-1:=Int.add_le_zero_iff_le_neg.mp h0
theorem z414 {a b c:Int}(h0:b-c=a)(h1:c<b):0<=a:=Int.not_lt.mp fun qz=>lin [] [_,_,_] [(1,.it (.v 0) (.n 0)),(1,.it (.v 1) (.v 2)),(1,.ie (.s (.v 2) (.v 1)) (.v 0))] rfl qz h1 h0
theorem z415 {a:Int}(h0:¬(1<=a)):0<=-a:=by lia
theorem z416 {a b:Int}(h0:0<a)(h1:0<=-b)(h2:b=a):False:=lin [] [_,_] [(1,.jf (.v 0) (.v 1)),(1,.il (.n 0) (.g (.v 0))),(1,.it (.n 0) (.v 1))] rfl h2 h1 h0
theorem z417 {a:Int}(h0:0< -a):a<0:=Int.neg_pos.mp h0
theorem z418 {a:Int}(h0:¬(a<=-1)):0<=a:=Int.not_lt.mp fun qz=>lin [] [_] [(1,.it (.v 0) (.n 0)),(1,.it (.g (.n 1)) (.v 0))] rfl qz (Int.not_le.mp h0)
theorem z419 {a b c:Int}(h0:a<b)(h1:c=a)(h2:b<=c):False:=lin [] [_,_,_] [(1,.il (.v 0) (.v 1)),(1,.ie (.v 1) (.v 2)),(1,.it (.v 2) (.v 0))] rfl h2 h1 h0
theorem z420 {a b:Int}(h0:0<=b)(h1:a+b<=24):a<=(24:Int):=Int.not_lt.mp fun qz=>lin [] [_,_] [(1,.it (.n 24) (.v 0)),(1,.il (.a (.v 0) (.v 1)) (.n 24)),(1,.il (.n 0) (.v 1))] rfl qz h1 h0
theorem z421 {a b c:Int}(h0: -a<=c-b)(h1:c-b<=a): -a<=b-c/\b-c<=a:=⟨Int.not_lt.mp fun qz=>lin [] [_,_,_] [(1,.it (.s (.v 0) (.v 1)) (.g (.v 2))),(1,.il (.s (.v 1) (.v 0)) (.v 2))] rfl qz h1,Int.not_lt.mp fun qz=>lin [] [_,_,_] [(1,.it (.v 0) (.s (.v 1) (.v 2))),(1,.il (.g (.v 0)) (.s (.v 2) (.v 1)))] rfl qz h0⟩
theorem z422 {a b:Int}(h0:0<=b)(h1:b+a<=24):a<=(24:Int):=Int.not_lt.mp fun qz=>lin [] [_,_] [(1,.it (.n 24) (.v 0)),(1,.il (.a (.v 1) (.v 0)) (.n 24)),(1,.il (.n 0) (.v 1))] rfl qz h1 h0
theorem z423 {a b:Int}(h0:a=b):a-b=0:=Int.sub_eq_zero.mpr h0
theorem z424 {a b:Int}(h0:a-b=0):a=b:=by lia
theorem z425 {a:Nat}(h0:a<4)(h1:¬(a<3)):a=3:=Nat.eq_of_lt_succ_of_not_lt h0 h1
theorem z426 {a b c d e f:Int}(h0:a-b=0)(h1:e-f=0)(h2:c-d=0):a=b/\c=d/\e=f:=by lia
theorem z427 {a:Int}(h0: -2<=a)(h1:a<=2): -6<=a/\a<=6:=⟨Int.not_lt.mp fun qz=>lin [] [_] [(1,.it (.v 0) (.g (.n 6))),(1,.il (.g (.n 2)) (.v 0))] rfl qz h0,Int.le_of_lt (Int.lt_of_le_of_lt h1 (by decide))⟩
theorem z428 {a:Int}(h0:a<=(3:Int)):a<=4:=Int.le_of_lt (Int.lt_of_le_of_lt h0 (by decide))
theorem z429 {a:Nat}:a<a+1:=Nat.lt_add_one a
theorem z430 {a b c d e f:Int}(h0:1=0*b+(0*c+(0*d+(0*e+(0*f+(1*a+0)))))):a=1:=Int.le_antisymm (Int.not_lt.mp fun qz=>lin [] [_,_,_,_,_,_] [(1,.it (.n 1) (.v 0)),(1,.jf (.n 1) (.a (.m 0 (.v 1)) (.a (.m 0 (.v 2)) (.a (.m 0 (.v 3)) (.a (.m 0 (.v 4)) (.a (.m 0 (.v 5)) (.a (.m 1 (.v 0)) (.n 0))))))))] rfl qz h0) (Int.not_lt.mp fun qz=>lin [] [_,_,_,_,_,_] [(1,.it (.v 0) (.n 1)),(1,.ie (.n 1) (.a (.m 0 (.v 1)) (.a (.m 0 (.v 2)) (.a (.m 0 (.v 3)) (.a (.m 0 (.v 4)) (.a (.m 0 (.v 5)) (.a (.m 1 (.v 0)) (.n 0))))))))] rfl qz h0)
theorem z431 {a b c d e f g:Int}(h0: -3<=b)(h1:0=0*c+(1*d+(-1*e+(2*f+(-2*g+(b+0))))))(h2:0<=f)(h3:0<=g)(h4:a=1*c+(1*d+(1*e+(1*f+(1*g+(1+0))))))(h5:b<=3)(h6:¬(1<=c))(h7:¬(1<=d/\1<=e))(h8:¬(1<=f/\1<=g))(h9:¬(1<=f/\2<=e))(h10:¬(2<=d/\1<=g)):a<=4:=by subst h4;lia
theorem z432 {a b:Nat}:min a (a+b)=a:=Nat.min_add_right_self
theorem z433 {a b:Nat}:a+b-a=b:=Nat.add_sub_self_left a b
theorem z434 {a b:Int}(h0:b=a+1)(h1:b<=4):a<=(3:Int):=Int.not_lt.mp fun qz=>lin [] [_,_] [(1,.it (.n 3) (.v 0)),(1,.il (.v 1) (.n 4)),(1,.jf (.v 1) (.a (.v 0) (.n 1)))] rfl qz h1 h0
theorem z435 {a:Nat}:8*(a:Int)+8=8*(a+1:Int):=Eq.symm ((fun {a b}=>Int.neg_inj.mp) rfl)
theorem z436 {b:Nat}{a:Int}(h0:a<=8*(b+1:Int))(h1:b<=5):a<=(48:Int):=Int.not_lt.mp fun qz=>lin [_] [_] [(1,.it (.n 48) (.v 0)),(8,.nl (.v 0) (.n 5)),(1,.il (.v 0) (.m 8 (.a (.c (.v 0)) (.n 1))))] rfl qz h1 h0
theorem z437 {a:Int}(h0:a<=8):a<(9:Int):=Int.lt_of_le_sub_one h0
theorem z438 {a:Int}(h0:a<2):a<=8:=Int.le_of_lt (Int.lt_trans h0 (by decide))
theorem z439 {a b:Nat}(h0:¬(b<a))(h1:¬(b=a)):a+1<=b:=by lia
theorem z440 {a:Nat}(h0:a=3\/a=4\/a=5):a<=5:=by rcases h0 with rfl|rfl|rfl<;>simp
theorem z441 {a b:Nat}(h0:¬(a<b))(h1:¬(a=b)):1<=a-b:=by simp at*;lia
theorem z442 {a b c:Nat}(h0:a=c)(h1:¬(b<c)):a<=b:=Nat.le_trans (Nat.le_of_eq h0) (Nat.not_lt.mp h1)
theorem z443 {a:Int}(h0:0<=a): -a<=0/\0<=a:=⟨Int.not_lt.mp fun qz=>lin [] [_] [(1,.it (.n 0) (.g (.v 0))),(1,.il (.n 0) (.v 0))] rfl qz h0,h0⟩
theorem z444 {a b c:Nat}(h0:a<=c):min a b<=c:=by lia
theorem z445 {a b:Nat}(h0:a<b):a≠b:=Nat.ne_of_lt h0
theorem z446 {a:Nat}:0<a+1:=Nat.zero_lt_succ a
theorem z447 {a:Nat}(h0:a<=5):a+1<=24:=Nat.lt_of_le_of_lt h0 (by decide)
theorem z448 {a:Int}(h0:a<=3):a<=4:=Int.le_of_lt (Int.lt_of_le_of_lt h0 (by decide))
theorem z449 {a:Int}(h0: -6<=a)(h1:a<=6): -(6:Int)<=-a/\-a<=(6:Int):=⟨Int.not_lt.mp fun qz=>lin [] [_] [(1,.it (.g (.v 0)) (.g (.n 6))),(1,.il (.v 0) (.n 6))] rfl qz h1,Int.not_lt.mp fun qz=>lin [] [_] [(1,.it (.n 6) (.g (.v 0))),(1,.il (.g (.n 6)) (.v 0))] rfl qz h0⟩
theorem z450 {a:Int}(h0: -2<=a)(h1:a<=2): -(3:Int)<=a/\a<=(3:Int):=⟨Int.not_lt.mp fun qz=>lin [] [_] [(1,.it (.v 0) (.g (.n 3))),(1,.il (.g (.n 2)) (.v 0))] rfl qz h0,Int.le_of_lt (Int.lt_of_le_of_lt h1 (by decide))⟩
theorem z451 {a:Int}(h0: -3<=a)(h1:a<=3): -(3:Int)<=-a/\-a<=(3:Int):=⟨Int.not_lt.mp fun qz=>lin [] [_] [(1,.it (.g (.v 0)) (.g (.n 3))),(1,.il (.v 0) (.n 3))] rfl qz h1,Int.not_lt.mp fun qz=>lin [] [_] [(1,.it (.n 3) (.g (.v 0))),(1,.il (.g (.n 3)) (.v 0))] rfl qz h0⟩
theorem z452 {a b c:Nat}(h0:a<=c):a+b-b<=c:=Nat.not_lt.mp fun qz=>lin [_,_,_,_] [] [(1,.nt (.v 0) (.v 1)),(1,.nl (.v 2) (.v 0)),(1,.ne (.a (.v 1) (.v 3)) (.a (.v 2) (.v 3)))] rfl qz h0 (Nat.sub_add_cancel (Nat.not_lt.mp fun qz=>lin [_,_] [] [(1,.nt (.a (.v 0) (.v 1)) (.v 1))] rfl qz))
theorem z453 {a:Int}:a-a=0:=Int.sub_self a
theorem z454 {a b:Int}(h0:a<=b):a<b+1:=Int.le_iff_lt_add_one.mp h0
theorem z455 {a:Int}(h0:0<=a)(h1:a<=1):a=0\/a=1:=by lia
theorem z456 {a:Int}:a-a*0=a:=by simp
theorem z457 {a b:Int}(h0:0<=b)(h1:a.toNat<=b.toNat):a<=b:=by simp at*;lia
theorem z460 {a:Int}(h0:a=1\/a= -1):a≠0:=by lia
theorem z461 {a b:Int}(h0:b+a<0)(h1:¬(b<0)):a<0:=Int.not_le.mp fun qz=>lin [] [_,_] [(1,.il (.n 0) (.v 0)),(1,.il (.n 0) (.v 1)),(1,.it (.a (.v 1) (.v 0)) (.n 0))] rfl qz (Int.not_lt.mp h1) h0
theorem z466 {a b:Nat}(h0:b<a):¬((a:Int)=(b:Int)):=fun qz=>lin [_,_] [] [(1,.ie (.c (.v 0)) (.c (.v 1))),(1,.nt (.v 1) (.v 0))] rfl qz h0
theorem z467 {a b:Int}(h0:a<=b)(h1:b<=a):a=b:=Int.le_antisymm h0 h1
theorem z468 {a:Int}(h0:0<a+0):0<a:=Int.lt_of_sub_pos h0
theorem z469 {a b c d:Int}(h0:b<2800)(h1:c<2800)(h2:d<2800)(h3:a=0+b+d+c):a<=(8400:Int):=Int.not_lt.mp fun qz=>lin [] [_,_,_,_] [(1,.it (.n 8400) (.v 0)),(1,.ie (.v 0) (.a (.a (.a (.n 0) (.v 1)) (.v 2)) (.v 3))),(1,.it (.v 2) (.n 2800)),(1,.it (.v 3) (.n 2800)),(1,.it (.v 1) (.n 2800))] rfl qz h3 h2 h1 h0
theorem z470 {a:Int}(h0: -2<=a)(h1:a<=2): -20<=a/\a<=20:=⟨Int.not_lt.mp fun qz=>lin [] [_] [(1,.it (.v 0) (.g (.n 20))),(1,.il (.g (.n 2)) (.v 0))] rfl qz h0,Int.le_of_lt (Int.lt_of_le_of_lt h1 (by decide))⟩
theorem z471 {a:Nat}(h0:a<=1):a<=3:=Nat.le_of_lt (Nat.lt_of_le_of_lt h0 (by decide))
theorem z472 {a:Int}(h0: -5<=a)(h1:a<=5): -20<=a/\a<=20:=⟨Int.not_lt.mp fun qz=>lin [] [_] [(1,.it (.v 0) (.g (.n 20))),(1,.il (.g (.n 5)) (.v 0))] rfl qz h0,Int.le_of_lt (Int.lt_of_le_of_lt h1 (by decide))⟩
theorem z473 {a:Nat}(h0:a<=5):a<=24:=Nat.le_of_lt (Nat.lt_of_le_of_lt h0 (by decide))
theorem z474 {a:Nat}(h0:a<=5):a-1<=4:=Nat.sub_le_of_le_add h0
theorem z475 {a b c d:Int}(h0:0<c)(h1:b<0)(h2:a<=b)(h3:c<=d):a<=b+c/\b+c<=d:=⟨Int.not_lt.mp fun qz=>lin [] [_,_,_] [(1,.it (.a (.v 0) (.v 1)) (.v 2)),(1,.il (.v 2) (.v 0)),(1,.it (.n 0) (.v 1))] rfl qz h2 h0,Int.not_lt.mp fun qz=>lin [] [_,_,_] [(1,.it (.v 0) (.a (.v 1) (.v 2))),(1,.il (.v 2) (.v 0)),(1,.it (.v 1) (.n 0))] rfl qz h3 h1⟩
theorem z476 {a b c d:Int}(h0:0<b)(h1:c<0)(h2:b<=d)(h3:a<=c):a<=b+c/\b+c<=d:=⟨Int.not_lt.mp fun qz=>lin [] [_,_,_] [(1,.it (.a (.v 0) (.v 1)) (.v 2)),(1,.il (.v 2) (.v 1)),(1,.it (.n 0) (.v 0))] rfl qz h3 h0,Int.not_lt.mp fun qz=>lin [] [_,_,_] [(1,.it (.v 0) (.a (.v 1) (.v 2))),(1,.il (.v 1) (.v 0)),(1,.it (.v 2) (.n 0))] rfl qz h2 h1⟩
theorem z477 {a:Nat}(h0:a<=20):2*a+2<=100000000:=Nat.not_lt.mp fun qz=>lin [_] [] [(1,.nt (.n 100000000) (.a (.m 2 (.v 0)) (.n 2))),(2,.nl (.v 0) (.n 20))] rfl qz h0
theorem z478 {c:Nat}{a b:Int}(h0:a<b+(c:Int))(h1:b<=a):(a-b).toNat<c:=by lia
theorem z479 {a b:Int}:a+(b-a)=b:=by lia
theorem z493 {a:Nat}(h0:a<1):a=0:=Nat.lt_one_iff.mp h0
theorem z494 {a b:Int}(h0:1*a<=b):a<=b:=Int.not_lt.mp fun qz=>lin [] [_,_] [(1,.it (.v 0) (.v 1)),(1,.il (.m 1 (.v 1)) (.v 0))] rfl qz h0
theorem z495 {a b:Int}:0+a+-b=a-b:=by lia
theorem z496 {a b:Int}:0+-a+b=b-a:=by lia
theorem z497 {a b:Int}(h0:0<a)(h1:0<=b): -a<=b:=Int.not_lt.mp fun qz=>lin [] [_,_] [(1,.it (.v 0) (.g (.v 1))),(1,.il (.n 0) (.v 0)),(1,.it (.n 0) (.v 1))] rfl qz h1 h0
theorem z498 {b:Nat}{a:Int}(h0: -(b*(20*20):Int)<=a)(h1:a<=(b*(20*20):Int))(h2:b<=3): -1200<=a/\a<=1200:=⟨by lia,by lia⟩
theorem z499 {a b:Int}(h0: -b<=-a):a<=b:=Int.le_of_neg_le_neg h0
theorem z500 {a b c d e f g k m n p q:Int}(h0:c=d+e)(h1:f=g+k)(h2:m<=1200*1200)(h3:n<=1200*1200)(h4:p<=1200*1200)(h5:q<=1200*1200)(h6:b<=c)(h7:e<=m)(h8:d<=p)(h9:k<=n)(h10:g<=q)(h11:a<=f):a<=2880000/\b<=2880000:=⟨Int.not_lt.mp fun qz=>lin [] [_,_,_,_,_,_] [(1,.it (.n 2880000) (.v 0)),(1,.il (.v 0) (.v 1)),(1,.il (.v 2) (.v 3)),(1,.il (.v 4) (.v 5)),(1,.il (.v 3) (.m 1200 (.n 1200))),(1,.il (.v 5) (.m 1200 (.n 1200))),(1,.ie (.v 1) (.a (.v 2) (.v 4)))] rfl qz h11 h10 h9 h5 h3 h1,Int.not_lt.mp fun qz=>lin [] [_,_,_,_,_,_] [(1,.it (.n 2880000) (.v 0)),(1,.il (.v 1) (.v 2)),(1,.il (.v 3) (.v 4)),(1,.il (.v 0) (.v 5)),(1,.il (.v 2) (.m 1200 (.n 1200))),(1,.il (.v 4) (.m 1200 (.n 1200))),(1,.ie (.v 5) (.a (.v 1) (.v 3)))] rfl qz h8 h7 h6 h4 h2 h0⟩
theorem z501 {a b c:Int}(h0:1<=c)(h1:a<b):a<b+c:=Int.not_le.mp fun qz=>lin [] [_,_,_] [(1,.il (.a (.v 0) (.v 1)) (.v 2)),(1,.it (.v 2) (.v 0)),(1,.il (.n 1) (.v 1))] rfl qz h1 h0
theorem z502 {a b c:Int}(h0: -b<=-c)(h1:a<c):a<=b:=Int.not_lt.mp fun qz=>lin [] [_,_,_] [(1,.it (.v 0) (.v 1)),(1,.it (.v 1) (.v 2)),(1,.il (.g (.v 0)) (.g (.v 2)))] rfl qz h1 h0
theorem z503 {a b c d e f:Int}(h0: -1200<=-c)(h1:d-e<=f)(h2:a<c)(h3:f<=1200)(h4:e<=1200*1200)(h5:b<=d):a<=2880000/\b<=2880000:=⟨Int.not_lt.mp fun qz=>lin [] [_,_] [(1,.it (.n 2880000) (.v 0)),(1,.it (.v 0) (.v 1)),(1,.il (.g (.n 1200)) (.g (.v 1)))] rfl qz h2 h0,Int.not_lt.mp fun qz=>lin [] [_,_,_,_] [(1,.it (.n 2880000) (.v 0)),(1,.il (.v 0) (.v 1)),(1,.il (.v 2) (.m 1200 (.n 1200))),(1,.il (.v 3) (.n 1200)),(1,.il (.s (.v 1) (.v 2)) (.v 3))] rfl qz h5 h4 h3 h1⟩
theorem z504 {a b c d:Int}(h0:a-d<=b)(h1:d<=c):a<=b+c:=Int.not_lt.mp fun qz=>lin [] [_,_,_,_] [(1,.it (.a (.v 0) (.v 1)) (.v 2)),(1,.il (.v 3) (.v 1)),(1,.il (.s (.v 2) (.v 3)) (.v 0))] rfl qz h1 h0
theorem z505 {a b c d:Int}(h0: -1200<=-c)(h1:b<d)(h2:a<=1+c)(h3:d<=1200):a<=2880000/\b<=2880000:=⟨Int.not_lt.mp fun qz=>lin [] [_,_] [(1,.it (.n 2880000) (.v 0)),(1,.il (.v 0) (.a (.n 1) (.v 1))),(1,.il (.g (.n 1200)) (.g (.v 1)))] rfl qz h2 h0,Int.le_of_lt (Int.lt_trans (Int.lt_of_lt_of_le h1 h3) (by decide))⟩
theorem z506 {a b c d:Int}(h0: -1200<=-c)(h1:c=a)(h2:d=b)(h3:d<=1200):a<=2880000/\b<=2880000:=⟨Int.not_lt.mp fun qz=>lin [] [_,_] [(1,.it (.n 2880000) (.v 0)),(1,.jf (.v 1) (.v 0)),(1,.il (.g (.n 1200)) (.g (.v 1)))] rfl qz h1 h0,Int.le_of_lt (Int.lt_of_le_of_lt (Int.le_trans (Int.le_of_eq h2.symm) h3) (by decide))⟩
theorem z507 {a b c:Int}(h0:c=1)(h1:b<=c)(h2:a<=c):a<=2880000/\b<=2880000:=⟨Int.le_of_lt (Int.lt_of_le_of_lt (Int.le_trans h2 (Int.le_of_eq h0)) (by decide)),Int.le_of_lt (Int.lt_of_le_of_lt (Int.le_trans h1 (Int.le_of_eq h0)) (by decide))⟩
theorem z508 {a b c:Int}(h0:a=0+b+c)(h1:c<=2880000)(h2:b<=2880000):a<=(5760000:Int):=Int.not_lt.mp fun qz=>lin [] [_,_,_] [(1,.it (.n 5760000) (.v 0)),(1,.il (.v 1) (.n 2880000)),(1,.il (.v 2) (.n 2880000)),(1,.ie (.v 0) (.a (.a (.n 0) (.v 1)) (.v 2)))] rfl qz h2 h1 h0
theorem z509 {a:Int}(h0:a<=2880000):a<2880001:=Int.lt_of_le_sub_one h0
theorem z510 {a:Int}(h0: -2<=a)(h1:a<=2):a= -2\/a= -1\/a=0\/a=1\/a=2:=by lia
theorem z511 {a b:Int}(h0: -a<=b):0<=a+b:=Int.add_nonneg_iff_neg_le'.mpr h0
theorem z512 {a b c d:Int}(h0:a<0)(h1:b<=1)(h2:d<=2*2)(h3:c<=2*2):2*a+(b+(c+(d+0)))<=8:=Int.not_lt.mp fun qz=>lin [] [_,_,_,_] [(1,.it (.n 8) (.a (.m 2 (.v 0)) (.a (.v 1) (.a (.v 2) (.a (.v 3) (.n 0)))))),(1,.il (.v 2) (.m 2 (.n 2))),(1,.il (.v 3) (.m 2 (.n 2))),(1,.il (.v 1) (.n 1)),(2,.it (.v 0) (.n 0))] rfl qz h3 h2 h1 h0
theorem z513 {a b c d:Int}(h0:a<0)(h1:c<=1)(h2:d<=2*2)(h3:b<=2*2):2*a+(b+(c+(d+0)))<=8:=Int.not_lt.mp fun qz=>lin [] [_,_,_,_] [(1,.it (.n 8) (.a (.m 2 (.v 0)) (.a (.v 1) (.a (.v 2) (.a (.v 3) (.n 0)))))),(1,.il (.v 1) (.m 2 (.n 2))),(1,.il (.v 3) (.m 2 (.n 2))),(1,.il (.v 2) (.n 1)),(2,.it (.v 0) (.n 0))] rfl qz h3 h2 h1 h0
theorem z514 {a b c d:Int}(h0:a<0)(h1:d<=1)(h2:c<=2*2)(h3:b<=2*2):2*a+(b+(c+(d+0)))<=8:=Int.not_lt.mp fun qz=>lin [] [_,_,_,_] [(1,.it (.n 8) (.a (.m 2 (.v 0)) (.a (.v 1) (.a (.v 2) (.a (.v 3) (.n 0)))))),(1,.il (.v 1) (.m 2 (.n 2))),(1,.il (.v 2) (.m 2 (.n 2))),(1,.il (.v 3) (.n 1)),(2,.it (.v 0) (.n 0))] rfl qz h3 h2 h1 h0
theorem z523 {a b c:Int}:a+b+(b+c)=a+(2*b+c):=by lia
theorem z525 {a b c:Int}:a+(b+(c+0))=a+b+c:=by lia
theorem z527 {a:Int}(h0:0<=a)(h1:a≠0):1<=a:=by lia
theorem z528 {a b c:Int}(h0:a<=c)(h1:¬(b<c)):a<=b:=Int.le_trans h0 (Int.not_lt.mp h1)
theorem z534 {a b:Int}(h0:a*1<=b):a<=b:=by lia
theorem z535 {a b:Int}(h0:b<=-a):a<=-b:=Int.not_lt.mp fun qz=>lin [] [_,_] [(1,.it (.g (.v 0)) (.v 1)),(1,.il (.v 0) (.g (.v 1)))] rfl qz h0
theorem z536 {a b c d e:Int}(h0: -c<=d-e)(h1:a<=-d)(h2:b<=e):a+b<=c:=Int.not_lt.mp fun qz=>lin [] [_,_,_,_,_] [(1,.it (.v 0) (.a (.v 1) (.v 2))),(1,.il (.v 2) (.v 3)),(1,.il (.v 1) (.g (.v 4))),(1,.il (.g (.v 0)) (.s (.v 4) (.v 3)))] rfl qz h2 h1 h0
theorem z537 {a b:Int}(h0:a<=b*8):a<=8*b:=by lia
theorem z538 {a b:Int}(h0: -b<=a): -a<=b:=Int.not_lt.mp fun qz=>lin [] [_,_] [(1,.it (.v 0) (.g (.v 1))),(1,.il (.g (.v 0)) (.v 1))] rfl qz h0
theorem z539 {a b:Int}(h0: -b<=a*8): -(8*a)<=b:=by lia
theorem z540 {a b c d e:Int}(h0: -b<=d-e)(h1:a<=e)(h2:d<=c):a<=b+c:=Int.not_lt.mp fun qz=>lin [] [_,_,_,_,_] [(1,.it (.a (.v 0) (.v 1)) (.v 2)),(1,.il (.v 3) (.v 1)),(1,.il (.v 2) (.v 4)),(1,.il (.g (.v 0)) (.s (.v 3) (.v 4)))] rfl qz h2 h1 h0
theorem z541 {a b c d e:Int}(h0: -c<=d)(h1:d-e<=b)(h2:a<=-e):a<=b+c:=Int.not_lt.mp fun qz=>lin [] [_,_,_,_,_] [(1,.it (.a (.v 0) (.v 1)) (.v 2)),(1,.il (.v 2) (.g (.v 3))),(1,.il (.s (.v 4) (.v 3)) (.v 0)),(1,.il (.g (.v 1)) (.v 4))] rfl qz h2 h1 h0
theorem z542 {a b c d e f g:Int}(h0:0<=b)(h1:a=e)(h2:c=f)(h3:d=g)(h4:g<=8)(h5:f<=8)(h6:e<=8):a<=b+56/\c<=b+56/\d<=b+56:=⟨Int.not_lt.mp fun qz=>lin [] [_,_,_] [(1,.it (.a (.v 0) (.n 56)) (.v 1)),(1,.il (.v 2) (.n 8)),(1,.ie (.v 1) (.v 2)),(1,.il (.n 0) (.v 0))] rfl qz h6 h1 h0,⟨Int.not_lt.mp fun qz=>lin [] [_,_,_] [(1,.it (.a (.v 0) (.n 56)) (.v 1)),(1,.il (.v 2) (.n 8)),(1,.ie (.v 1) (.v 2)),(1,.il (.n 0) (.v 0))] rfl qz h5 h2 h0,Int.not_lt.mp fun qz=>lin [] [_,_,_] [(1,.it (.a (.v 0) (.n 56)) (.v 1)),(1,.il (.v 2) (.n 8)),(1,.ie (.v 1) (.v 2)),(1,.il (.n 0) (.v 0))] rfl qz h4 h3 h0⟩⟩
theorem z543 {a b:Int}(h0:b<=8)(h1:¬(b<=a)):a<=7:=Int.not_lt.mp fun qz=>lin [] [_,_] [(1,.it (.n 7) (.v 0)),(1,.it (.v 0) (.v 1)),(1,.il (.v 1) (.n 8))] rfl qz (Int.not_le.mp h1) h0
theorem z544 {a b:Int}(h0:0<=b)(h1:¬(a<=b)):1<=a:=Int.not_lt.mp fun qz=>lin [] [_,_] [(1,.it (.v 0) (.n 1)),(1,.it (.v 1) (.v 0)),(1,.il (.n 0) (.v 1))] rfl qz (Int.not_le.mp h1) h0
theorem z545 {a b:Int}(h0:0<=b)(h1:b<=a): -a<=b/\b<=a:=⟨Int.not_lt.mp fun qz=>lin [] [_,_] [(1,.it (.v 0) (.g (.v 1))),(1,.il (.v 0) (.v 1)),(2,.il (.n 0) (.v 0))] rfl qz h1 h0,h1⟩
theorem z546 {a b c d e f:Int}(h0: -b<=e)(h1:f<=8)(h2:e<=b)(h3:c<=b+8*7)(h4:a<=b+8*7)(h5:¬(f<=d)):a<=b+56/\c<=b+56/\d<=b+56:=⟨Int.not_lt.mp fun qz=>lin [] [_,_] [(1,.it (.a (.v 0) (.n 56)) (.v 1)),(1,.il (.v 1) (.a (.v 0) (.m 8 (.n 7))))] rfl qz h4,⟨Int.not_lt.mp fun qz=>lin [] [_,_] [(1,.it (.a (.v 0) (.n 56)) (.v 1)),(1,.il (.v 1) (.a (.v 0) (.m 8 (.n 7))))] rfl qz h3,Int.not_lt.mp fun qz=>lin [] [_,_,_,_] [(2,.it (.a (.v 0) (.n 56)) (.v 1)),(2,.it (.v 1) (.v 2)),(1,.il (.v 3) (.v 0)),(2,.il (.v 2) (.n 8)),(1,.il (.g (.v 0)) (.v 3))] rfl qz (Int.not_le.mp h5) h2 h1 h0⟩⟩
theorem z547 {a b c d e:Int}(h0:0<=b)(h1:e<=8)(h2:d<=b+8*7)(h3:a<=b+8*7)(h4:¬(e<=c)):a<=b+56/\c<=b+56/\d<=b+56:=⟨Int.not_lt.mp fun qz=>lin [] [_,_] [(1,.it (.a (.v 0) (.n 56)) (.v 1)),(1,.il (.v 1) (.a (.v 0) (.m 8 (.n 7))))] rfl qz h3,⟨Int.not_lt.mp fun qz=>lin [] [_,_,_] [(1,.it (.a (.v 0) (.n 56)) (.v 1)),(1,.it (.v 1) (.v 2)),(1,.il (.v 2) (.n 8)),(1,.il (.n 0) (.v 0))] rfl qz (Int.not_le.mp h4) h1 h0,Int.not_lt.mp fun qz=>lin [] [_,_] [(1,.it (.a (.v 0) (.n 56)) (.v 1)),(1,.il (.v 1) (.a (.v 0) (.m 8 (.n 7))))] rfl qz h2⟩⟩
theorem z548 {a b c d e:Int}(h0:0<=b)(h1:e<=8)(h2:d<=b+8*7)(h3:c<=b+8*7)(h4:¬(e<=a)):a<=b+56/\c<=b+56/\d<=b+56:=⟨Int.not_lt.mp fun qz=>lin [] [_,_,_] [(1,.it (.a (.v 0) (.n 56)) (.v 1)),(1,.it (.v 1) (.v 2)),(1,.il (.v 2) (.n 8)),(1,.il (.n 0) (.v 0))] rfl qz (Int.not_le.mp h4) h1 h0,⟨Int.not_lt.mp fun qz=>lin [] [_,_] [(1,.it (.a (.v 0) (.n 56)) (.v 1)),(1,.il (.v 1) (.a (.v 0) (.m 8 (.n 7))))] rfl qz h3,Int.not_lt.mp fun qz=>lin [] [_,_] [(1,.it (.a (.v 0) (.n 56)) (.v 1)),(1,.il (.v 1) (.a (.v 0) (.m 8 (.n 7))))] rfl qz h2⟩⟩
theorem z549 {a b c:Int}(h0:c=b)(h1:a<=c):a<=b:=Int.le_trans h1 (Int.le_of_eq h0)
theorem z550 {a b c:Int}(h0:c=2*b)(h1:a<=c+8*b):a<=10*b:=Int.not_lt.mp fun qz=>lin [] [_,_,_] [(1,.it (.m 10 (.v 0)) (.v 1)),(1,.il (.v 1) (.a (.v 2) (.m 8 (.v 0)))),(1,.ie (.v 2) (.m 2 (.v 0)))] rfl qz h1 h0
theorem z551 {a b c d:Int}(h0:c+a<=d)(h1:d=2*b)(h2:¬(c<=b)):a<=b:=Int.not_lt.mp fun qz=>lin [] [_,_,_,_] [(1,.it (.v 0) (.v 1)),(1,.it (.v 0) (.v 2)),(1,.ie (.v 3) (.m 2 (.v 0))),(1,.il (.a (.v 2) (.v 1)) (.v 3))] rfl qz (Int.not_le.mp h2) h1 h0
theorem z552 {a b c d:Int}(h0:0<=c)(h1:0<=a)(h2:a+c<=2*b)(h3:d<=10*b):a<=10*b+56/\c<=10*b+56/\d<=10*b+56/\a+c+d<=12*b+168:=⟨Int.not_lt.mp fun qz=>lin [] [_,_,_] [(1,.it (.a (.m 10 (.v 0)) (.n 56)) (.v 1)),(5,.il (.a (.v 1) (.v 2)) (.m 2 (.v 0))),(4,.il (.n 0) (.v 1)),(5,.il (.n 0) (.v 2))] rfl qz h2 h1 h0,⟨Int.not_lt.mp fun qz=>lin [] [_,_,_] [(1,.it (.a (.m 10 (.v 0)) (.n 56)) (.v 1)),(5,.il (.a (.v 2) (.v 1)) (.m 2 (.v 0))),(5,.il (.n 0) (.v 2)),(4,.il (.n 0) (.v 1))] rfl qz h2 h1 h0,⟨Int.not_lt.mp fun qz=>lin [] [_,_] [(1,.it (.a (.m 10 (.v 0)) (.n 56)) (.v 1)),(1,.il (.v 1) (.m 10 (.v 0)))] rfl qz h3,Int.not_lt.mp fun qz=>lin [] [_,_,_,_] [(1,.it (.a (.m 12 (.v 0)) (.n 168)) (.a (.a (.v 1) (.v 2)) (.v 3))),(1,.il (.v 3) (.m 10 (.v 0))),(1,.il (.a (.v 1) (.v 2)) (.m 2 (.v 0)))] rfl qz h3 h2⟩⟩⟩
theorem z553 {a b c d:Int}(h0:0<=c)(h1:0<=a)(h2:c+a<=2*b)(h3:d<=10*b):a<=10*b+56/\c<=10*b+56/\d<=10*b+56/\a+c+d<=12*b+168:=⟨Int.not_lt.mp fun qz=>lin [] [_,_,_] [(1,.it (.a (.m 10 (.v 0)) (.n 56)) (.v 1)),(5,.il (.a (.v 2) (.v 1)) (.m 2 (.v 0))),(4,.il (.n 0) (.v 1)),(5,.il (.n 0) (.v 2))] rfl qz h2 h1 h0,⟨Int.not_lt.mp fun qz=>lin [] [_,_,_] [(1,.it (.a (.m 10 (.v 0)) (.n 56)) (.v 1)),(5,.il (.a (.v 1) (.v 2)) (.m 2 (.v 0))),(5,.il (.n 0) (.v 2)),(4,.il (.n 0) (.v 1))] rfl qz h2 h1 h0,⟨Int.not_lt.mp fun qz=>lin [] [_,_] [(1,.it (.a (.m 10 (.v 0)) (.n 56)) (.v 1)),(1,.il (.v 1) (.m 10 (.v 0)))] rfl qz h3,Int.not_lt.mp fun qz=>lin [] [_,_,_,_] [(1,.it (.a (.m 12 (.v 0)) (.n 168)) (.a (.a (.v 1) (.v 2)) (.v 3))),(1,.il (.v 3) (.m 10 (.v 0))),(1,.il (.a (.v 2) (.v 1)) (.m 2 (.v 0)))] rfl qz h3 h2⟩⟩⟩
theorem z554 {a b c d:Int}(h0:0<=d)(h1:0<=a)(h2:a+d<=2*b)(h3:c<=10*b):a<=10*b+56/\c<=10*b+56/\d<=10*b+56/\a+c+d<=12*b+168:=⟨Int.not_lt.mp fun qz=>lin [] [_,_,_] [(1,.it (.a (.m 10 (.v 0)) (.n 56)) (.v 1)),(5,.il (.a (.v 1) (.v 2)) (.m 2 (.v 0))),(4,.il (.n 0) (.v 1)),(5,.il (.n 0) (.v 2))] rfl qz h2 h1 h0,⟨Int.not_lt.mp fun qz=>lin [] [_,_] [(1,.it (.a (.m 10 (.v 0)) (.n 56)) (.v 1)),(1,.il (.v 1) (.m 10 (.v 0)))] rfl qz h3,⟨Int.not_lt.mp fun qz=>lin [] [_,_,_] [(1,.it (.a (.m 10 (.v 0)) (.n 56)) (.v 1)),(5,.il (.a (.v 2) (.v 1)) (.m 2 (.v 0))),(5,.il (.n 0) (.v 2)),(4,.il (.n 0) (.v 1))] rfl qz h2 h1 h0,Int.not_lt.mp fun qz=>lin [] [_,_,_,_] [(1,.it (.a (.m 12 (.v 0)) (.n 168)) (.a (.a (.v 1) (.v 2)) (.v 3))),(1,.il (.v 2) (.m 10 (.v 0))),(1,.il (.a (.v 1) (.v 3)) (.m 2 (.v 0)))] rfl qz h3 h2⟩⟩⟩
theorem z555 {a b c d:Int}(h0:0<=d)(h1:0<=a)(h2:d+a<=2*b)(h3:c<=10*b):a<=10*b+56/\c<=10*b+56/\d<=10*b+56/\a+c+d<=12*b+168:=⟨Int.not_lt.mp fun qz=>lin [] [_,_,_] [(1,.it (.a (.m 10 (.v 0)) (.n 56)) (.v 1)),(5,.il (.a (.v 2) (.v 1)) (.m 2 (.v 0))),(4,.il (.n 0) (.v 1)),(5,.il (.n 0) (.v 2))] rfl qz h2 h1 h0,⟨Int.not_lt.mp fun qz=>lin [] [_,_] [(1,.it (.a (.m 10 (.v 0)) (.n 56)) (.v 1)),(1,.il (.v 1) (.m 10 (.v 0)))] rfl qz h3,⟨Int.not_lt.mp fun qz=>lin [] [_,_,_] [(1,.it (.a (.m 10 (.v 0)) (.n 56)) (.v 1)),(5,.il (.a (.v 1) (.v 2)) (.m 2 (.v 0))),(5,.il (.n 0) (.v 2)),(4,.il (.n 0) (.v 1))] rfl qz h2 h1 h0,Int.not_lt.mp fun qz=>lin [] [_,_,_,_] [(1,.it (.a (.m 12 (.v 0)) (.n 168)) (.a (.a (.v 1) (.v 2)) (.v 3))),(1,.il (.v 2) (.m 10 (.v 0))),(1,.il (.a (.v 3) (.v 1)) (.m 2 (.v 0)))] rfl qz h3 h2⟩⟩⟩
theorem z556 {a b c d:Int}(h0:0<=d)(h1:0<=c)(h2:c+d<=2*b)(h3:a<=10*b):a<=10*b+56/\c<=10*b+56/\d<=10*b+56/\a+c+d<=12*b+168:=⟨Int.not_lt.mp fun qz=>lin [] [_,_] [(1,.it (.a (.m 10 (.v 0)) (.n 56)) (.v 1)),(1,.il (.v 1) (.m 10 (.v 0)))] rfl qz h3,⟨Int.not_lt.mp fun qz=>lin [] [_,_,_] [(1,.it (.a (.m 10 (.v 0)) (.n 56)) (.v 1)),(5,.il (.a (.v 1) (.v 2)) (.m 2 (.v 0))),(4,.il (.n 0) (.v 1)),(5,.il (.n 0) (.v 2))] rfl qz h2 h1 h0,⟨Int.not_lt.mp fun qz=>lin [] [_,_,_] [(1,.it (.a (.m 10 (.v 0)) (.n 56)) (.v 1)),(5,.il (.a (.v 2) (.v 1)) (.m 2 (.v 0))),(5,.il (.n 0) (.v 2)),(4,.il (.n 0) (.v 1))] rfl qz h2 h1 h0,Int.not_lt.mp fun qz=>lin [] [_,_,_,_] [(1,.it (.a (.m 12 (.v 0)) (.n 168)) (.a (.a (.v 1) (.v 2)) (.v 3))),(1,.il (.v 1) (.m 10 (.v 0))),(1,.il (.a (.v 2) (.v 3)) (.m 2 (.v 0)))] rfl qz h3 h2⟩⟩⟩
theorem z557 {a b c d:Int}(h0:0<=d)(h1:0<=c)(h2:d+c<=2*b)(h3:a<=10*b):a<=10*b+56/\c<=10*b+56/\d<=10*b+56/\a+c+d<=12*b+168:=⟨Int.not_lt.mp fun qz=>lin [] [_,_] [(1,.it (.a (.m 10 (.v 0)) (.n 56)) (.v 1)),(1,.il (.v 1) (.m 10 (.v 0)))] rfl qz h3,⟨Int.not_lt.mp fun qz=>lin [] [_,_,_] [(1,.it (.a (.m 10 (.v 0)) (.n 56)) (.v 1)),(5,.il (.a (.v 2) (.v 1)) (.m 2 (.v 0))),(4,.il (.n 0) (.v 1)),(5,.il (.n 0) (.v 2))] rfl qz h2 h1 h0,⟨Int.not_lt.mp fun qz=>lin [] [_,_,_] [(1,.it (.a (.m 10 (.v 0)) (.n 56)) (.v 1)),(5,.il (.a (.v 1) (.v 2)) (.m 2 (.v 0))),(5,.il (.n 0) (.v 2)),(4,.il (.n 0) (.v 1))] rfl qz h2 h1 h0,Int.not_lt.mp fun qz=>lin [] [_,_,_,_] [(1,.it (.a (.m 12 (.v 0)) (.n 168)) (.a (.a (.v 1) (.v 2)) (.v 3))),(1,.il (.v 1) (.m 10 (.v 0))),(1,.il (.a (.v 3) (.v 2)) (.m 2 (.v 0)))] rfl qz h3 h2⟩⟩⟩
theorem z558 {a:Int}(h0:0<=a):0<=2*a:=Int.not_lt.mp fun qz=>lin [] [_] [(1,.it (.m 2 (.v 0)) (.n 0)),(2,.il (.n 0) (.v 0))] rfl qz h0
theorem z559 {a b c d:Int}(h0:0<=b)(h1:a<=2*b+56)(h2:c<=2*b+56)(h3:d<=2*b+56):a<=10*b+56/\c<=10*b+56/\d<=10*b+56/\a+c+d<=12*b+168:=⟨Int.not_lt.mp fun qz=>lin [] [_,_] [(1,.it (.a (.m 10 (.v 0)) (.n 56)) (.v 1)),(1,.il (.v 1) (.a (.m 2 (.v 0)) (.n 56))),(8,.il (.n 0) (.v 0))] rfl qz h1 h0,⟨Int.not_lt.mp fun qz=>lin [] [_,_] [(1,.it (.a (.m 10 (.v 0)) (.n 56)) (.v 1)),(1,.il (.v 1) (.a (.m 2 (.v 0)) (.n 56))),(8,.il (.n 0) (.v 0))] rfl qz h2 h0,⟨Int.not_lt.mp fun qz=>lin [] [_,_] [(1,.it (.a (.m 10 (.v 0)) (.n 56)) (.v 1)),(1,.il (.v 1) (.a (.m 2 (.v 0)) (.n 56))),(8,.il (.n 0) (.v 0))] rfl qz h3 h0,Int.not_lt.mp fun qz=>lin [] [_,_,_,_] [(1,.it (.a (.m 12 (.v 0)) (.n 168)) (.a (.a (.v 1) (.v 2)) (.v 3))),(1,.il (.v 3) (.a (.m 2 (.v 0)) (.n 56))),(1,.il (.v 2) (.a (.m 2 (.v 0)) (.n 56))),(1,.il (.v 1) (.a (.m 2 (.v 0)) (.n 56))),(6,.il (.n 0) (.v 0))] rfl qz h3 h2 h1 h0⟩⟩⟩
theorem z560 {a b c d:Int}(h0: -b<=a)(h1:¬(0<=a/\0<=c/\0<=d))(h2:¬(1<=a/\d<=-1))(h3:¬(1<=a/\c<=-1)):0<=-a/\-a<=b:=by lia
theorem z561 {a b c d:Int}(h0: -b<=a)(h1:¬(0<=c/\0<=a/\0<=d))(h2:¬(1<=a/\d<=-1))(h3:¬(1<=a/\c<=-1)):0<=-a/\-a<=b:=by lia
theorem z575 {a b:Int}(h0:1*b=a):a=b:=by lia
theorem z576 {a b:Int}(h0: -1*b=a): -a=b:=by lia
theorem z586 {a:Nat}(h0:1<=a)(h1:a<=5):a=1\/a=2\/a=3\/a=4\/a=5:=by lia
theorem z594 {a b c:Int}(h0: -c<=b)(h1:c<=a)(h2:b<=c): -a<=b/\b<=a:=⟨Int.not_lt.mp fun qz=>lin [] [_,_,_] [(1,.it (.v 0) (.g (.v 1))),(1,.il (.v 2) (.v 1)),(1,.il (.g (.v 2)) (.v 0))] rfl qz h1 h0,Int.le_trans h2 h1⟩
theorem z597 {a:Nat}:0<=a:=by simp
theorem z598 {a b:Nat}(h0:b<=a):a+1-(b+1)<a+1-b:=Nat.not_le.mp fun qz=>lin [_,_,_,_] [] [(1,.nl (.v 0) (.v 1)),(1,.nl (.a (.v 2) (.n 1)) (.a (.v 0) (.v 3))),(1,.ne (.a (.v 1) (.a (.v 3) (.n 1))) (.a (.v 2) (.n 1)))] rfl qz (Nat.sub_le_iff_le_add.mp (Nat.le_refl _)) (Nat.sub_add_cancel (Nat.not_lt.mp fun qz=>lin [_,_] [] [(1,.nt (.a (.v 0) (.n 1)) (.a (.v 1) (.n 1))),(1,.nl (.v 1) (.v 0))] rfl qz h0))
theorem z599 {a b:Nat}(h0:a<=b)(h1:¬(a<b)):a=b:=Nat.le_antisymm (Nat.not_lt.mp fun qz=>lin [_,_] [] [(1,.nt (.v 0) (.v 1)),(1,.nl (.v 1) (.v 0))] rfl qz h0) (Nat.not_lt.mp fun qz=>lin [_,_] [] [(1,.nt (.v 0) (.v 1)),(1,.nl (.v 1) (.v 0))] rfl qz (Nat.not_lt.mp h1))
theorem z603 {a b:Nat}:a<=min a b\/b<=min a b:=by lia
theorem z604 {a:Nat}(h0:a<64):a<9000:=Nat.lt_trans h0 (by decide)
theorem z605 {a:Int}(h0:a≠0):a.natAbs≠0:=by simp<;>omega
theorem z606 {a b c:Nat}(h0:a+c<b):a<b:=Nat.not_le.mp fun qz=>lin [_,_,_] [] [(1,.nl (.v 0) (.v 1)),(1,.nt (.a (.v 1) (.v 2)) (.v 0))] rfl qz h0
theorem z607 {a b:Int}(h0:a<b):a=min b a:=by grind
theorem z608 {a b:Int}(h0:¬(b<a)):a=min a b:=by lia
theorem z611 {a:Nat}(h0:a<2^62):(a:Int)<2^63:=by lia
theorem z612 {b:Nat}{a:Int}(h0:a.toNat<b):a<(b:Int):=by lia
theorem z616 {a b c d e:Nat}(h0:a+(b+1)<c)(h1:d+10*(b+1)<e):a+1+b<c/\d+3+10*b<e:=⟨Nat.not_le.mp fun qz=>lin [_,_,_] [] [(1,.nl (.v 0) (.a (.a (.v 1) (.n 1)) (.v 2))),(1,.nt (.a (.v 1) (.a (.v 2) (.n 1))) (.v 0))] rfl qz h0,Nat.not_le.mp fun qz=>lin [_,_,_] [] [(1,.nl (.v 0) (.a (.a (.v 1) (.n 3)) (.m 10 (.v 2)))),(1,.nt (.a (.v 1) (.m 10 (.a (.v 2) (.n 1)))) (.v 0))] rfl qz h1⟩
theorem z617 {a b c d e f:Nat}(h0:a+(b+f)<c)(h1:d+10*(b+f)<e):a+b<c/\d+10*b<e:=⟨Nat.not_le.mp fun qz=>lin [_,_,_,_] [] [(1,.nl (.v 0) (.a (.v 1) (.v 2))),(1,.nt (.a (.v 1) (.a (.v 2) (.v 3))) (.v 0))] rfl qz h0,Nat.not_le.mp fun qz=>lin [_,_,_,_] [] [(1,.nl (.v 0) (.a (.v 1) (.m 10 (.v 2)))),(1,.nt (.a (.v 1) (.m 10 (.a (.v 2) (.v 3)))) (.v 0))] rfl qz h1⟩
theorem z619 {a:Nat}:¬((a:Int)<0):=by simp
theorem z624 {a:Nat}:(0+(a:Int)*1).toNat=0+a:=by simp
theorem z625 {a b c:Nat}(h0:b<=c):min a b<=c:=by lia
theorem z626 {a b:Nat}(h0:b<100)(h1:a=b):a<2^62:=by lia
theorem z628 {a b c:Int}(h0:b<=c)(h1:a<=b):a<=b/\b<=c:=⟨h1,h0⟩
theorem z629 {a:Nat}(h0:1<=a)(h1:a<=5):1<=(a:Int)/\(a:Int)<=5:=⟨Int.not_lt.mp fun qz=>lin [_] [] [(1,.it (.c (.v 0)) (.n 1)),(1,.nl (.n 1) (.v 0))] rfl qz h0,Int.not_lt.mp fun qz=>lin [_] [] [(1,.it (.n 5) (.c (.v 0))),(1,.nl (.v 0) (.n 5))] rfl qz h1⟩
theorem z630 {a b:Nat}(h0:a=b)(h1:b<=3):a<2^62:=by lia
theorem z631 {a:Nat}(h0:a<=3):¬(3<(a:Int)):=fun qz=>lin [_] [] [(1,.it (.n 3) (.c (.v 0))),(1,.nl (.v 0) (.n 3))] rfl qz h0
theorem z632 {a:Nat}(h0:a<=3):a<=2^24:=by lia
theorem z633 {a:Nat}(h0:a<=5):a<100:=Nat.lt_of_le_of_lt h0 (by decide)
theorem z637 {a b:Nat}(h0:1<=a)(h1:a<=b):a=1\/a=2\/a=3\/4<=a/\a<=b:=by lia
theorem z638 {a:Nat}(h0:a<2):a<=1:=Nat.le_of_lt_succ h0
theorem z639 {a:Nat}(h0:4<=a):3<a:=Nat.lt_of_succ_le h0
theorem z640 {a:Nat}(h0:a<=1):a<2:=Nat.lt_succ_of_le h0
theorem z641 {a:Int}(h0: -5<=a)(h1:a<=5): -6<=a/\a<=6:=⟨Int.not_lt.mp fun qz=>lin [] [_] [(1,.it (.v 0) (.g (.n 6))),(1,.il (.g (.n 5)) (.v 0))] rfl qz h0,Int.le_of_lt (Int.lt_of_le_of_lt h1 (by decide))⟩
theorem z642 {a:Nat}(h0:4<=a):1<=a:=Nat.one_le_of_lt h0
theorem z643 {a b:Nat}(h0:1<=b)(h1:a=b):0<a:=Nat.lt_of_lt_of_eq h0 (id (Eq.symm h1))
theorem z644 {a:Int}(h0: -2<=a)(h1:a<=2): -3<=a/\a<=3:=⟨Int.not_lt.mp fun qz=>lin [] [_] [(1,.it (.v 0) (.g (.n 3))),(1,.il (.g (.n 2)) (.v 0))] rfl qz h0,Int.le_of_lt (Int.lt_of_le_of_lt h1 (by decide))⟩
theorem z645 {a b c:Nat}(h0:a=c)(h1:c<=b):a<=b:=Nat.le_trans (Nat.le_of_eq h0) h1
theorem z646 {a:Nat}(h0:3<a):3<(a:Int):=Int.lt_of_toNat_lt h0
theorem z647 {a b:Nat}(h0:a=b)(h1:b<=3):a<=2^24:=by lia
theorem z648 {a b:Nat}:min a b<=a:=Nat.min_le_left a b
theorem z649 {a b:Nat}:min a b<=b:=Nat.min_le_right a b
theorem z650 {a:Nat}(h0:¬(3<a)):¬(3<(a:Int)):=fun qz=>lin [_] [] [(1,.it (.n 3) (.c (.v 0))),(1,.nl (.v 0) (.n 3))] rfl qz (Nat.not_lt.mp h0)
theorem z652 {a:Nat}(h0:a<64):a<=2^24:=by lia
theorem z653 {a:Nat}: -2^62<=(a:Int):=Int.neg_ofNat_le_natCast (2^62) a
theorem z654 {a b:Nat}(h0:a=b)(h1:b<=3):(a:Int)<2^62:=by subst h0;lia
theorem z655 {a b c:Nat}(h0:b<c)(h1:b=a):a=b/\b<c:=⟨(h1).symm,h0⟩
theorem z656 {a b:Nat}(h0:b<a):0<a-b:=Nat.zero_lt_sub_of_lt h0
theorem z657 {a b c:Nat}(h0:b=c)(h1:c<=3)(h2:a<=b):(a:Int)<2^63:=by subst h0;lia
theorem z658 {a:Nat}(h0:a<=5):a<1000:=Nat.lt_of_le_of_lt h0 (by decide)
theorem z659 {a:Nat}(h0:a<=5):a<=2^24:=by lia
theorem z661 {a:Nat}(h0:a<=3):a<2^62:=by lia
theorem z662 {a b:Nat}(h0:a=b)(h1:b<=3):a<1000:=Nat.lt_of_le_of_lt (Nat.le_trans (Nat.le_of_eq h0) h1) (by decide)
theorem z663 {a:Nat}(h0:a<3):(a:Int)<3:=Int.lt_toNat.mp h0
theorem z664 {a:Nat}(h0:a<3):a<=2:=Nat.le_of_lt_succ h0
theorem z665 {a b:Nat}(h0:a<b):a+1<=b:=h0
theorem z666 {a b:Nat}(h0:a=b)(h1:b<=3):a+(0+1)<=2^24:=by lia
theorem z667 {a:Nat}(h0:¬(a<3)):¬((a:Int)<3):=fun qz=>lin [_] [] [(1,.it (.c (.v 0)) (.n 3)),(1,.nl (.n 3) (.v 0))] rfl qz (Nat.not_lt.mp h0)
theorem z668 {a:Nat}(h0:1<=a):0<a:=Nat.zero_lt_of_lt h0
theorem z670 {a b:Nat}(h0:a<=5):a-b<1000:=Nat.lt_of_le_of_lt (Nat.le_trans (Nat.sub_le _ _) h0) (by decide)
theorem z671 {a:Nat}(h0:a<=5):0+1+(a-1)<=2^24:=by lia
theorem z672 {a:Nat}(h0:a<=3):a<100:=Nat.lt_of_le_of_lt h0 (by decide)
theorem z673 {a:Nat}(h0:a<=20):a+1<=21:=Nat.succ_le_succ h0
theorem z674 {a:Nat}(h0:a<=5):(a:Int)<2^62:=by lia
theorem z675 {a b c:Nat}(h0:a<c)(h1:c<=b):a+1<=b:=Nat.lt_of_lt_of_le h0 h1
theorem z676 {a:Nat}: -2^62<=(a:Int)+1:=Int.neg_ofNat_le_ofNat (2^62) (a+1)
theorem z677 {a:Nat}(h0:a<=20):(a:Int)+1<2^62:=by lia
theorem z678 {a:Nat}:((a:Int)+1).toNat=a+1:=Int.toNat_natCast_add_one
theorem z679 {a b c:Nat}(h0:a=b)(h1:c<=5)(h2:b<=c):a+(0+1)<=2^24:=by lia
theorem z680 {a b c d e:Nat}(h0:b+c<=d)(h1:a=b+e)(h2:d<=4084101)(h3:e<=c):a<=2^24:=by subst h1;lia
theorem z681 {a:Nat}(h0:a<=40):(a:Int)+1<2^62:=by lia
theorem z682 {a b c:Nat}(h0:a<c+1)(h1:c<=b):a<=b:=Nat.not_lt.mp fun qz=>lin [_,_,_] [] [(1,.nt (.v 0) (.v 1)),(1,.nl (.v 2) (.v 0)),(1,.nt (.v 1) (.a (.v 2) (.n 1)))] rfl qz h1 h0
theorem z683 {a:Nat}(h0:a<=40):a+1<=41:=Nat.succ_le_succ h0
theorem z684 {a:Nat}(h0:a<100):a<2^64:=by lia
theorem z686 {a b c:Nat}(h0:b<=40)(h1:c<=40*41)(h2:a<=c):a+(b+1)<=2^24:=by lia
theorem z687 {a b c:Nat}(h0:a<=c):a+b<=c+b:=Nat.add_le_add_right h0 b
theorem z688 {a b c:Int}(h0:c-a=b):a+b=c:=Int.le_antisymm (Int.not_lt.mp fun qz=>lin [] [_,_,_] [(1,.it (.v 0) (.a (.v 1) (.v 2))),(1,.jf (.s (.v 0) (.v 1)) (.v 2))] rfl qz h0) (Int.not_lt.mp fun qz=>lin [] [_,_,_] [(1,.it (.a (.v 0) (.v 1)) (.v 2)),(1,.ie (.s (.v 2) (.v 0)) (.v 1))] rfl qz h0)
theorem z689 {a b c:Nat}(h0:a<=b):a<=b+c:=Nat.le_add_right_of_le h0
theorem z690 {a b:Nat}(h0:b<=40*41)(h1:a<=b):a<=2^24:=by lia
theorem z691 {a b c d:Nat}(h0:a<=c):a+b<=c+(d+b):=Nat.not_lt.mp fun qz=>lin [_,_,_,_] [] [(1,.nt (.a (.v 0) (.a (.v 1) (.v 2))) (.a (.v 3) (.v 2))),(1,.nl (.v 3) (.v 0))] rfl qz h0
theorem z692 {a b c:Int}(h0:b=c-a):a+b=c:=Int.le_antisymm (Int.not_lt.mp fun qz=>lin [] [_,_,_] [(1,.it (.v 0) (.a (.v 1) (.v 2))),(1,.ie (.v 2) (.s (.v 0) (.v 1)))] rfl qz h0) (Int.not_lt.mp fun qz=>lin [] [_,_,_] [(1,.it (.a (.v 0) (.v 1)) (.v 2)),(1,.jf (.v 1) (.s (.v 2) (.v 0)))] rfl qz h0)
theorem z693 {a b:Nat}(h0:b<=41*41)(h1:a<=b):a<=2000:=Nat.not_lt.mp fun qz=>lin [_,_] [] [(1,.nt (.n 2000) (.v 0)),(1,.nl (.v 0) (.v 1)),(1,.nl (.v 1) (.m 41 (.n 41)))] rfl qz h1 h0
theorem z694 {a b c:Int}(h0:a<=b)(h1:a<=c):a<=min b c:=by lia
theorem z696 {a:Nat}(h0:a<=5):a<2^60:=by lia
theorem z697 {a:Nat}(h0:a<=3):(a:Int)<2^62:=by lia
theorem z698 {a:Nat}:0<=20+(a:Int):=Int.zero_le_ofNat (20+a)
theorem z699 {a b:Nat}(h0:a<b)(h1:b<=3):20+(a:Int)<1099511627776:=by lia
theorem z700 {a:Int}(h0:0<=a):0<2*a+1:=Int.not_le.mp fun qz=>lin [] [_] [(1,.il (.a (.m 2 (.v 0)) (.n 1)) (.n 0)),(2,.il (.n 0) (.v 0))] rfl qz h0
theorem z701 {a:Int}(h0:0<=a)(h1:a<=20):(2*a+1).natAbs<2^64:=by lia
theorem z702 {a:Int}:2*a+1≠0:=by lia
theorem z703 {a b:Int}(h0:0<=b)(h1:b<2*a+1): -a<=b-a/\b-a<=a:=⟨Int.not_lt.mp fun qz=>lin [] [_,_] [(1,.it (.s (.v 0) (.v 1)) (.g (.v 1))),(1,.il (.n 0) (.v 0))] rfl qz h0,Int.not_lt.mp fun qz=>lin [] [_,_] [(1,.it (.v 0) (.s (.v 1) (.v 0))),(1,.it (.v 1) (.a (.m 2 (.v 0)) (.n 1)))] rfl qz h1⟩
theorem z704 {a b:Nat}(h0:a<b)(h1:b=1\/b=2\/b=3\/b=4\/b=5):a=0\/a=1\/a=2\/a=3\/a=4:=by rcases h1 with rfl|rfl|rfl|rfl|rfl<;>lia
theorem z705 {a:Nat}(h0:a=0\/a=1\/a=2\/a=3\/a=4):a<2^60:=by rcases h0 with rfl|rfl|rfl|rfl|rfl<;>simp
theorem z706 {a:Int}(h0:0<a)(h1:a<100):a.natAbs<2^64:=by lia
theorem z711 {a b:Int}(h0:0<=a): -a<=max (-a) (min a b)/\max (-a) (min a b)<=a:=⟨Int.le_max_left _ _,Int.max_le.mpr ⟨by lia,Int.min_le_left _ _⟩⟩
theorem z714 {a:Int}(h0: -20<=a)(h1:a<=20):a.natAbs<100:=by lia
theorem z715 {a:Nat}(h0:a<=2000):a<=2^24:=by lia
theorem z716 {a:Nat}(h0:a<=2000):a<=4084101:=Nat.le_of_lt (Nat.lt_of_le_of_lt h0 (by decide))
theorem z717 {a:Nat}(h0:¬(a=2)):¬((a:Int)=2):=Nat.ToInt.of_diseq rfl rfl h0
theorem z718 {a:Int}(h0: -20<=a)(h1:a<=20):a.natAbs<2^64:=by lia
theorem z719 {a:Nat}(h0:a=2):0+1+a<=2^24:=by lia
theorem z720 {a b c d e:Nat}(h0:b<10)(h1:c<d)(h2:a=e+c)(h3:d<=2000)(h4:e<=b*2000):a<=2^24:=by subst h2;lia
theorem z721 {a b c d:Int}(h0:b+c=d-a):a+(b+(c+0))=d:=by lia
theorem z722 {a b c:Nat}(h0:b<=2000)(h1:a<=c*2000):a+b<=(c+1)*2000:=by lia
theorem z723 {a:Nat}(h0:a<=20000):a<=4084101:=Nat.le_of_lt (Nat.lt_of_le_of_lt h0 (by decide))
theorem z724 {a:Nat}(h0:¬(a=1)):¬((a:Int)=1):=Nat.ToInt.of_diseq rfl rfl h0
theorem z725 {a:Nat}(h0:¬(a=3)):¬((a:Int)=3):=Nat.ToInt.of_diseq rfl rfl h0
theorem z726 {a:Nat}(h0:a<=4084101):a<=2^24:=by lia
theorem z727 {a b:Nat}(h0:0+b=a):a=b:=by lia
theorem z728 {a:Nat}(h0:0=a)(h1:1<=a):False:=lin [_] [] [(1,.nl (.n 1) (.v 0)),(1,.nf (.n 0) (.v 0))] rfl h1 h0
theorem z729 {a b:Int}(h0:b<=a):¬(a<b):=Int.not_lt_of_ge h0
theorem z730 {a b c:Nat}(h0:a<c):a-b<c:=Nat.sub_lt_of_lt h0
theorem z732 {a b c:Nat}(h0:c<64)(h1:a<c):a-b<2^60:=by lia
theorem z733 {a:Nat}(h0:0<(a:Int)):a-1<a:=Nat.not_le.mp fun qz=>lin [_,_] [] [(1,.nl (.v 0) (.v 1)),(1,.ne (.a (.v 1) (.n 1)) (.v 0))] rfl qz (Nat.sub_add_cancel (Nat.not_lt.mp fun qz=>lin [_] [] [(1,.nt (.v 0) (.n 1)),(1,.it (.n 0) (.c (.v 0)))] rfl qz h0))
theorem z734 {a:Nat}(h0:a<64):a<2^62:=by lia
theorem z735 {a b c:Nat}(h0:a=c)(h1:c<=5):min a b<=2^24:=by subst h0;lia
theorem z736 {a b:Nat}(h0:¬(a<b)):a>=b:=Nat.le_of_not_lt h0
theorem z737 {a b c:Nat}(h0:a<c)(h1:b<c):a+b-c<c:=by lia
theorem z738 {a b c:Nat}(h0:a<c)(h1:c<b):a<b:=Nat.lt_trans h0 h1
theorem z743 {a b:Nat}(h0:b<a):0<a:=Nat.zero_lt_of_lt h0
theorem z744 {a b:Nat}(h0:a<b):a<min b b:=by lia
theorem z745 {a:Nat}(h0:a=3\/a=4\/a=5):0<a:=by lia
theorem z746 {a b:Int}:min a b<=a/\min a b<=b:=by lia
theorem z747 {a b c:Int}(h0:c<=b)(h1:¬(c<a)):a<=b:=Int.le_trans (Int.not_lt.mp h1) h0
theorem z748 {a:Int}:(3+a%3).toNat=3\/(3+a%3).toNat=4\/(3+a%3).toNat=5:=by lia
theorem z749 {a:Int}:3+a%3=((3+a%3).toNat:Int):=by grind
theorem z750 {a:Nat}(h0:a=3\/a=4\/a=5):3<=a/\a<=5:=by rcases h0 with rfl|rfl|rfl<;>decide
theorem z751 {a:Nat}(h0:a=3\/a=4\/a=5):0<(a:Int):=by rcases h0 with rfl|rfl|rfl<;>simp
theorem z752 {a:Nat}(h0:a=3\/a=4\/a=5):(a:Int).natAbs<2^64:=by rcases h0 with rfl|rfl|rfl<;>simp
theorem z753 {a:Nat}(h0:a=3\/a=4\/a=5):(a:Int)≠0:=by lia
theorem z754 {b:Nat}{a:Int}(h0:3<=b)(h1:a<(b:Int)):a.toNat<b:=by lia
theorem z755 {a:Int}(h0:0<=a):a=(a.toNat:Int):=Int.eq_natCast_toNat.mpr h0
theorem z756 {a:Int}:(2+a%2).toNat=2\/(2+a%2).toNat=3:=by lia
theorem z757 {a:Int}:2+a%2=((2+a%2).toNat:Int):=by grind
theorem z758 {a:Nat}(h0:a=3\/a=4\/a=5):a<1000:=by rcases h0 with rfl|rfl|rfl<;>simp
theorem z759 {a:Nat}(h0:a=2\/a=3):(a:Int)<2^62:=by lia
theorem z760 {a b c:Nat}(h0:a<c)(h1:c=2\/c=3)(h2:b=3\/b=4\/b=5):a<b:=by rcases h1 with rfl|rfl<;>lia
theorem z761 {a:Nat}:0<=3+(a:Int):=Int.zero_le_ofNat (3+a)
theorem z762 {a c:Nat}{b:Int}(h0:2+b%2=(c:Int))(h1:a<=c):3+(a:Int)<2^60:=by lia
theorem z763 {a:Int}:a%2=0\/a%2=1:=Int.emod_two_eq a
theorem z764 {a:Int}:a%2=((a%2).toNat:Int):=by simp;lia
theorem z765 {a:Int}(h0:a=1\/a= -1):a.natAbs<100:=by rcases h0 with h|h<;>(simp [h])
theorem z766 {a:Int}:(a%2).toNat<2^60:=by simp;lia
theorem z767 {a b:Nat}(h0:a<b)(h1:b=3\/b=4\/b=5):(a:Int)<2^63:=by lia
theorem z768 {a b c:Nat}(h0:b=2\/b=3)(h1:a=c)(h2:c<=b):a<=2^24:=by subst h1;lia
theorem z769 {a:Int}:a%4=0\/a%4=1\/a%4=2\/a%4=3:=by lia
theorem z770 {a:Int}:a%4=((a%4).toNat:Int):=by simp;lia
theorem z771 {a:Nat}(h0:a=2\/a=3):a<2^60:=by lia
theorem z772 {a:Int}(h0:0<a)(h1:a<=9):a.natAbs<2^64:=by lia
theorem z773 {a:Int}(h0:a=1\/a= -1):a.natAbs<2^64:=by lia
theorem z774 {a:Int}:(a%4).toNat<2^60:=by simp;lia
theorem z775 {a b:Int}(h0:b<a):a≠b:=Ne.symm (Int.ne_of_lt h0)
theorem z780 {a b c:Nat}(h0:b<c)(h1:c=3\/c=4\/c=5)(h2:a=b):a<=2^24:=by subst h2;lia
theorem z781: -2^63<=-1:=by simp
theorem z782: -1<2^63:=by simp
theorem z783 {a b:Nat}: -(a+(b+1):Int)<=-1:=Rat.intCast_le_intCast.mp rfl
theorem z784: -1<0:=by simp
theorem z785 {a:Nat}:(-1+(a+(0+1):Int)).toNat=a:=by lia
theorem z786 {a:Nat}(h0:a=2\/a=3):a<=3:=by lia
theorem z789 {a:Int}(h0: -8<=a)(h1:a<=8): -20<=a/\a<=20:=⟨Int.not_lt.mp fun qz=>lin [] [_] [(1,.it (.v 0) (.g (.n 20))),(1,.il (.g (.n 8)) (.v 0))] rfl qz h0,Int.le_of_lt (Int.lt_of_le_of_lt h1 (by decide))⟩
theorem z790 {a:Nat}(h0:0=a)(h1:a=3\/a=4\/a=5):False:=by lia
theorem z791 {a b:Nat}(h0:b=3\/b=4\/b=5)(h1:a=b):a<=2^24:=by lia
theorem z792 {a:Nat}(h0:a=3\/a=4\/a=5):1<=a:=by lia
theorem z793 {a b:Nat}(h0:b=a)(h1:b<=3):a<=2^24:=by lia
theorem z794 {a:Nat}(h0:a=3\/a=4\/a=5):a<100:=by lia
theorem z795 {a:Int}(h0:0<=a): -2^62<=a:=by lia
theorem z796 {a:Int}(h0:a<100):a<2^62:=by lia
theorem z800 {a:Nat}(h0:a<100):(a:Int)<100:=Int.lt_toNat.mp h0
theorem z801 {a:Nat}(h0:a<100):(a:Int)<2^62:=by lia
theorem z803 {a:Nat}:0+a=a:=by simp
theorem z805 {a b c d:Nat}(h0:a+d<=c)(h1:b<=d):a+b<=c:=Nat.not_lt.mp fun qz=>lin [_,_,_,_] [] [(1,.nt (.v 0) (.a (.v 1) (.v 2))),(1,.nl (.v 2) (.v 3)),(1,.nl (.a (.v 1) (.v 3)) (.v 0))] rfl qz h1 h0
theorem z806 {a:Nat}(h0:a<=16000000):a<=2^24:=by lia
theorem z807 {a b c:Nat}(h0:c<b)(h1:a=c):a<b:=lt_of_eq_of_lt h1 h0
theorem z808 {a:Nat}:(-1+(a:Int)).toNat=a-1:=by cases a with| zero=>rfl| succ n=>simp;lia
theorem z809 {a b c:Nat}(h0:c<a)(h1:b=a):a-1<b:=Nat.not_le.mp fun qz=>lin [_,_,_] [] [(1,.nl (.v 0) (.v 1)),(1,.nf (.v 0) (.v 2)),(1,.ne (.a (.v 1) (.n 1)) (.v 2))] rfl qz h1 (Nat.sub_add_cancel (Nat.not_lt.mp fun qz=>lin [_,_] [] [(1,.nt (.v 0) (.n 1)),(1,.nt (.v 1) (.v 0))] rfl qz h0))
theorem z810 {a b:Nat}(h0:b<100)(h1:a<b):a<2^60:=by lia
theorem z811 {a b c:Nat}(h0:b<c)(h1:a=c): -(a:Int)<=-1:=Int.not_lt.mp fun qz=>lin [_,_,_] [] [(1,.it (.g (.n 1)) (.g (.c (.v 0)))),(1,.nf (.v 0) (.v 1)),(1,.nt (.v 2) (.v 1))] rfl qz h1 h0
theorem z812 {a b c:Nat}(h0:b+a=c)(h1:b<c):a-1<a:=Nat.not_le.mp fun qz=>lin [_,_] [] [(1,.nl (.v 0) (.v 1)),(1,.ne (.a (.v 1) (.n 1)) (.v 0))] rfl qz (Nat.sub_add_cancel (Nat.not_lt.mp fun qz=>lin [_,_,_] [] [(1,.nt (.v 0) (.n 1)),(1,.nt (.v 1) (.v 2)),(1,.nf (.a (.v 1) (.v 0)) (.v 2))] rfl qz h1 h0))
theorem z813 {a b c:Nat}(h0:a+b=c)(h1:a<c):a+1+(b-1)=c:=Nat.le_antisymm (Nat.not_lt.mp fun qz=>lin [_,_,_,_] [] [(1,.nt (.v 0) (.a (.a (.v 1) (.n 1)) (.v 2))),(1,.ne (.a (.v 1) (.v 3)) (.v 0)),(1,.ne (.a (.v 2) (.n 1)) (.v 3))] rfl qz h0 (Nat.sub_add_cancel (Nat.not_lt.mp fun qz=>lin [_,_,_] [] [(1,.nt (.v 0) (.n 1)),(1,.nt (.v 1) (.v 2)),(1,.nf (.a (.v 1) (.v 0)) (.v 2))] rfl qz h1 h0))) (Nat.not_lt.mp fun qz=>lin [_,_,_,_] [] [(1,.nt (.a (.a (.v 0) (.n 1)) (.v 1)) (.v 2)),(1,.nf (.a (.v 0) (.v 3)) (.v 2)),(1,.nl (.v 3) (.a (.v 1) (.n 1)))] rfl qz h0 (Nat.sub_le_iff_le_add.mp (Nat.le_refl _)))
theorem z814 {a:Nat}(h0:a<=63):a<2^62:=by lia
theorem z815 {a:Int}(h0:0<=a): -2^63<=a:=by lia
theorem z816 {a:Int}(h0:a<2^60):a<2^63:=by lia
theorem z817 {a:Nat}{b:Int}(h0:0<=b): -(a:Int)<=b:=Int.not_lt.mp fun qz=>lin [_] [_] [(1,.it (.v 0) (.g (.c (.v 0)))),(1,.il (.n 0) (.v 0))] rfl qz h0
theorem z818 {a:Nat}{b:Int}(h0:¬(b<(a:Int))):a<=b.toNat:=by simp at*;lia
theorem z819 {b:Nat}{a:Int}(h0:0<=a)(h1:a+3<(b:Int)):(a+3).toNat<b:=by grind
theorem z820 {a:Int}(h0:0<=a): -2^63<=a+3:=by lia
theorem z821 {a:Int}(h0:a<1099511627776):a+3<2^63:=by lia
theorem z822 {a:Nat}{b:Int}(h0:0<=b): -(a:Int)<=b+3:=Int.not_lt.mp fun qz=>lin [_] [_] [(1,.it (.a (.v 0) (.n 3)) (.g (.c (.v 0)))),(1,.il (.n 0) (.v 0))] rfl qz h0
theorem z823 {a b:Int}(h0:b<=a):¬(a+3<b):=fun qz=>lin [] [_,_] [(1,.it (.a (.v 0) (.n 3)) (.v 1)),(1,.il (.v 1) (.v 0))] rfl qz h0
theorem z824 {b:Nat}{a:Int}(h0:a<1099511627776)(h1:¬(a+3<(b:Int))):a.natAbs<2^64:=by simp at*;lia
theorem z827 {a:Int}:((1+a%4).toNat:Int)=1+a%4:=by grind
theorem z832 {a:Nat}(h0:a<=3):a<2^60:=by lia
theorem z833 {a:Nat}(h0:a<=3):a=0\/a=1\/a=2\/a=3:=by lia
theorem z834 {a b:Int}:(a%3+b%6).toNat<2^60:=by simp;lia
theorem z835 {a b:Int}:a%3+b%6=((a%3+b%6).toNat:Int):=by lia
theorem z836 {a b:Int}:(a%3+b%6).toNat<8:=by simp;lia
theorem z837 {a:Nat}(h0:a<8):a=0\/a=1\/a=2\/a=3\/a=4\/a=5\/a=6\/a=7:=(by decide:∀x,x<8->(x=0\/x=1\/x=2\/x=3\/x=4\/x=5\/x=6\/x=7)) a h0
theorem z838 {a b c:Nat}(h0:b<c)(h1:b=a):a=b/\a<c:=⟨(h1).symm,Nat.lt_of_le_of_lt (Nat.le_of_eq h1.symm) h0⟩
theorem z839 {a b:Nat}(h0:b<=3)(h1:a<=b):(a:Int).natAbs<2^64:=by simp;lia
theorem z840 {a b:Nat}(h0:b<=3)(h1:a<=b):(a:Int)<=3:=Int.not_lt.mp fun qz=>lin [_,_] [] [(1,.it (.n 3) (.c (.v 0))),(1,.nl (.v 0) (.v 1)),(1,.nl (.v 1) (.n 3))] rfl qz h1 h0
theorem z843 {a:Int}(h0:a<=3*5):a<=15:=Int.le_def.mpr h0
theorem z844 {c:Nat}{a b:Int}(h0:a<=b):a<=b+(c:Int):=Int.not_lt.mp fun qz=>lin [_] [_,_] [(1,.it (.a (.v 0) (.c (.v 0))) (.v 1)),(1,.il (.v 1) (.v 0))] rfl qz h0
theorem z845 {b c:Nat}{a:Int}(h0:a<=15)(h1:b<c)(h2:c<=5):a+(b:Int)<1099511627776:=by lia
theorem z846 {a:Int}(h0:1<=a):0<2*a+1:=Int.not_le.mp fun qz=>lin [] [_] [(1,.il (.a (.m 2 (.v 0)) (.n 1)) (.n 0)),(2,.il (.n 1) (.v 0))] rfl qz h0
theorem z847 {a:Int}(h0:1<=a)(h1:a<=20):(2*a+1).natAbs<2^64:=by grind
theorem z849 {a b:Nat}(h0:a=b)(h1:b<=5):a<100:=Nat.lt_of_le_of_lt (Nat.le_trans (Nat.le_of_eq h0) h1) (by decide)
theorem z850 {a b:Int}(h0:¬(a>b)):a<=b:=Int.not_lt.mp h0
theorem z851 {a b:Nat}:min (min a b) b=min a b:=by simp
theorem z852 {a b:Nat}(h0:a<=3):min a b<=2^24:=by lia
theorem z853 {a b:Nat}(h0:a=b)(h1:b<=5):a+(0+1)<=2^24:=by lia
theorem z854 {a:Nat}:(a:Int)+1=(a+1:Int):=by simp
theorem z855 {a b:Nat}(h0:a<=3):min a b<100:=by lia
theorem z856 {a:Nat}(h0:a<=5):a+1<100:=Nat.not_le.mp fun qz=>lin [_] [] [(1,.nl (.n 100) (.a (.v 0) (.n 1))),(1,.nl (.v 0) (.n 5))] rfl qz h0
theorem z857 {a:Int}(h0: -20<=a)(h1:a<=20):(-a).natAbs<2^64:=by simp;lia
theorem z858 {a b:Nat}(h0:a=b+1): -(a:Int)<=-1:=Int.not_lt.mp fun qz=>lin [_,_] [] [(1,.it (.g (.n 1)) (.g (.c (.v 0)))),(1,.nf (.v 0) (.a (.v 1) (.n 1)))] rfl qz h0
theorem z859 {a:Nat}:(-1+(a+1:Int)).toNat=a:=by lia
theorem z860 {a b:Nat}(h0:b=a+1):a<b:=Nat.not_le.mp fun qz=>lin [_,_] [] [(1,.nl (.v 0) (.v 1)),(1,.nf (.v 0) (.a (.v 1) (.n 1)))] rfl qz h0
theorem z861 {a b c:Nat}(h0:b=c+a):a<=b:=Nat.not_lt.mp fun qz=>lin [_,_,_] [] [(1,.nt (.v 0) (.v 1)),(1,.nf (.v 0) (.a (.v 2) (.v 1)))] rfl qz h0
theorem z862 {a b:Nat}(h0:a=b+1)(h1:b<=5):a<=2^24:=by lia
theorem z863 {a b:Nat}(h0:a<b):a+(b-a-1+1)=b:=Nat.le_antisymm (Nat.not_lt.mp fun qz=>lin [_,_,_,_] [] [(1,.nt (.v 0) (.a (.v 1) (.a (.v 2) (.n 1)))),(1,.ne (.a (.v 2) (.n 1)) (.v 3)),(1,.ne (.a (.v 3) (.v 1)) (.v 0))] rfl qz (Nat.sub_add_cancel (Nat.not_lt.mp fun qz=>lin [_,_,_] [] [(1,.nt (.v 0) (.n 1)),(1,.nt (.v 1) (.v 2)),(1,.nl (.v 2) (.a (.v 0) (.v 1)))] rfl qz h0 (Nat.sub_le_iff_le_add.mp (Nat.le_refl _)))) (Nat.sub_add_cancel (Nat.not_lt.mp fun qz=>lin [_,_] [] [(1,.nt (.v 0) (.v 1)),(1,.nt (.v 1) (.v 0))] rfl qz h0))) (Nat.not_lt.mp fun qz=>lin [_,_,_,_] [] [(1,.nt (.a (.v 0) (.a (.v 1) (.n 1))) (.v 2)),(1,.nl (.v 3) (.a (.v 1) (.n 1))),(1,.nl (.v 2) (.a (.v 3) (.v 0)))] rfl qz (Nat.sub_le_iff_le_add.mp (Nat.le_refl _)) (Nat.sub_le_iff_le_add.mp (Nat.le_refl _)))
theorem z864 {a b c:Nat}(h0:c<b)(h1:a<c+(b-c-1+1)):a<b:=Nat.not_le.mp fun qz=>lin [_,_,_,_,_] [] [(1,.nl (.v 0) (.v 1)),(1,.nt (.v 1) (.a (.v 2) (.a (.v 3) (.n 1)))),(1,.ne (.a (.v 3) (.n 1)) (.v 4)),(1,.ne (.a (.v 4) (.v 2)) (.v 0))] rfl qz h1 (Nat.sub_add_cancel (Nat.not_lt.mp fun qz=>lin [_,_,_] [] [(1,.nt (.v 0) (.n 1)),(1,.nt (.v 1) (.v 2)),(1,.nl (.v 2) (.a (.v 0) (.v 1)))] rfl qz h0 (Nat.sub_le_iff_le_add.mp (Nat.le_refl _)))) (Nat.sub_add_cancel (Nat.not_lt.mp fun qz=>lin [_,_] [] [(1,.nt (.v 0) (.v 1)),(1,.nt (.v 1) (.v 0))] rfl qz h0))
theorem z865 {a b:Nat}(h0:¬(a<b))(h1:¬(a=b)):a-b=a-b-1+1:=by simp at*;lia
theorem z866 {a b c d:Nat}(h0:d-c=a+1)(h1:d<b):a<b-c-1:=by omega
theorem z867 {a:Nat}(h0:a<=2):a<=4:=Nat.le_of_lt (Nat.lt_of_le_of_lt h0 (by decide))
theorem z868 {a b:Nat}(h0:a=b)(h1:b<=5):a<=100:=Nat.le_of_lt (Nat.lt_of_le_of_lt (Nat.le_trans (Nat.le_of_eq h0) h1) (by decide))
theorem z869 {a:Nat}(h0:a<=2):a+(0+1)<=2^24:=by lia
theorem z870 {a b c:Nat}(h0:a+c<990)(h1:b=1000):a<b:=Nat.not_le.mp fun qz=>lin [_,_,_] [] [(1,.nl (.v 0) (.v 1)),(1,.nf (.v 0) (.n 1000)),(1,.nt (.a (.v 1) (.v 2)) (.n 990))] rfl qz h1 h0
theorem z871 {a b c d:Nat}(h0:a+d<9800)(h1:c=9900)(h2:b<=90):a+1+b<c:=Nat.not_le.mp fun qz=>lin [_,_,_,_] [] [(1,.nl (.v 0) (.a (.a (.v 1) (.n 1)) (.v 2))),(1,.nl (.v 2) (.n 90)),(1,.nf (.v 0) (.n 9900)),(1,.nt (.a (.v 1) (.v 3)) (.n 9800))] rfl qz h2 h1 h0
theorem z872 {a b c d e f:Nat}(h0:a+e+f<d)(h1:b<=f):a+min b c<d:=by lia
theorem z874 {a:Nat}(h0:a<=2^24):a<=16777216:=by omega
theorem z875 {a:Int}(h0: -2^63<=a)(h1:a<2^63): -9223372036854775808<=a/\a<9223372036854775808:=⟨h0,h1⟩
theorem z876 {a:Nat}(h0:a<=2^24):¬(a>(2^63-1)/8):=by lia
theorem z878 {a b c:Nat}(h0:b=c)(h1:a<=c):a<=b:=Nat.le_trans h1 (Nat.le_of_eq h0.symm)
theorem z879 {a b c:Nat}(h0:c<b):a<=a+b-1-c:=Nat.not_lt.mp fun qz=>lin [_,_,_,_,_] [] [(1,.nt (.v 0) (.v 1)),(1,.nt (.v 2) (.v 3)),(1,.nl (.v 4) (.a (.v 0) (.v 2))),(1,.nl (.a (.v 1) (.v 3)) (.a (.v 4) (.n 1)))] rfl qz h0 (Nat.sub_le_iff_le_add.mp (Nat.le_refl _)) (Nat.sub_le_iff_le_add.mp (Nat.le_refl _))
theorem z880 {a b c:Nat}(h0:c<b)(h1:a<=c):a+b-1-c<b:=Nat.not_le.mp fun qz=>lin [_,_,_,_,_] [] [(1,.nl (.v 0) (.v 1)),(1,.nl (.v 2) (.v 3)),(1,.ne (.a (.v 1) (.v 3)) (.v 4)),(1,.ne (.a (.v 4) (.n 1)) (.a (.v 2) (.v 0)))] rfl qz h1 (Nat.sub_add_cancel (Nat.not_lt.mp fun qz=>lin [_,_,_,_] [] [(1,.nt (.v 0) (.v 1)),(1,.nt (.v 1) (.v 2)),(1,.nl (.a (.v 3) (.v 2)) (.a (.v 0) (.n 1)))] rfl qz h0 (Nat.sub_le_iff_le_add.mp (Nat.le_refl _)))) (Nat.sub_add_cancel (Nat.not_lt.mp fun qz=>lin [_,_,_] [] [(1,.nt (.a (.v 0) (.v 1)) (.n 1)),(1,.nl (.v 0) (.v 2)),(1,.nt (.v 2) (.v 1))] rfl qz h1 h0))
theorem z881 {a b:Nat}(h0:a<=b)(h1:¬(a=b)):a<=b-1:=by lia
theorem z882 {a:Nat}(h0:1<=a):a-1<a:=Nat.sub_one_lt_of_lt h0
theorem z883 {a b c d:Nat}(h0:a<=b+d+c):a<=b+(c+d):=Nat.not_lt.mp fun qz=>lin [_,_,_,_] [] [(1,.nt (.a (.v 0) (.a (.v 1) (.v 2))) (.v 3)),(1,.nl (.v 3) (.a (.a (.v 0) (.v 2)) (.v 1)))] rfl qz h0
theorem z884 {a b c d:Nat}(h0:a=b+d+c):a=b+(c+d):=Nat.le_antisymm (Nat.not_lt.mp fun qz=>lin [_,_,_,_] [] [(1,.nt (.a (.v 0) (.a (.v 1) (.v 2))) (.v 3)),(1,.ne (.v 3) (.a (.a (.v 0) (.v 2)) (.v 1)))] rfl qz h0) (Nat.not_lt.mp fun qz=>lin [_,_,_,_] [] [(1,.nt (.v 0) (.a (.v 1) (.a (.v 2) (.v 3)))),(1,.nf (.v 0) (.a (.a (.v 1) (.v 3)) (.v 2)))] rfl qz h0)
theorem z885 {a b c d e:Nat}(h0:a+(c+b)<=e)(h1:d=e):a+b+c<=d:=Nat.not_lt.mp fun qz=>lin [_,_,_,_,_] [] [(1,.nt (.v 0) (.a (.a (.v 1) (.v 2)) (.v 3))),(1,.nf (.v 0) (.v 4)),(1,.nl (.a (.v 1) (.a (.v 3) (.v 2))) (.v 4))] rfl qz h1 h0
theorem z886 {a b:Nat}:0+a<=b+a:=by simp
theorem z887 {a b:Nat}(h0:b-(0+1)<=a)(h1:a<b):a=b-1:=Nat.le_antisymm (Nat.not_lt.mp fun qz=>lin [_,_,_] [] [(1,.nt (.v 0) (.v 1)),(1,.nt (.v 1) (.v 2)),(1,.nl (.v 2) (.a (.v 0) (.n 1)))] rfl qz h1 (Nat.sub_le_iff_le_add.mp (Nat.le_refl _))) (Nat.not_lt.mp fun qz=>lin [_,_,_,_] [] [(1,.nt (.v 0) (.v 1)),(1,.nl (.v 2) (.v 0)),(1,.nl (.v 3) (.a (.v 2) (.a (.n 0) (.n 1)))),(1,.ne (.a (.v 1) (.n 1)) (.v 3))] rfl qz h0 (Nat.sub_le_iff_le_add.mp (Nat.le_refl _)) (Nat.sub_add_cancel (Nat.not_lt.mp fun qz=>lin [_,_] [] [(1,.nt (.v 0) (.n 1)),(1,.nt (.v 1) (.v 0))] rfl qz h1)))
theorem z888 {a b c d:Nat}(h0:a+(c+b)<=d):a+b+c<=d:=Nat.not_lt.mp fun qz=>lin [_,_,_,_] [] [(1,.nt (.v 0) (.a (.a (.v 1) (.v 2)) (.v 3))),(1,.nl (.a (.v 1) (.a (.v 3) (.v 2))) (.v 0))] rfl qz h0
theorem z889 {a b:Nat}:a+b-b=a:=Eq.symm (Nat.eq_sub_of_add_eq rfl)
theorem z890 {a b c d:Nat}(h0:a+d-(b+d)<=c):a-b<=c:=by simp at*;lia
theorem z891 {a b c:Nat}(h0:a<=c)(h1:c<=b):a<=b:=Nat.le_trans h0 h1
theorem z892 {a b c:Nat}(h0:c<b)(h1:a<=c):0<=a/\a<b:=⟨Nat.not_lt.mp fun qz=>lin [_] [] [(1,.nt (.v 0) (.n 0))] rfl qz,Nat.lt_of_le_of_lt h1 h0⟩
theorem z893 {a b:Nat}(h0:a<b):0<=a/\a<b:=if_false_right.mp h0
theorem z894 {a b c:Nat}(h0:c<=b):a-b<=a-c:=Nat.sub_le_sub_left h0 a
theorem z895 {a b:Nat}(h0:1<=a):0+a-1-b<a:=Nat.not_le.mp fun qz=>lin [_,_,_] [] [(1,.nl (.v 0) (.v 1)),(1,.nl (.v 1) (.v 2)),(1,.ne (.a (.v 2) (.n 1)) (.a (.n 0) (.v 0)))] rfl qz (Nat.sub_le _ _) (Nat.sub_add_cancel (Nat.not_lt.mp fun qz=>lin [_] [] [(1,.nt (.a (.n 0) (.v 0)) (.n 1)),(1,.nl (.n 1) (.v 0))] rfl qz h0))
theorem z896 {a b c:Nat}(h0:c<=b)(h1:a<=c+(b-c)):a<=b:=Nat.not_lt.mp fun qz=>lin [_,_,_,_] [] [(1,.nt (.v 0) (.v 1)),(1,.nl (.v 1) (.a (.v 2) (.v 3))),(1,.ne (.a (.v 3) (.v 2)) (.v 0))] rfl qz h1 (Nat.sub_add_cancel (Nat.not_lt.mp fun qz=>lin [_,_] [] [(1,.nt (.v 0) (.v 1)),(1,.nl (.v 1) (.v 0))] rfl qz h0))
theorem z897 {a b c:Nat}(h0:a<=b)(h1:b<=c):a+(b-a)<=c:=Nat.not_lt.mp fun qz=>lin [_,_,_,_] [] [(1,.nt (.v 0) (.a (.v 1) (.v 2))),(1,.nl (.v 3) (.v 0)),(1,.ne (.a (.v 2) (.v 1)) (.v 3))] rfl qz h1 (Nat.sub_add_cancel (Nat.not_lt.mp fun qz=>lin [_,_] [] [(1,.nt (.v 0) (.v 1)),(1,.nl (.v 1) (.v 0))] rfl qz h0))
theorem z898 {a b c d e:Nat}(h0:b=c)(h1:d<=e)(h2:e<=c)(h3:a<=d+(e-d)):a<=b:=Nat.not_lt.mp fun qz=>lin [_,_,_,_,_,_] [] [(1,.nt (.v 0) (.v 1)),(1,.nl (.v 1) (.a (.v 2) (.v 3))),(1,.nl (.v 4) (.v 5)),(1,.nf (.v 0) (.v 5)),(1,.ne (.a (.v 3) (.v 2)) (.v 4))] rfl qz h3 h2 h0 (Nat.sub_add_cancel (Nat.not_lt.mp fun qz=>lin [_,_] [] [(1,.nt (.v 0) (.v 1)),(1,.nl (.v 1) (.v 0))] rfl qz h1))
theorem z899 {a b c:Nat}(h0:c+a<=b):a<=b:=Nat.le_of_add_left_le h0
theorem z900 {a b c d:Nat}(h0:c=d)(h1:b=c)(h2:a<=d):a<=b:=Nat.le_trans (Nat.le_trans h2 (Nat.le_of_eq h0.symm)) (Nat.le_of_eq h1.symm)
theorem z901 {a b:Nat}(h0:b<1)(h1:a<=b):a=b:=Nat.le_antisymm (Nat.not_lt.mp fun qz=>lin [_,_] [] [(1,.nt (.v 0) (.v 1)),(1,.nl (.v 1) (.v 0))] rfl qz h1) (Nat.not_lt.mp fun qz=>lin [_,_] [] [(1,.nt (.v 0) (.v 1)),(1,.nt (.v 1) (.n 1))] rfl qz h0)
theorem z902 {a b c:Nat}(h0:b<=c)(h1:¬(a=c)):¬(a=b+(c-b)):=by grind
theorem z903 {a b:Nat}(h0:a<b):a<=b-1:=Nat.le_sub_one_of_lt h0
theorem z904 {a b c:Int}(h0:b<=c)(h1:c<=a)(h2:a<=b):a=b:=Int.le_antisymm (Int.not_lt.mp fun qz=>lin [] [_,_] [(1,.it (.v 0) (.v 1)),(1,.il (.v 1) (.v 0))] rfl qz h2) (Int.not_lt.mp fun qz=>lin [] [_,_,_] [(1,.it (.v 0) (.v 1)),(1,.il (.v 2) (.v 0)),(1,.il (.v 1) (.v 2))] rfl qz h1 h0)
theorem z905 {a b:Nat}(h0:1<=b)(h1:a<=1+(b-1))(h2:¬(a=b)):a+1<=b:=by grind
theorem z906 {a b c d:Nat}(h0:c<=d)(h1:d<=b)(h2:a<=c+(d-c)):a<=b:=Nat.not_lt.mp fun qz=>lin [_,_,_,_,_] [] [(1,.nt (.v 0) (.v 1)),(1,.nl (.v 1) (.a (.v 2) (.v 3))),(1,.nl (.v 4) (.v 0)),(1,.ne (.a (.v 3) (.v 2)) (.v 4))] rfl qz h2 h1 (Nat.sub_add_cancel (Nat.not_lt.mp fun qz=>lin [_,_] [] [(1,.nt (.v 0) (.v 1)),(1,.nl (.v 1) (.v 0))] rfl qz h0))
theorem z907 {a b c:Nat}(h0:c<b)(h1:a<=c):a<b:=Nat.lt_of_le_of_lt h1 h0
theorem z908 {a b:Nat}(h0:a<=b)(h1:¬(a=b)):a<b:=Nat.lt_of_le_of_ne h0 h1
theorem z909 {a b:Nat}(h0:b<=a)(h1:¬(a>b)):a=b:=Nat.le_antisymm (Nat.not_lt.mp fun qz=>lin [_,_] [] [(1,.nt (.v 0) (.v 1)),(1,.nl (.v 1) (.v 0))] rfl qz (Nat.not_lt.mp h1)) (Nat.not_lt.mp fun qz=>lin [_,_] [] [(1,.nt (.v 0) (.v 1)),(1,.nl (.v 1) (.v 0))] rfl qz h0)
theorem z910 {a:Nat}(h0:1<=a)(h1:¬(1=a)):1+1<=a:=by lia
theorem z911 {a b:Nat}(h0:b<1+1)(h1:a<=b)(h2:¬(a=b)):a=0:=by lia
theorem z912 {a:Nat}(h0:a<1+1)(h1:¬(0=a)):a=1:=by lia
theorem z913 {a b:Nat}(h0:b-a<=0)(h1:a<=b):a=b:=Nat.le_antisymm (Nat.not_lt.mp fun qz=>lin [_,_] [] [(1,.nt (.v 0) (.v 1)),(1,.nl (.v 1) (.v 0))] rfl qz h1) (Nat.not_lt.mp fun qz=>lin [_,_,_] [] [(1,.nt (.v 0) (.v 1)),(1,.nl (.v 2) (.n 0)),(1,.nl (.v 1) (.a (.v 2) (.v 0)))] rfl qz h0 (Nat.sub_le_iff_le_add.mp (Nat.le_refl _)))
theorem z914 {a b:Nat}(h0:a<=b)(h1:a>=b):a=b:=Nat.le_antisymm h0 h1
theorem z915 {a b:Nat}(h0:a<=b):a<=(a+b)/2:=by lia
theorem z916 {a b c:Nat}(h0:a<=b)(h1:b<=c):(a+b)/2<=c:=by lia
theorem z917 {a b c:Nat}(h0:b-a<=c+1):(a+b)/2-a<=c:=by simp at*;lia
theorem z918 {a b:Nat}(h0:¬(a>=b)):(a+b)/2+1<=b:=by lia
theorem z919 {a b c d:Nat}(h0:a-b<=d+c):a-((b+a)/2+c)<=d:=by simp at*;lia
theorem z920 {a b c:Nat}(h0:b<=c)(h1:¬(a>=b)):(a+b)/2<c:=by lia
theorem z921 {a b:Nat}:a-b<=a:=Nat.sub_le a b
theorem z922 {a b c:Nat}(h0:a+(c+1)<=b):a<b:=Nat.lt_of_add_right_lt h0
theorem z923 {a b c:Nat}(h0:c=a)(h1:c<=b)(h2:¬(b=a)):a<=b-1:=by subst h0;lia
theorem z924 {a b c:Nat}(h0:a<b+1)(h1:c<=b)(h2:¬(a=c)):a-1<b:=by lia
theorem z930 {a b c:Nat}:a+(b+c)=a+c+b:=by lia
theorem z931 {a:Nat}(h0:2<=a):1<=a:=Nat.le_of_lt (Nat.lt_of_lt_of_le (by decide) h0)
theorem z932 {a b c:Nat}(h0:a<b)(h1:c=b):max a 1+(b-max a 1)<=c:=by subst h1;lia
theorem z933 {a b:Nat}(h0:b<=a):max a b=a:=Nat.max_eq_left h0
theorem z934 {a b:Nat}(h0:a<b):max a 1+(b-max a 1)=b:=by lia
theorem z935 {a b c:Nat}(h0:a<c)(h1:c<=b):a<b:=Nat.lt_of_lt_of_le h0 h1
theorem z936 {a b c:Int}(h0:a<c)(h1:c<b):a<b:=Int.lt_trans h0 h1
theorem z937 {a b:Int}(h0:¬(a<b))(h1:¬(b<a)):a=b:=Int.le_antisymm (Int.not_lt.mp fun qz=>lin [] [_,_] [(1,.it (.v 0) (.v 1)),(1,.il (.v 1) (.v 0))] rfl qz (Int.not_lt.mp h1)) (Int.not_lt.mp fun qz=>lin [] [_,_] [(1,.it (.v 0) (.v 1)),(1,.il (.v 1) (.v 0))] rfl qz (Int.not_lt.mp h0))
theorem z938 {a b c:Nat}(h0:a<c):a+b<c+b:=Nat.add_lt_add_right h0 b
theorem z940 {a b c:Int}(h0:c<b)(h1:a=c):a<b:=Int.lt_of_le_of_lt (Int.le_of_eq h1) h0
theorem z941 {a b c:Int}(h0:a=c)(h1:c=b):a=b:=by lia
theorem z942 {a b:Nat}(h0:a<=b):a<b+1:=Nat.lt_succ_of_le h0
theorem z943 {a b:Nat}(h0:a<b):(a:Int)<(b:Int):=Int.ofNat_lt.mpr h0
theorem z944 {a b:Nat}(h0:a<=b):(a:Int)<=(b:Int):=Int.ofNat_le.mpr h0
theorem z945 {a b:Nat}(h0:a+8<b):a+1+5<b:=Nat.not_le.mp fun qz=>lin [_,_] [] [(1,.nl (.v 0) (.a (.a (.v 1) (.n 1)) (.n 5))),(1,.nt (.a (.v 1) (.n 8)) (.v 0))] rfl qz h0
theorem z946 {a b c d:Nat}(h0:a+8<d)(h1:b<=2):a+min b c<d:=by lia
theorem z947 {a b:Nat}(h0:a+12<b):a+1+5<b:=Nat.not_le.mp fun qz=>lin [_,_] [] [(1,.nl (.v 0) (.a (.a (.v 1) (.n 1)) (.n 5))),(1,.nt (.a (.v 1) (.n 12)) (.v 0))] rfl qz h0
theorem z948 {a b:Nat}(h0:a+12<b):a+1+8<b:=Nat.not_le.mp fun qz=>lin [_,_] [] [(1,.nl (.v 0) (.a (.a (.v 1) (.n 1)) (.n 8))),(1,.nt (.a (.v 1) (.n 12)) (.v 0))] rfl qz h0
theorem z949:0<1:=Nat.one_pos
theorem z950 {a b:Nat}(h0:a+12<b):a+5<b:=Nat.not_le.mp fun qz=>lin [_,_] [] [(1,.nl (.v 0) (.a (.v 1) (.n 5))),(1,.nt (.a (.v 1) (.n 12)) (.v 0))] rfl qz h0
theorem z951 {a b:Nat}(h0:a+12<b):a+8<b:=Nat.not_le.mp fun qz=>lin [_,_] [] [(1,.nl (.v 0) (.a (.v 1) (.n 8))),(1,.nt (.a (.v 1) (.n 12)) (.v 0))] rfl qz h0
theorem z952:20<=90:=by simp
theorem z953 {a b c:Nat}(h0:a+c+20<b):a+12<b:=Nat.not_le.mp fun qz=>lin [_,_,_] [] [(1,.nl (.v 0) (.a (.v 1) (.n 12))),(1,.nt (.a (.a (.v 1) (.v 2)) (.n 20)) (.v 0))] rfl qz h0
theorem z954 {a b c:Nat}(h0:b=c)(h1:a=c):a=b:=by lia
theorem z955 {a b:Nat}(h0:2<=b)(h1:a=b):0<a:=Nat.lt_of_lt_of_le (Nat.lt_of_lt_of_le (by decide) h0) (Nat.le_of_eq h1.symm)
theorem z956 {a:Nat}(h0:2<=a):0<a:=Nat.zero_lt_of_lt h0
theorem z957 {a b:Nat}(h0:b<64)(h1:a=b):a<=16777216:=Nat.le_of_lt (Nat.lt_trans (Nat.lt_of_le_of_lt (Nat.le_of_eq h1) h0) (by decide))
theorem z958 {a b c:Nat}(h0:b<64)(h1:a=min c b):a<=63:=by lia
theorem z959 {a:Nat}(h0:a<=63):a<=16777216:=Nat.le_of_lt (Nat.lt_of_le_of_lt h0 (by decide))
theorem z960 {a b:Nat}(h0:a<=63):a+b<=16777216+b:=Nat.not_lt.mp fun qz=>lin [_,_] [] [(1,.nt (.a (.n 16777216) (.v 0)) (.a (.v 1) (.v 0))),(1,.nl (.v 1) (.n 63))] rfl qz h0
theorem z961 {a b:Nat}(h0:a+20<b):a+1+1+12<b:=Nat.not_le.mp fun qz=>lin [_,_] [] [(1,.nl (.v 0) (.a (.a (.a (.v 1) (.n 1)) (.n 1)) (.n 12))),(1,.nt (.a (.v 1) (.n 20)) (.v 0))] rfl qz h0
theorem z962 {a b:Nat}(h0:a<64):a<=16777216+b:=Nat.not_lt.mp fun qz=>lin [_,_] [] [(1,.nt (.a (.n 16777216) (.v 0)) (.v 1)),(1,.nt (.v 1) (.n 64))] rfl qz h0
theorem z963 {a b c d:Nat}(h0:a+(b+d)<c):a+b<c:=Nat.not_le.mp fun qz=>lin [_,_,_,_] [] [(1,.nl (.v 0) (.a (.v 1) (.v 2))),(1,.nt (.a (.v 1) (.a (.v 2) (.v 3))) (.v 0))] rfl qz h0
theorem z964 {a b c d:Nat}(h0:a+10*(c+b)<d):a+b+b+10*c<d:=Nat.not_le.mp fun qz=>lin [_,_,_,_] [] [(1,.nl (.v 0) (.a (.a (.a (.v 1) (.v 2)) (.v 2)) (.m 10 (.v 3)))),(1,.nt (.a (.v 1) (.m 10 (.a (.v 3) (.v 2)))) (.v 0))] rfl qz h0
theorem z966 {a b c:Nat}(h0:a+c<9800)(h1:b=9900):a+20<b:=Nat.not_le.mp fun qz=>lin [_,_,_] [] [(1,.nl (.v 0) (.a (.v 1) (.n 20))),(1,.nf (.v 0) (.n 9900)),(1,.nt (.a (.v 1) (.v 2)) (.n 9800))] rfl qz h1 h0
theorem z967 {a:Nat}: -2^63<=(a:Int):=Int.neg_ofNat_le_natCast (2^63) a
theorem z968 {a:Nat}(h0:a<2^60):(a:Int)<2^63:=by lia
theorem z969 {a b:Nat}: -(a:Int)<=(b:Int):=by simp
theorem z970 {a:Nat}(h0:a<=600):1+300+a<990:=Nat.not_le.mp fun qz=>lin [_] [] [(1,.nl (.n 990) (.a (.a (.n 1) (.n 300)) (.v 0))),(1,.nl (.v 0) (.n 600))] rfl qz h0
theorem z971 {a:Nat}(h0:a<=600):4+10*a<9800:=Nat.not_le.mp fun qz=>lin [_] [] [(1,.nl (.n 9800) (.a (.n 4) (.m 10 (.v 0)))),(10,.nl (.v 0) (.n 600))] rfl qz h0
theorem z972 {a b c d e:Nat}(h0:d+(b+e)<c)(h1:a=d+e):a+b<c:=Nat.not_le.mp fun qz=>lin [_,_,_,_,_] [] [(1,.nl (.v 0) (.a (.v 1) (.v 2))),(1,.ne (.v 1) (.a (.v 3) (.v 4))),(1,.nt (.a (.v 3) (.a (.v 2) (.v 4))) (.v 0))] rfl qz h1 h0
theorem z973 {a b c d e:Nat}(h0:d+10*(b+e)<c)(h1:a=d+e):a+10*b<c:=Nat.not_le.mp fun qz=>lin [_,_,_,_,_] [] [(1,.nl (.v 0) (.a (.v 1) (.m 10 (.v 2)))),(1,.ne (.v 1) (.a (.v 3) (.v 4))),(1,.nt (.a (.v 3) (.m 10 (.a (.v 2) (.v 4)))) (.v 0))] rfl qz h1 h0
theorem z974 {a b:Nat}(h0:a<=100):a+b<=16777216+b:=Nat.not_lt.mp fun qz=>lin [_,_] [] [(1,.nt (.a (.n 16777216) (.v 0)) (.a (.v 1) (.v 0))),(1,.nl (.v 1) (.n 100))] rfl qz h0
theorem z979 {b:Nat}{a:Int}(h0:a=(b:Int)):0<=a:=Int.not_lt.mp fun qz=>lin [_] [_] [(1,.it (.v 0) (.n 0)),(1,.jf (.v 0) (.c (.v 0)))] rfl qz h0
theorem z989 {a:Nat}(h0:3<a)(h1:a=1):False:=lin [_] [] [(1,.ne (.v 0) (.n 1)),(1,.nt (.n 3) (.v 0))] rfl h1 h0
theorem z990 {a b c:Nat}(h0:a<b)(h1:c=b):a<min b c:=by lia
theorem z991 {a b c:Nat}(h0:a+c<9800)(h1:b=9900):a+1<b:=Nat.not_le.mp fun qz=>lin [_,_,_] [] [(1,.nl (.v 0) (.a (.v 1) (.n 1))),(1,.nf (.v 0) (.n 9900)),(1,.nt (.a (.v 1) (.v 2)) (.n 9800))] rfl qz h1 h0
theorem z993 {a b c:Nat}(h0:c=b)(h1:a<=c):a<=b:=Nat.le_trans h1 (Nat.le_of_eq h0)
theorem z994 {a b c d e:Nat}(h0:a=c)(h1:d=e)(h2:e=c)(h3:d<=b):a<=b:=Nat.le_trans (Nat.le_trans (Nat.le_trans (Nat.le_of_eq h0) (Nat.le_of_eq h2.symm)) (Nat.le_of_eq h1.symm)) h3
theorem z997 {a:Nat}(h0:1<=a):a-1≠a:=fun qz=>lin [_,_] [] [(1,.nf (.v 0) (.v 1)),(1,.ne (.a (.v 0) (.n 1)) (.v 1))] rfl qz (Nat.sub_add_cancel (Nat.not_lt.mp fun qz=>lin [_] [] [(1,.nt (.v 0) (.n 1)),(1,.nl (.n 1) (.v 0))] rfl qz h0))
theorem z998 {a:Nat}(h0:a<1000):(a:Int)<2^63:=by lia
theorem z999 {a:Nat}(h0:a<1000):(0+1)*a<=2^24:=by lia
end Mine
namespace Mine
open PySem PySem.Calls PyProof.Rows
theorem len2 {α:Type}{l:List α}(h:l.length=2):∃a b,l=[a,b]:=by
 obtain ⟨a,t,rfl⟩:=List.exists_cons_of_length_eq_add_one h
 obtain ⟨b,rfl⟩:=List.length_eq_one_iff.mp (Nat.succ.inj h)
 exact ⟨a,b,rfl⟩
theorem len3 {α:Type}{l:List α}(h:l.length=3):∃a b c,l=[a,b,c]:=by
 obtain ⟨a,t,rfl⟩:=List.exists_cons_of_length_eq_add_one h
 obtain ⟨b,c,rfl⟩:=len2 (Nat.succ.inj h)
 exact ⟨a,b,c,rfl⟩
theorem len4 {α:Type}{l:List α}(h:l.length=4):∃a b c d,l=[a,b,c,d]:=by
 obtain ⟨a,t,rfl⟩:=List.exists_cons_of_length_eq_add_one h
 obtain ⟨b,c,d,rfl⟩:=len3 (Nat.succ.inj h)
 exact ⟨a,b,c,d,rfl⟩
theorem len01 {α β:Type}{l:List α}{t:List β}(hl:l.length=t.length)(h:l.length<=1):(l=[]/\t=[])\/∃a b,l=[a]/\t=[b]:=by
 rcases Nat.le_one_iff_eq_zero_or_eq_one.mp h with e| e
 ·exact .inl ⟨List.length_eq_zero_iff.mp e,List.length_eq_zero_iff.mp (hl.symm.trans e)⟩
 ·refine Exists.elim (List.length_eq_one_iff.mp e) fun a ha=> ?_
  obtain ⟨b,hb⟩:=List.length_eq_one_iff.mp (hl.symm.trans e)
  exact .inr ⟨a,b,ha,hb⟩
inductive D where
 | none
 | bool (b:Bool)
 | int (i:Int)
 | str (x:Str)
 | tup (ds:List D)
 | lst (ds:List D)
 | sys (C:Addr) (size rules:D)
 | own (C dx:Addr)
 | exc (C:Addr)
 | typ (T:String)
 | ref (a:Addr)
noncomputable abbrev tupObj (vs:List Value)(n:Nat):Obj:={cls:=.type "tuple",data:=.seq vs.toArray n}
noncomputable abbrev lstObj (vs:List Value)(n:Nat):Obj:={cls:=.type "list",data:=.seq vs.toArray n}
inductive SysAt (K:List Addr)(h:Heap)(C:Addr)(P1 P2:Value->Prop)(v:Value):Prop
 | mk (a dx:Addr) (v1 v2:Value) (mA:Str->Option Value) (e:v=.ref a) (na:a∉K) (nd:dx∉K) (g:h.get? a=some {cls:=.ref C,dict:=some dx,data:=.plain}) (ns:h.Ns dx mA) (f1:mA "size"=some v1) (f2:mA "rules"=some v2)
   (f3:∀x:Str,x≠"size"->x≠"rules"->mA x=none) (r1:P1 v1) (r2:P2 v2):SysAt K h C P1 P2 v
mutual
noncomputable def V (K:List Addr)(h:Heap):D->Value->Prop
 | .none,v=>v=.none
 | .bool b,v=>v=.bool b
 | .int i,v=>∃t,v=.int i t
 | .str x,v=>∃t,v=.str x t
 | .tup ds,v=>∃a vs n,v=.ref a/\a∉K/\h.get? a=some (tupObj vs n)/\Vs K h ds vs
 | .lst ds,v=>∃a vs n,v=.ref a/\a∉K/\h.get? a=some (lstObj vs n)/\Vs K h ds vs
 | .sys C sz ru,v=>SysAt K h C (fun x=>V K h sz x) (fun x=>V K h ru x) v
 | .own C dx,v=>∃a,v=.ref a/\a∉K/\h.get? a=some {cls:=.ref C,dict:=some dx,data:=.plain}
 | .exc C,v=>∃a o vs,v=.ref a/\a∉K/\h.get? a=some o/\o.cls=.ref C/\o.data=.fields vs/\o.dict=none
 | .typ T,v=>v=.type T
 | .ref a,v=>v=.ref a
noncomputable def Vs (K:List Addr)(h:Heap):List D->List Value->Prop
 | [],vs=>vs=[]
 | d::ds,vs=>∃v r,vs=v::r/\V K h d v/\Vs K h ds r
end
noncomputable def Stay (K:List Addr)(h h':Heap):Prop:=∀b o,b∉K->h.get? b=some o->h'.get? b=some o
noncomputable def Less (K K':List Addr)(h:Heap):Prop:=∀a,a∈K'->a∈K\/h.get? a=none
theorem Less.nin {K K':List Addr}{h:Heap}(l:Less K K' h){a:Addr}{o:Obj}(n:a∉K)(e:h.get? a=some o):a∉K':=fun m=>
 (l a m).elim n fun q=>by replace e:=(q ..).symm.trans e;contradiction
mutual
theorem V.move {K K':List Addr}{h h':Heap}(k:Stay K h h')(l:Less K K' h):∀(d:D) (v:Value),V K h d v->V K' h' d v
 | .none,v,x=>by unfold V at*;exact x
 | .bool b,v,x=>by unfold V at*;exact x
 | .int i,v,x=>by unfold V at*;exact x
 | .str y,v,x=>by unfold V at*;exact x
 | .tup ds,v,x=>by
  unfold V at*
  obtain ⟨a,vs,n,e,nk,g,r⟩:=x
  exact ⟨a,vs,n,e,l.nin nk g,k _ _ nk g,Vs.move k l ds vs r⟩
 | .lst ds,v,x=>by
  unfold V at*
  obtain ⟨a,vs,n,e,nk,g,r⟩:=x
  exact ⟨a,vs,n,e,l.nin nk g,k _ _ nk g,Vs.move k l ds vs r⟩
 | .sys C sz ru,v,x=>by
  unfold V at*
  obtain ⟨a,dx,v1,v2,mA,e,nk,nd,g,⟨od,es,ep,gd,hd⟩,f1,f2,f3,r1,r2⟩:=x
  exact ⟨a,dx,v1,v2,mA,e,l.nin nk g,l.nin nd gd,k _ _ nk g,⟨od,es,ep,k _ _ nd gd,hd⟩,f1,f2,f3,V.move k l sz v1 r1,V.move k l ru v2 r2⟩
 | .own C dx,v,x=>by
  unfold V at*
  obtain ⟨a,e,nk,g⟩:=x
  exact ⟨a,e,l.nin nk g,k _ _ nk g⟩
 | .exc C,v,x=>by
  unfold V at*
  obtain ⟨a,o,vs,e,nk,g,r⟩:=x
  exact ⟨a,o,vs,e,l.nin nk g,k _ _ nk g,r⟩
 | .typ T,v,x=>by unfold V at*;exact x
 | .ref a,v,x=>by unfold V at*;exact x
theorem Vs.move {K K':List Addr}{h h':Heap}(k:Stay K h h')(l:Less K K' h):∀(ds:List D) (vs:List Value),Vs K h ds vs->Vs K' h' ds vs
 | [],vs,x=>by unfold Vs at*;exact x
 | d::ds,vs,x=>by
  unfold Vs at*
  obtain ⟨v,r,e,p,q⟩:=x
  exact ⟨v,r,e,V.move k l d v p,Vs.move k l ds r q⟩
end
theorem Vs.length {K:List Addr}{h:Heap}:∀{ds:List D} {vs:List Value},Vs K h ds vs->vs.length=ds.length
 | [],_,x=>by subst x;rfl
 | _::_,_,x=>by obtain ⟨v,r,rfl,_,q⟩:=x;simp [q.length]
theorem Vs.get {K:List Addr}{h:Heap}:∀{ds:List D} {vs:List Value},Vs K h ds vs->∀{i:Nat} {v:Value},vs[i]? =some v->∃d,ds[i]? =some d/\V K h d v
 | [],_,x,i,v,e=>by subst x;contradiction
 | d::ds,_,x,i,v,e=>by
  obtain ⟨v',r,rfl,p,q⟩:=x
  cases i with
  | zero=>simp at e;subst e;exact ⟨d,rfl,p⟩
  | succ i=>simp at e;exact q.get e
theorem Vs.got {K:List Addr}{h:Heap}:∀{ds:List D} {vs:List Value},Vs K h ds vs->∀{i:Nat} {d:D},ds[i]? =some d->∃v,vs[i]? =some v/\V K h d v
 | [],_,x,i,v,e=>by contradiction
 | d::ds,_,x,i,d',e=>by
  obtain ⟨v',r,rfl,p,q⟩:=x
  cases i with
  | zero=>simp at e;subst e;exact ⟨v',rfl,p⟩
  | succ i=>simp at e;exact q.got e
theorem Vs.nil {K:List Addr}{h:Heap}:Vs K h [] []:=by unfold Vs;rfl
theorem Vs.cons {K:List Addr}{h:Heap}{d:D}{v:Value}{ds:List D}{vs:List Value}(a:V K h d v)(b:Vs K h ds vs):Vs K h (d::ds) (v::vs):=by exact ⟨v,vs,rfl,a,b⟩
theorem Vs.append {K:List Addr}{h:Heap}:∀{ds:List D} {vs:List Value} {es:List D} {us:List Value},Vs K h ds vs->Vs K h es us->Vs K h (ds++es) (vs++us)
 | [],_,_,_,x,y=>by subst x;exact y
 | d::ds,_,_,_,x,y=>by obtain ⟨v,r,rfl,p,q⟩:=x;exact .cons p (q.append y)
theorem Vs.snoc {K:List Addr}{h:Heap}{d:D}{v:Value}{ds:List D}{vs:List Value}(b:Vs K h ds vs)(a:V K h d v):Vs K h (ds++[d]) (vs++[v]):=b.append (.cons a .nil)
theorem Vs.take {K:List Addr}{h:Heap}:∀(n:Nat) {ds:List D} {vs:List Value},Vs K h ds vs->Vs K h (ds.take n) (vs.take n)
 | 0,_,_,_=>by exact Vs.nil
 | n+1,[],_,x=>by subst x;exact Vs.nil
 | n+1,d::ds,_,x=>by obtain ⟨v,r,rfl,p,q⟩:=x;exact .cons p (q.take n)
theorem Vs.drop {K:List Addr}{h:Heap}:∀(n:Nat) {ds:List D} {vs:List Value},Vs K h ds vs->Vs K h (ds.drop n) (vs.drop n)
 | 0,_,_,x=>x
 | n+1,[],_,x=>by subst x;exact Vs.nil
 | n+1,d::ds,_,x=>by obtain ⟨v,r,rfl,p,q⟩:=x;exact q.drop n
inductive O where
 | lst (ds:List D)
 | rows (rs:List (List Int))
 | flds (fs:List (Str × D))
noncomputable abbrev Sto:=List (Addr × O)
noncomputable abbrev keys (σ:Sto):List Addr:=σ.map (·.1)
noncomputable def rowItems (rs:List (List Int))(as:List Addr):List (List Int × Addr × Value):=(rs.zip as).map fun p=>(p.1,p.2,Value.bool true)
noncomputable def IsO (prog:Program)(w:World)(K:List Addr)(h:Heap)(a:Addr):O->Prop
 | .lst ds=>∃vs n,h.get? a=some (lstObj vs n)/\Vs K h ds vs
 | .rows rs=>∃as:List Addr,as.length=rs.length/\(Vs K h (rs.map fun r=>.tup (r.map .int)) (as.map .ref)/\(a==sysModules)=false)/\h.DictOfH (tupleKind (intKind prog w)) a (rowItems rs as)
 | .flds fs=>∃mA,h.Ns1 a mA/\(∀x d,fs.lookup x=some d->∃v,mA x=some v/\V K h d v)/\∀x,fs.lookup x=none->mA x=none
theorem IsTupleKey.stay {prog:Program}{w:World}{K:List Addr}{h h':Heap}{ks:List Int}{a:Addr}(x:IsTupleKey (intKind prog w) h ks a)(k:Stay K h h')(n:a∉K):IsTupleKey (intKind prog w) h' ks a:=by
 obtain ⟨o,items,n',ho,r⟩:=x
 exact ⟨o,items,n',k _ _ n ho,r⟩
theorem mem_rowItems {rs:List (List Int)}{as:List Addr}{x:List Int × Addr × Value}(h:x∈rowItems rs as):x.2.1∈as:=by
 obtain ⟨p,hp,rfl⟩:=List.mem_map.mp h
 exact (List.of_mem_zip hp).2
theorem Vs.refs {K:List Addr}{h:Heap}:∀{rs:List (List Int)} {as:List Addr},Vs K h (rs.map fun r=>.tup (r.map .int)) (as.map .ref)->∀x∈as,x∉K
 | [],[],_,x,hx=>by cases hx
 | [],_::_,v,x,hx=>by simp only [List.map_nil] at v;contradiction
 | _::_,[],v,x,hx=>by cases hx
 | r::rs,a::as,v,x,hx=>by
  obtain ⟨w,us,e,v1,v2⟩:=v
  cases e
  rcases List.mem_cons.mp hx with rfl| hx
  ·obtain ⟨b,vs,n,e,nk,_⟩:=v1
   injection e with e;subst e;exact nk
  ·exact Vs.refs v2 x hx
theorem IsO.move {prog:Program}{w:World}{K K':List Addr}{h h':Heap}{a:Addr}{o:O}(k:Stay K h h')(l:Less K K' h)(e:∀x,h.get? a=some x->h'.get? a=some x)(x:IsO prog w K h a o):IsO prog w K' h' a o:=by
 cases o with
 | lst ds=>
  obtain ⟨vs,n,g,r⟩:=x
  exact ⟨vs,n,e _ g,Vs.move k l ds vs r⟩
 | rows rs=>
  obtain ⟨as,hl,hn,o,es,ep,g,ex,hd,he,hk,nd⟩:=x
  refine ⟨as,hl,⟨Vs.move k l _ _ hn.1,hn.2⟩,o,es,ep,e _ g,ex,hd,he,fun y hy=> ?_,nd⟩
  exact IsTupleKey.stay (hk y hy) k (Vs.refs hn.1 _ (mem_rowItems hy))
 | flds fs=>
  obtain ⟨mA,⟨o,es,ep,g,hd⟩,h1,h2⟩:=x
  refine ⟨mA,⟨o,es,ep,e _ g,hd⟩,fun x d q=> ?_,h2⟩
  obtain ⟨v,a,b⟩:=h1 x d q
  exact ⟨v,a,V.move k l d v b⟩
end Mine
namespace Mine
open PySem PySem.Calls PyProof.Rows
structure Cx where
 prog:Program
 w:World
 h0:Heap
 mg:Str->Option Value
 mb:Str->Option Value
noncomputable abbrev Vars:=List (Str × D)
structure Fm (env:Env)(m:Vars)(fr K:List Addr)(h:Heap):Prop where
 kind:env.scope.kind=.function
 glob:env.globals=mainGlobals
 bui:env.builtins=builtinsNs
 ns:∃mv,h.Ns env.locals mv/\∀x d,m.lookup x=some d->env.kindOf x=some .local->∃v,mv x=some v/\V K h d v
 cell:∀x c,env.cells.lookup x=some c->∃ov,h.IsCell c ov/\∀d,m.lookup x=some d->(env.kindOf x=some .cell\/env.kindOf x=some .free)->∃v,ov=some v/\V K h d v
 has:∀x,(env.kindOf x=some .cell\/env.kindOf x=some .free)->∃c,env.cells.lookup x=some c
 inn:env.locals∈fr/\∀p∈env.cells,p.2∈fr
 apart:(env.cells.Pairwise fun x y=>x.2≠y.2)/\∀p∈env.cells,p.2≠env.locals
noncomputable def DictAt (h:Heap)(b:Addr):Prop:=∃o es n,h.get? b=some o/\o.data=.dict es n
structure Ok (c:Cx)(A:Around)(fr:List Addr)(σ:Sto)(h:Heap):Prop where
 base:c.h0.StaysIn h
 sto:∀p∈σ,IsO c.prog c.w (keys σ++fr) h p.1 p.2
 nd:(keys σ++fr).Nodup
 new:∀a∈keys σ++fr,c.h0.get? a=none
 live:∀a∈fr,∃o,h.get? a=some o
 stack:∃l,A.frames=some l/\h.FunFrames c.h0 l/\(∀b∈l.filterMap (·.frame),b∈fr)/\∀b∈l.filterMap (·.frame),DictAt h b
structure Post (F fr:List Addr)(σ:Sto)(s s':Shared)(σ':Sto):Prop where
 shape:∃h tk,s'={s with heap:=h,toks:=tk}
 kept:∀b o,b∉keys σ++fr->s.heap.get? b=some o->s'.heap.get? b=some o
 slots:∀b o,b∈fr->b∉F->s.heap.get? b=some o->∃sl,s'.heap.get? b=some {o with slots:=sl}/\((∀es n,o.data≠.dict es n)->sl=o.slots)
 alive:∀b o,s.heap.get? b=some o->∃o',s'.heap.get? b=some o'
 grow:∀a,a∈keys σ'->a∈keys σ\/s.heap.get? a=none
theorem Post.stay {F fr:List Addr}{σ σ':Sto}{s s':Shared}(p:Post F fr σ s s' σ'):Stay (keys σ++fr) s.heap s'.heap:=fun b o n e=>p.kept b o n e
theorem Post.less {F fr:List Addr}{σ σ':Sto}{s s':Shared}(p:Post F fr σ s s' σ'):Less (keys σ++fr) (keys σ'++fr) s.heap:=fun a m=>by
 rcases List.mem_append.mp m with q| q
 ·exact (p.grow a q).imp (List.mem_append_left _) id
 ·exact .inl (List.mem_append_right _ q)
theorem Post.v {F fr:List Addr}{σ σ':Sto}{s s':Shared}{d:D}{v:Value}(p:Post F fr σ s s' σ')(x:V (keys σ++fr) s.heap d v):V (keys σ'++fr) s'.heap d v:=V.move p.stay p.less d v x
theorem Post.vs {F fr:List Addr}{σ σ':Sto}{s s':Shared}{d:List D}{v:List Value}(p:Post F fr σ s s' σ')(x:Vs (keys σ++fr) s.heap d v):Vs (keys σ'++fr) s'.heap d v:=Vs.move p.stay p.less d v x
theorem Post.refl (F fr:List Addr)(σ:Sto)(s:Shared):Post F fr σ s s σ:=
 ⟨⟨s.heap,s.toks,rfl⟩,fun _ _ _ e=>e,fun _ o _ _ e=>⟨o.slots,e,fun _=>rfl⟩,fun _ o e=>⟨o,e⟩,fun _ m=>.inl m⟩
theorem Post.tok (F fr:List Addr)(σ:Sto)(s:Shared)(tk:Nat):Post F fr σ s {s with toks:=tk} σ:=
 ⟨⟨s.heap,tk,rfl⟩,fun _ _ _ e=>e,fun _ o _ _ e=>⟨o.slots,e,fun _=>rfl⟩,fun _ o e=>⟨o,e⟩,fun _ m=>.inl m⟩
theorem Post.trans {F fr:List Addr}{σ σ' σ'':Sto}{s s' s'':Shared}(p:Post F fr σ s s' σ')(q:Post F fr σ' s' s'' σ''):Post F fr σ s s'' σ'' where
 shape:=by obtain ⟨h,tk,rfl⟩:=p.shape;obtain ⟨h',tk',rfl⟩:=q.shape;exact ⟨h',tk',rfl⟩
 kept:=fun b o n e=>q.kept b o (p.less.nin n e) (p.kept b o n e)
 slots:=fun b o m n e=>by
  obtain ⟨sl,e1,r1⟩:=p.slots b o m n e
  obtain ⟨sl',e2,r2⟩:=q.slots b _ m n e1
  exact ⟨sl',e2,fun z=>(r2 z).trans (r1 z)⟩
 alive:=fun b o e=>by obtain ⟨o1,e1⟩:=p.alive b o e;exact q.alive b o1 e1
 grow:=fun a m=>by
  rcases q.grow a m with h| h
  ·exact p.grow a h
  ·refine .inr ?_
   cases e:s.heap.get? a with
   | none=>rfl
   | some o=>obtain ⟨o1,e1⟩:=p.alive a o e;replace h:=(e1 ..).symm.trans h;contradiction
theorem Post.wide {F F' fr:List Addr}{σ σ':Sto}{s s':Shared}(p:Post F fr σ s s' σ')(h:∀a∈F,a∈F'):Post F' fr σ s s' σ':=
 ⟨p.shape,p.kept,fun b o m n e=>p.slots b o m (fun q=>n (h b q)) e,p.alive,p.grow⟩
theorem Fm.move {env:Env}{m:Vars}{fr:List Addr}{σ σ':Sto}{s s':Shared}(f:Fm env m fr (keys σ++fr) s.heap)(p:Post [] fr σ s s' σ'):Fm env m fr (keys σ'++fr) s'.heap where
 kind:=f.kind
 glob:=f.glob
 bui:=f.bui
 ns:=by
  obtain ⟨mv,⟨o,es,ep,g,hd,hk,hf⟩,r⟩:=f.ns
  obtain ⟨sl,g',_⟩:=p.slots _ _ f.inn.1 (by simp) g
  exact ⟨mv,⟨_,es,ep,g',hd,hk,hf⟩,fun x d e k=>by obtain ⟨v,a,b⟩:=r x d e k;exact ⟨v,a,p.v b⟩⟩
 cell:=fun x c e=>by
  obtain ⟨ov,⟨o,g,hd⟩,r⟩:=f.cell x c e
  obtain ⟨sl,g',_⟩:=p.slots _ _ (f.inn.2 _ (mem_of_lookup e)) (by simp) g
  exact ⟨ov,⟨_,g',hd⟩,fun d e k=>by obtain ⟨v,a,b⟩:=r d e k;exact ⟨v,a,p.v b⟩⟩
 has:=f.has
 inn:=f.inn
 apart:=f.apart
noncomputable abbrev Fa (env:Env):List Addr:=env.locals::env.cells.map (·.2)
noncomputable abbrev Fo:Option Env->List Addr
 | none=>[]
 | some env=>Fa env
inductive Ex (c:Cx)(A:Around)(G:Option Env)(fr:List Addr)(σ:Sto)(s:Shared)(t:Bool)(X:Addr->Sto->Prop)(v:Value)(s':Shared):Prop
theorem none_back {F fr:List Addr}{σ σ':Sto}{s s':Shared}(p:Post F fr σ s s' σ'){a:Addr}(h:s'.heap.get? a=none):s.heap.get? a=none:=by
 cases e:s.heap.get? a with
 | none=>rfl
 | some o=>refine Exists.elim (p.alive a o e) fun o1 e1=> ?_;replace h:=(e1 ..).symm.trans h;contradiction
theorem Ex.back {c:Cx}{A:Around}{G:Option Env}{fr:List Addr}{σ σ':Sto}{s s' s'':Shared}{t:Bool}{X X':Addr->Sto->Prop}{v:Value}(p:Post (Fo G) fr σ s s' σ')(x:Ex c A G fr σ' s' t X v s'')(hX:∀C σ,X C σ->X' C σ):Ex c A G fr σ s t X' v s'':=nomatch x
inductive Po {α β:Type}(c:Cx)(A:Around)(G:Option Env)(fr:List Addr)(σ:Sto)(s:Shared)(R:List Addr->Heap->β->α->Prop)(Q:β->Sto->Prop)(a:α)(s':Shared):Prop
 | mk (b:β) (σ':Sto) (p:Post (Fo G) fr σ s s' σ') (ok:Ok c A fr σ' s'.heap) (r:R (keys σ'++fr) s'.heap b a) (q:Q b σ'):Po c A G fr σ s R Q a s'
theorem Po.back {α β:Type}{c:Cx}{A:Around}{G:Option Env}{fr:List Addr}{σ σ1:Sto}{s s1:Shared}{R:List Addr->Heap->β->α->Prop}{Q:β->Sto->Prop}{a:α}{s':Shared}(p:Post (Fo G) fr σ s s1 σ1)(x:Po c A G fr σ1 s1 R Q a s'):Po c A G fr σ s R Q a s':=by
 obtain ⟨b,σ2,p2,ok,r,q⟩:=x
 exact ⟨b,σ2,p.trans p2,ok,r,q⟩
noncomputable def W {α β:Type}(c:Cx)(A:Around)(G:Option Env)(fr:List Addr)(σ:Sto)(t:Sem α)(R:List Addr->Heap->β->α->Prop)(Q:β->Sto->Prop)(X:Addr->Sto->Prop)(s:Shared):Prop:=
 wpAny (model c.prog c.w) A t (Po c A G fr σ s R Q) (Ex c A G fr σ s false X) s
noncomputable def WE (c:Cx)(A:Around)(fr:List Addr)(env:Env)(m:Vars)(σ:Sto)(e:Expr)(Q:D->Sto->Prop)(X:Addr->Sto->Prop):Prop:=
 ∀s,Ok c A fr σ s.heap->Fm env m fr (keys σ++fr) s.heap->W c A none fr σ (eval e env) V Q X s
section
variable {c:Cx} {A:Around} {G:Option Env} {fr:List Addr} {σ:Sto} {X:Addr->Sto->Prop} {env:Env} {m:Vars}
theorem W.mono {α β:Type}{t:Sem α}{R:List Addr->Heap->β->α->Prop}{Q Q':β->Sto->Prop}{X':Addr->Sto->Prop}{s:Shared}(h:W c A G fr σ t R Q X s)(hQ:∀b σ,Q b σ->Q' b σ)(hX:∀C σ,X C σ->X' C σ):W c A G fr σ t R Q' X' s:=
 wpAny_mono h (fun _ _ z=>by cases z with| mk b σ' p ok r q=>exact ⟨b,σ',p,ok,r,hQ _ _ q⟩) fun _ _ x=>Ex.back (Post.refl ..) x hX
theorem W.bind {α β α' β':Type}{t:Sem α}{k:α->Sem α'}{R:List Addr->Heap->β->α->Prop}{R':List Addr->Heap->β'->α'->Prop}{Q:β'->Sto->Prop}{s:Shared}
  (h:W c A G fr σ t R (fun b σ'=>∀a s',Post (Fo G) fr σ s s' σ'->Ok c A fr σ' s'.heap->R (keys σ'++fr) s'.heap b a->W c A G fr σ' (k a) R' Q X s') X s):W c A G fr σ (t>>=k) R' Q X s:=by
 refine wpAny_bind (wpAny_mono h (fun a s' hz=> ?_) fun _ _ x=>x)
 obtain ⟨b,σ',p,ok,r,q⟩:=hz
 refine wpAny_mono (q a s' p ok r) (fun _ _ z=>z.back p) fun _ _ x=>Ex.back p x fun _ _ y=>y
theorem W.pure {α β:Type}{a:α}{b:β}{R:List Addr->Heap->β->α->Prop}{Q:β->Sto->Prop}{s:Shared}(ok:Ok c A fr σ s.heap)(r:R (keys σ++fr) s.heap b a)(q:Q b σ):W c A G fr σ (Pure.pure a) R Q X s:=
 wpAny_pure ⟨b,σ,Post.refl ..,ok,r,q⟩
theorem W.standAt {β:Type}{α:Type}{pos:Pos}{k:Sem α}{R:List Addr->Heap->β->α->Prop}{Q:β->Sto->Prop}{s:Shared}(h:W c A G fr σ k R Q X s):W c A G fr σ (PySem.standAt pos>>=fun _=>k) R Q X s:=
 wpAny_bind (wpAny_standAt h)
theorem W.holding {β:Type}{α:Type}{vs:List Value}{k:Sem α}{R:List Addr->Heap->β->α->Prop}{Q:β->Sto->Prop}{s:Shared}(h:W c A G fr σ k R Q X s):W c A G fr σ (PySem.holding vs k) R Q X s:=
 wpAny_holding h
end
theorem FunFrames.stays {c:Cx}{h h':Heap}{l:List Env}{fr:List Addr}(hk:∀b o,b∈fr->h.get? b=some o->∃sl,h'.get? b=some {o with slots:=sl})(hl:h.FunFrames c.h0 l)(hin:∀b∈l.filterMap (·.frame),b∈fr):h'.FunFrames c.h0 l:=by
 induction l with
 | nil=>trivial
 | cons env rest ih=>
  obtain ⟨hk1,⟨L,o,hf,hn,ho,hd⟩,hr⟩:=hl
  obtain ⟨sl,e⟩:=hk L o (hin L (by simp [hf])) ho
  exact ⟨hk1,⟨L,_,hf,hn,e,hd⟩,ih hr fun b hb=>hin b (by simp only [List.filterMap_cons,hf];exact List.mem_cons_of_mem _ hb)⟩
theorem Ok.keeps {c:Cx}{A:Around}{fr:List Addr}{σ:Sto}{h h':Heap}(ok:Ok c A fr σ h)(k:∀b o,h.get? b=some o->h'.get? b=some o):Ok c A fr σ h' where
 base:=fun b o e=>k b o (ok.base b o e)
 sto:=fun p hp=>IsO.move (fun b o _ e=>k b o e) (fun a m=>.inl m) (fun x e=>k _ x e) (ok.sto p hp)
 nd:=ok.nd
 new:=ok.new
 live:=fun a ha=>by obtain ⟨o,e⟩:=ok.live a ha;exact ⟨o,k _ _ e⟩
 stack:=by
  obtain ⟨l,a,b,d,f⟩:=ok.stack
  exact ⟨l,a,FunFrames.stays (fun b o _ e=>⟨o.slots,k b o e⟩) b d,d,fun x hx=>by obtain ⟨o,es,n,g,r⟩:=f x hx;exact ⟨o,es,n,k _ _ g,r⟩⟩
theorem Post.keeps {F fr:List Addr}{σ:Sto}{s:Shared}{h:Heap}{tk:Nat}(k:∀b o,s.heap.get? b=some o->h.get? b=some o):Post F fr σ s {s with heap:=h,toks:=tk} σ:=
 ⟨⟨h,tk,rfl⟩,fun b o _ e=>k b o e,fun b o _ _ e=>⟨o.slots,k b o e,fun _=>rfl⟩,fun b o e=>⟨o,k b o e⟩,fun _ m=>.inl m⟩
end Mine
namespace Mine
open PySem PySem.Calls PyProof.Rows
section
variable {c:Cx} {A:Around} {G:Option Env} {fr:List Addr} {σ:Sto} {X:Addr->Sto->Prop} {env:Env} {m:Vars} {Q:D->Sto->Prop}
theorem wpAny_release {M:Model}{A:Around}{E:Value->Shared->Prop}{s:Shared}{vs keep:List Value}{Q:Unit->Shared->Prop}(h:Q () s):wpAny M A (release vs keep) Q E s:=fun Γ p hΓ=>by
 unfold release
 rw [Sem.wp_release_go];exact h
theorem W.operate {β:Type}{vs:List Value}{t:Sem Value}{R:List Addr->Heap->β->Value->Prop}{Q:β->Sto->Prop}{s:Shared}(h:W c A G fr σ t R Q X s):W c A G fr σ (PySem.operate vs t) R Q X s:=by
 exact wpAny_bind (wpAny_holding (wpAny_mono h (fun a s' q=>wpAny_bind (wpAny_release (wpAny_pure q))) fun _ _ x=>x))
theorem WE.kInt {i:Int}{k:Nat}{pos:Pos}(h:Q (.int i) σ):WE c A fr env m σ (.Constant (.int i) k pos) Q X:=fun s ok fm=>
 wpAny_Constant_int ⟨.int i,σ,Post.tok ..,ok,by exact ⟨_,rfl⟩,h⟩
theorem WE.kStr {x:Str}{k:Nat}{pos:Pos}(h:Q (.str x) σ):WE c A fr env m σ (.Constant (.str x) k pos) Q X:=fun s ok fm=>
 Constant_str ⟨.str x,σ,Post.tok ..,ok,by exact ⟨_,rfl⟩,h⟩
theorem WE.kBool {b:Bool}{k:Nat}{pos:Pos}(h:Q (.bool b) σ):WE c A fr env m σ (.Constant (.bool b) k pos) Q X:=fun s ok fm=>
 wpAny_pure ⟨.bool b,σ,Post.refl ..,ok,by rfl,h⟩
theorem WE.kNone {k:Nat}{pos:Pos}(h:Q .none σ):WE c A fr env m σ (.Constant .none k pos) Q X:=fun s ok fm=>
 wpAny_pure ⟨.none,σ,Post.refl ..,ok,by rfl,h⟩
theorem WE.mono {e:Expr}{Q':D->Sto->Prop}{X':Addr->Sto->Prop}(h:WE c A fr env m σ e Q X)(hQ:∀d σ,Q d σ->Q' d σ)(hX:∀C σ,X C σ->X' C σ):WE c A fr env m σ e Q' X':=
 fun s ok fm=>(h s ok fm).mono hQ hX
theorem WE.nLocal {x:Str}{pos:Pos}{d:D}(hv:m.lookup x=some d)(hk:env.kindOf x=some .local)(h:Q d σ)(hd:(x==("__debug__":Str))=false:=by decide):WE c A fr env m σ (.Name x pos) Q X:=fun s ok fm=>by
 obtain ⟨mv,hn,r⟩:=fm.ns
 obtain ⟨v,e,hV⟩:=r x d hv hk
 exact wpAny_Name (wpAny_loadName_local fm.kind hk hn e ⟨d,σ,Post.refl ..,ok,hV,h⟩) hd
theorem WE.nCell {x:Str}{pos:Pos}{d:D}(hv:m.lookup x=some d)(hk:env.kindOf x=some .cell)(h:Q d σ)(hd:(x==("__debug__":Str))=false:=by decide):WE c A fr env m σ (.Name x pos) Q X:=fun s ok fm=>by
 obtain ⟨cc,hc⟩:=fm.has x (.inl hk)
 obtain ⟨ov,hcell,r⟩:=fm.cell x cc hc
 obtain ⟨v,rfl,hV⟩:=r d hv (.inl hk)
 exact wpAny_Name (wpAny_loadName_cell fm.kind hk hc hcell ⟨d,σ,Post.refl ..,ok,hV,h⟩) hd
theorem WE.nFree {x:Str}{pos:Pos}{d:D}(hv:m.lookup x=some d)(hk:env.kindOf x=some .free)(h:Q d σ)(hd:(x==("__debug__":Str))=false:=by decide)(hn:(x==("__classdict__":Str))=false:=by decide):WE c A fr env m σ (.Name x pos) Q X:=fun s ok fm=>by
 obtain ⟨cc,hc⟩:=fm.has x (.inr hk)
 obtain ⟨ov,hcell,r⟩:=fm.cell x cc hc
 obtain ⟨v,rfl,hV⟩:=r d hv (.inr hk)
 exact wpAny_Name (wpAny_loadName_free fm.kind hk hc hcell ⟨d,σ,Post.refl ..,ok,hV,h⟩ hn) hd
noncomputable def WB (c:Cx)(A:Around)(fr:List Addr)(σ:Sto)(t:Value->Value->Sem Value)(d1 d2:D)(Q:D->Sto->Prop)(X:Addr->Sto->Prop):Prop:=
 ∀v1 v2 s,Ok c A fr σ s.heap->V (keys σ++fr) s.heap d1 v1->V (keys σ++fr) s.heap d2 v2->W c A none fr σ (t v1 v2) V Q X s
noncomputable def WU (c:Cx)(A:Around)(fr:List Addr)(σ:Sto)(t:Value->Sem Value)(d1:D)(Q:D->Sto->Prop)(X:Addr->Sto->Prop):Prop:=
 ∀v1 s,Ok c A fr σ s.heap->V (keys σ++fr) s.heap d1 v1->W c A none fr σ (t v1) V Q X s
theorem WE.binop {l r:Expr}{op:Operator}{pos:Pos}(h:WE c A fr env m σ l (fun d1 σ1=>WE c A fr env m σ1 r (fun d2 σ2=>WB c A fr σ2 (binaryOp op) d1 d2 Q X) X) X):WE c A fr env m σ (.BinOp l op r pos) Q X:=fun s ok fm=>by
 refine W.bind (W.mono (h s ok fm) (fun d1 σ1 q1 a s1 p1 ok1 x1=> ?_) fun _ _ y=>y)
 refine W.bind (W.holding (W.mono (q1 s1 ok1 (fm.move p1)) (fun d2 σ2 q2 b s2 p2 ok2 x2=> ?_) fun _ _ y=>y))
 exact W.standAt (W.operate (q2 a b s2 ok2 (p2.v x1) x2))
theorem WE.compare {l r:Expr}{op:CmpOp}{pos:Pos}(h:WE c A fr env m σ l (fun d1 σ1=>WE c A fr env m σ1 r (fun d2 σ2=>WB c A fr σ2 (compareOp op) d1 d2 Q X) X) X)(hb:behindInMarks op r=false:=by rfl):
  WE c A fr env m σ (.Compare l [op] [r] pos) Q X:=fun s ok fm=>by
 rw [eval_Compare1,markedBehindIn_of_false hb]
 refine W.bind (W.mono (h s ok fm) (fun d1 σ1 q1 a s1 p1 ok1 x1=> ?_) fun _ _ y=>y)
 refine W.bind (W.holding (W.mono (q1 s1 ok1 (fm.move p1)) (fun d2 σ2 q2 b s2 p2 ok2 x2=> ?_) fun _ _ y=>y))
 exact W.standAt (W.operate (q2 a b s2 ok2 (p2.v x1) x2))
theorem WE.unary {x:Expr}{op:UnaryOp}{pos:Pos}(h:WE c A fr env m σ x (fun d1 σ1=>WU c A fr σ1 (unaryOp op) d1 Q X) X):WE c A fr env m σ (.UnaryOp op x pos) Q X:=fun s ok fm=>by
 refine W.bind (W.mono (h s ok fm) (fun d1 σ1 q1 a s1 p1 ok1 x1=> ?_) fun _ _ y=>y)
 exact W.standAt (W.holding (q1 a s1 ok1 x1))
end
end Mine
namespace Mine
open PySem PySem.Calls PyProof.Rows
theorem FunFrames.turn {c:Cx}{h h':Heap}{l:List Env}{fr:List Addr}(hk:∀b o,b∈fr->h.get? b=some o->(∀vs,o.data≠.fields vs)->∃o',h'.get? b=some o'/\∀vs,o'.data≠.fields vs)(hl:h.FunFrames c.h0 l)(hin:∀b∈l.filterMap (·.frame),b∈fr):h'.FunFrames c.h0 l:=by
 induction l with
 | nil=>trivial
 | cons env rest ih=>
  obtain ⟨hk1,⟨L,o,hf,hn,ho,hd⟩,hr⟩:=hl
  obtain ⟨o',e,hd'⟩:=hk L o (hin L (by simp [hf])) ho hd
  exact ⟨hk1,⟨L,_,hf,hn,e,hd'⟩,ih hr fun b hb=>hin b (by simp only [List.filterMap_cons,hf];exact List.mem_cons_of_mem _ hb)⟩
theorem Ok.turn {c:Cx}{A:Around}{fr:List Addr}{σ:Sto}{h h':Heap}{a:Addr}{oa:Obj}(ok:Ok c A fr σ h)(ha:a∈fr)(sb:Heap.SameBut a h h')(e:h'.get? a=some oa)(hd:∀vs,oa.data≠.fields vs)(hdd:DictAt h a->DictAt h' a):Ok c A fr σ h' where
 base:=fun b o e=>(sb.2 b fun q=>by simp only [q,ok.new a (List.mem_append_right _ ha)] at e;contradiction).trans (ok.base b o e)
 sto:=fun p hp=>IsO.move (fun b o n e=>(sb.2 b fun q=>n (q▸List.mem_append_right _ ha)).trans e) (fun a m=>.inl m) (fun x e=>(sb.2 _ fun q=>by
  have:=ok.nd
  rw [List.nodup_append] at this
  exact this.2.2 _ (List.mem_map_of_mem hp) _ ha q).trans e) (ok.sto p hp)
 nd:=ok.nd
 new:=ok.new
 live:=fun b hb=>by
  by_cases q:b=a
  ·subst q;exact ⟨_,e⟩
  ·obtain ⟨o,x⟩:=ok.live b hb;exact ⟨o,(sb.2 b q).trans x⟩
 stack:=by
  obtain ⟨l,x,y,z,zd⟩:=ok.stack
  refine ⟨l,x,FunFrames.turn (fun b o _ g k=> ?_) y z,z,fun b hb=> ?_⟩
  ·by_cases q:b=a
   ·subst q;exact ⟨_,e,hd⟩
   ·exact ⟨o,(sb.2 b q).trans g,k⟩
  ·by_cases q:b=a
   ·subst q;exact hdd (zd _ hb)
   ·obtain ⟨o,es,n,g,r⟩:=zd b hb;exact ⟨o,es,n,(sb.2 b q).trans g,r⟩
theorem Post.turn {env:Env}{fr:List Addr}{σ:Sto}{s:Shared}{h':Heap}{tk:Nat}{a:Addr}{oa:Obj}(ha:a∈Fa env)(hi:∀b∈Fa env,b∈fr)(sb:Heap.SameBut a s.heap h')(e:h'.get? a=some oa):Post (Fa env) fr σ s {s with heap:=h',toks:=tk} σ:=
 ⟨⟨h',tk,rfl⟩,fun b o n g=>(sb.2 b fun q=>n (q▸List.mem_append_right _ (hi _ ha))).trans g,fun b o _ n g=>⟨o.slots,(sb.2 b fun q=>n (q▸ha)).trans g,fun _=>rfl⟩,
  fun b o g=>by
   by_cases q:b=a
   ·subst q;exact ⟨_,e⟩
   ·exact ⟨o,(sb.2 b q).trans g⟩,fun _ m=>.inl m⟩
theorem Fm.fa {env:Env}{m:Vars}{fr K:List Addr}{h:Heap}(f:Fm env m fr K h):∀b∈Fa env,b∈fr:=fun b hb=>by
 rcases List.mem_cons.mp hb with rfl| hb
 ·exact f.inn.1
 ·obtain ⟨p,hp,rfl⟩:=List.mem_map.mp hb;exact f.inn.2 p hp
theorem lookup_cons_eq {x y:Str}{d:D}{m:Vars}:List.lookup y ((x,d)::m)=if y=x then some d else m.lookup y:=by
 dsimp only [List.lookup_cons]
 by_cases h:y=x
 ·subst h;simp
 ·have:(y==x)=false:=by simpa using h
  simp only [this,if_neg h]
theorem Fm.storeL {env:Env}{m:Vars}{fr K:List Addr}{h h':Heap}{x:Str}{d:D}{v:Value}{mv:Str->Option Value}(f:Fm env m fr K h)(hK:∀b∈fr,b∈K)(hmv:∀x d,m.lookup x=some d->env.kindOf x=some .local->∃v,mv x=some v/\V K h d v)
  (hn:h'.Ns env.locals (fun y=>if y=x then some v else mv y)) (sb:Heap.SameBut env.locals h h') (hV:V K h d v) (hk:env.kindOf x=some .local):Fm env ((x,d)::m) fr K h':=by
 have st:Stay K h h':=fun b o n e=>(sb.2 b fun q=>n (q▸hK _ f.inn.1)).trans e
 have ls:Less K K h:=fun a m=>.inl m
 exact {
  kind:=f.kind
  glob:=f.glob
  bui:=f.bui
  ns:=⟨_,hn,fun y d' e k=>by
   replace e:=(lookup_cons_eq ..).symm.trans e
   by_cases q:y=x
   ·replace e:=(if_pos q ..).symm.trans e;obtain rfl:=Option.some.inj e;exact ⟨v,by simp [q],V.move st ls _ _ hV⟩
   ·rw [if_neg q] at e
    obtain ⟨u,a,b⟩:=hmv y d' e k
    exact ⟨u,by simp [q,a],V.move st ls _ _ b⟩⟩
  cell:=fun y cc e=>by
   obtain ⟨ov,hc,r⟩:=f.cell y cc e
   refine ⟨ov,hc.sameBut sb (f.apart.2 _ (mem_of_lookup e)),fun d' e' k=> ?_⟩
   rw [lookup_cons_eq] at e'
   by_cases q:y=x
   ·subst q;rw [hk] at k;rcases k with k| k<;>contradiction
   ·rw [if_neg q] at e'
    obtain ⟨u,a,b⟩:=r d' e' k
    exact ⟨u,a,V.move st ls _ _ b⟩
  has:=f.has
  inn:=f.inn
  apart:=f.apart}
theorem Fm.storeC {env:Env}{m:Vars}{fr K:List Addr}{h h':Heap}{x:Str}{d:D}{v:Value}{cc:Addr}(f:Fm env m fr K h)(hK:∀b∈fr,b∈K)(hcc:env.cells.lookup x=some cc)
  (hn:h'.IsCell cc (some v)) (sb:Heap.SameBut cc h h') (hV:V K h d v) (hk:env.kindOf x=some .cell):Fm env ((x,d)::m) fr K h':=by
 have hin:=mem_of_lookup hcc
 have st:Stay K h h':=fun b o n e=>(sb.2 b fun q=>n (q▸hK _ (f.inn.2 _ hin))).trans e
 have ls:Less K K h:=fun a m=>.inl m
 exact {
  kind:=f.kind
  glob:=f.glob
  bui:=f.bui
  ns:=by
   obtain ⟨mv,hns,r⟩:=f.ns
   refine ⟨mv,hns.sameBut sb (Ne.symm (f.apart.2 _ hin)),fun y d' e k=> ?_⟩
   rw [lookup_cons_eq] at e
   by_cases q:y=x
   ·subst q;replace k:=(hk ..).symm.trans k;contradiction
   ·rw [if_neg q] at e
    obtain ⟨u,a,b⟩:=r y d' e k
    exact ⟨u,a,V.move st ls _ _ b⟩
  cell:=fun y c' e=>by
   by_cases q:y=x
   ·subst q
    replace e:=(hcc ..).symm.trans e;obtain rfl:=Option.some.inj e
    refine ⟨some v,hn,fun d' e' k=> ?_⟩
    rw [lookup_cons_eq,if_pos rfl] at e'
    obtain rfl:=Option.some.inj e'
    exact ⟨v,rfl,V.move st ls _ _ hV⟩
   ·obtain ⟨ov,hc,r⟩:=f.cell y c' e
    refine ⟨ov,hc.sameBut sb fun z=>q (name_of_addr f.apart.1 (mem_of_lookup e) (z▸hin)),fun d' e' k=> ?_⟩
    rw [lookup_cons_eq,if_neg q] at e'
    obtain ⟨u,a,b⟩:=r d' e' k
    exact ⟨u,a,V.move st ls _ _ b⟩
  has:=f.has
  inn:=f.inn
  apart:=f.apart}
section
variable {c:Cx} {A:Around} {fr:List Addr} {σ:Sto} {X:Addr->Sto->Prop} {env:Env} {m:Vars}
theorem W.store {x:Str}{d:D}{v:Value}{s:Shared}(ok:Ok c A fr σ s.heap)(f:Fm env m fr (keys σ++fr) s.heap)(hV:V (keys σ++fr) s.heap d v)(hk:env.kindOf x=some .local\/env.kindOf x=some .cell):
  W c A (some env) fr σ (storeName env x v) (fun K h (_:Unit) _=>Fm env ((x,d)::m) fr K h) (fun _ σ'=>σ'=σ) X s:=by
 have hK:∀b∈fr,b∈keys σ++fr:=fun b hb=>List.mem_append_right _ hb
 rcases hk with hk| hk
 ·obtain ⟨mv,hn,r⟩:=f.ns
  refine wpAny_storeName_local hk hn (fun h' hn' sb=> ?_) (by rw [f.kind];rfl)
  obtain ⟨o,es,ep,e,hd,_⟩:=id hn'
  refine ⟨(),σ,Post.turn (List.mem_cons_self) f.fa sb e,ok.turn f.inn.1 sb e (fun vs=>by rw [hd];intro q;contradiction) (fun _=>⟨o,es,ep,e,hd⟩),?_,rfl⟩
  exact f.storeL hK r hn' sb hV hk
 ·obtain ⟨cc,hcc⟩:=f.has x (.inl hk)
  obtain ⟨ov,hc,_⟩:=f.cell x cc hcc
  refine wpAny_storeName_cell f.kind hk hcc hc fun h' hc' sb=> ?_
  obtain ⟨o,e,hd⟩:=id hc'
  have hin:=mem_of_lookup hcc
  refine ⟨(),σ,Post.turn (tk:=s.toks) (List.mem_cons_of_mem _ (List.mem_map_of_mem (f:=(·.2)) hin)) f.fa sb e,ok.turn (f.inn.2 _ hin) sb e (fun vs=>by rw [hd];intro q;contradiction) (fun z=>by
   obtain ⟨o1,es,n,g1,d1⟩:=z
   obtain ⟨o2,g2,d2⟩:=hc
   replace g2:=(g1 ..).symm.trans g2;obtain rfl:=Option.some.inj g2;replace d2:=(d1 ..).symm.trans d2;contradiction),?_,rfl⟩
  exact f.storeC hK hcc hc' sb hV hk
inductive Out where
 | next (m:Vars)
 | ret (d:D)
noncomputable def RO (env:Env)(fr:List Addr)(K:List Addr)(h:Heap):Out->Flow->Prop
 | .next m',fl=>fl=.next/\Fm env m' fr K h
 | .ret d,fl=>∃v,fl=.ret v/\V K h d v/\Fm env [] fr K h
noncomputable def QO (N:Vars->Sto->Prop)(R:D->Sto->Prop):Out->Sto->Prop
 | .next m',σ=>N m' σ
 | .ret d,σ=>R d σ
noncomputable def W1 (c:Cx)(A:Around)(fr:List Addr)(env:Env)(m:Vars)(σ:Sto)(st:Stmt)(N:Vars->Sto->Prop)(R:D->Sto->Prop)(X:Addr->Sto->Prop):Prop:=
 ∀s,Ok c A fr σ s.heap->Fm env m fr (keys σ++fr) s.heap->W c A (some env) fr σ (exec st env) (RO env fr) (QO N R) X s
noncomputable def WS (c:Cx)(A:Around)(fr:List Addr)(env:Env)(m:Vars)(σ:Sto)(ss:List Stmt)(N:Vars->Sto->Prop)(R:D->Sto->Prop)(X:Addr->Sto->Prop):Prop:=
 ∀s,Ok c A fr σ s.heap->Fm env m fr (keys σ++fr) s.heap->W c A (some env) fr σ (execs ss env) (RO env fr) (QO N R) X s
variable {N:Vars->Sto->Prop} {R:D->Sto->Prop}
theorem WS.nil (h:N m σ):WS c A fr env m σ [] N R X:=fun s ok fm=>wpAny_execs_nil ⟨.next m,σ,Post.refl ..,ok,⟨rfl,fm⟩,h⟩
theorem WS.cons {st:Stmt}{rest:List Stmt}(h:W1 c A fr env m σ st (fun m' σ'=>WS c A fr env m' σ' rest N R X) R X):WS c A fr env m σ (st::rest) N R X:=fun s ok fm=>by
 refine W.bind (W.mono (h s ok fm) (fun o σ1 q1 a s1 p1 ok1 x1=> ?_) fun _ _ y=>y)
 cases o with
 | next m1=>obtain ⟨rfl,fm1⟩:=x1;exact q1 s1 ok1 fm1
 | ret d=>obtain ⟨v,rfl,hv⟩:=x1;exact W.pure (b:=Out.ret d) ok1 ⟨v,rfl,hv⟩ q1
theorem Fm.forget {env:Env}{m:Vars}{fr K:List Addr}{h:Heap}(f:Fm env m fr K h):Fm env [] fr K h where
 kind:=f.kind
 glob:=f.glob
 bui:=f.bui
 ns:=by obtain ⟨mv,hn,_⟩:=f.ns;exact ⟨mv,hn,fun x d e=>by contradiction⟩
 cell:=fun x cc e=>by obtain ⟨ov,h,_⟩:=f.cell x cc e;exact ⟨ov,h,fun d e=>by contradiction⟩
 has:=f.has
 inn:=f.inn
 apart:=f.apart
theorem Ex.wide {v:Value}{s s':Shared}{t:Bool}(fm:Fm env m fr (keys σ++fr) s.heap)(x:Ex c A none fr σ s t X v s'):Ex c A (some env) fr σ s t X v s':=nomatch x
theorem W.bindE {α β α' β':Type}{t:Sem α}{k:α->Sem α'}{R:List Addr->Heap->β->α->Prop}{R':List Addr->Heap->β'->α'->Prop}{Q:β'->Sto->Prop}{s:Shared}(fm:Fm env m fr (keys σ++fr) s.heap)
  (h:W c A none fr σ t R (fun b σ'=>∀a s',Fm env m fr (keys σ'++fr) s'.heap->Post [] fr σ s s' σ'->Ok c A fr σ' s'.heap->R (keys σ'++fr) s'.heap b a->W c A (some env) fr σ' (k a) R' Q X s') X s):W c A (some env) fr σ (t>>=k) R' Q X s:=by
 refine wpAny_bind (wpAny_mono h (fun a s' hz=> ?_) fun _ _ x=>x.wide fm)
 obtain ⟨b,σ',p,ok,r,q⟩:=hz
 refine wpAny_mono (q a s' (fm.move p) p ok r) (fun _ _ z=>z.back (p.wide (by simp))) fun _ _ x=>Ex.back (p.wide (by simp)) x fun _ _ y=>y
theorem W1.ret {e:Expr}{pos:Pos}(h:WE c A fr env m σ e R X):W1 c A fr env m σ (.Return (some e) pos) N R X:=fun s ok fm=>by
 refine W.standAt (W.bindE fm (W.mono (h s ok fm) (fun d σ1 q1 a s1 fm1 p1 ok1 x1=> ?_) fun _ _ y=>y))
 exact W.pure (b:=Out.ret d) ok1 ⟨a,rfl,x1,fm1.forget⟩ q1
theorem W1.assign {x:Str}{pos' pos:Pos}{value:Expr}(h:WE c A fr env m σ value (fun d σ'=>N ((x,d)::m) σ') X)(hk:env.kindOf x=some .local\/env.kindOf x=some .cell)
  (hs:swapsWith value (some (.Name x pos')) pos.line env=pure false):W1 c A fr env m σ (.Assign [.Name x pos'] value pos) N R X:=fun s ok fm=>by
 rw [exec_Assign_Name (hs:=hs)]
 refine W.standAt (W.bindE fm (W.mono (h s ok fm) (fun d σ1 q1 a s1 fm1 p1 ok1 x1=> ?_) fun _ _ y=>y))
 refine W.standAt (W.bind (R:=fun K h (_:Unit) _=>Fm env ((x,d)::m) fr K h) (wpAny_bindName (W.mono (W.store ok1 fm1 x1 hk) (fun _ σ2 q2 _ s2 p2 ok2 x2=> ?_) fun _ _ y=>y)))
 subst q2;exact W.pure (b:=Out.next _) ok2 ⟨rfl,x2⟩ q1
end
end Mine
namespace Mine
open PySem PySem.Calls PyProof.Rows
end Mine
namespace Mine
open PySem PySem.Calls PyProof.Rows
noncomputable def Room' (n:Nat)(A:Around):Prop:=A.depth+n<990/\A.units+10*n<9800
noncomputable def Room (n:Nat)(A:Around):Prop:=Room' n A/\A.handled=none
theorem Room'.deeper {n:Nat}{A:Around}{env:Env}(r:Room' (n+1) A):Room' n (A.deeper env):=by
 exact z616 r.1 r.2
theorem Room.deeper {n:Nat}{A:Around}{env:Env}(r:Room (n+1) A):Room n (A.deeper env):=⟨r.1.deeper,r.2⟩
theorem Room.less {n k:Nat}{A:Around}(r:Room (n+k) A):Room n A:=⟨by have:=r.1;exact z617 this.1 this.2,r.2⟩
structure Fn (c:Cx)(f:Addr)(ps:List Str)(body:List Stmt)(scope:Scope):Prop where
 at_:∃o fd,c.h0.get? f=some o/\o.data=.func fd/\fd.body=.stmts body/\fd.scope=scope/\fd.closure=[]/\fd.globals=mainGlobals/\fd.builtins=builtinsNs/\c.h0.CodeRec fd.code fd.qualname/\
  ∀vals:List Value,vals.length=ps.length->bindArgs fd ⟨vals,[]⟩=pure (ps.zip vals)
 nolimit:c.h0.NoLimit
 nd:ps.Nodup
 kinds:∀x∈ps,scope.names.lookup x=some .local\/scope.names.lookup x=some .cell
 cells:((cellsFrom 0 scope.names []).map (·.1)).Nodup
 nofree:∀x,scope.names.lookup x≠some .free
 kind:scope.kind=.function
 co:scope.isCoroutine=false
 gen:scope.isGenerator=false
noncomputable def WC (c:Cx)(P:Around->Prop)(f:Value)(ds:List D)(σ:Sto)(Q:D->Sto->Prop)(X:Addr->Sto->Prop):Prop:=
 ∀A fr s vals,P A->Ok c A fr σ s.heap->Vs (keys σ++fr) s.heap ds vals->W c A none fr σ (call f vals) V Q X s
theorem bindL_nin {k:Str->Option NameKind}{x:Str}:∀{b:List (Str × Value)} {m:Str->Option Value},x∉b.map (·.1)->bindL k b m x=m x
 | [],m,_=>rfl
 | (n,v)::r,m,h=>by
  rw [List.map_cons,List.mem_cons,not_or] at h
  unfold bindL
  rw [bindL_nin h.2]
  split
  ·exact if_neg h.1
  ·rfl
theorem bindC_nin {k:Str->Option NameKind}{x:Str}:∀{b:List (Str × Value)} {m:Str->Option Value},x∉b.map (·.1)->bindC k b m x=m x
 | [],m,_=>rfl
 | (n,v)::r,m,h=>by
  rw [List.map_cons,List.mem_cons,not_or] at h
  unfold bindC
  rw [bindC_nin h.2]
  split
  ·rfl
  ·exact if_neg h.1
theorem zip_fst {ps:List Str}{vs:List Value}(h:vs.length=ps.length):(ps.zip vs).map (·.1)=ps:=by
 exact (List.map_fst_zip (z29 h) ..)
theorem bound {K:List Addr}{h:Heap}{k:Str->Option NameKind}{x:Str}{d:D}:∀{ps:List Str} {ds:List D} {vs:List Value} {m cm:Str->Option Value},ps.Nodup->ds.length=ps.length->Vs K h ds vs->(ps.zip ds).lookup x=some d->
  (k x=some .local->∃v,bindL k (ps.zip vs) m x=some v/\V K h d v)/\(k x≠some .local->∃v,bindC k (ps.zip vs) cm x=some v/\V K h d v)
 | [],_,_,_,_,_,_,_,e=>by contradiction
 | p::ps,[],_,_,_,_,e,_,_=>by contradiction
 | p::ps,d'::ds,vs,m,cm,nd,hl,hv,e=>by
  obtain ⟨v,r,rfl,p1,p2⟩:=hv
  simp only [List.zip_cons_cons] at e⊢
  replace e:=(lookup_cons_eq ..).symm.trans e
  unfold bindL bindC
  by_cases q:x=p
  ·replace e:=(if_pos q ..).symm.trans e;obtain rfl:=Option.some.inj e
   subst q
   have hn:x∉(ps.zip r).map (·.1):=by rw [zip_fst (by rw [p2.length];simpa using hl)];exact (List.nodup_cons.mp nd).1
   rw [bindL_nin hn,bindC_nin hn]
   exact ⟨fun z=>⟨v,by rw [if_pos z];simp,p1⟩,fun z=>⟨v,by rw [if_neg z];simp,p1⟩⟩
  ·rw [if_neg q] at e
   exact bound (List.nodup_cons.mp nd).2 (by simpa using hl) p2 e
theorem cellsFrom_names:∀(names:List (Str × NameKind)) (n n':Nat) (acc acc':List (Str × Addr)),acc.map (·.1)=acc'.map (·.1)->(cellsFrom n names acc).map (·.1)=(cellsFrom n' names acc').map (·.1)
 | [],_,_,_,_,h=>h
 | (x,k)::r,n,n',acc,acc',h=>by
  unfold cellsFrom
  split
  ·exact cellsFrom_names r _ _ _ _ (by simp [h])
  ·exact cellsFrom_names r _ _ _ _ h
theorem lookup_isSome_of_cell {x:Str}:∀(names:List (Str × NameKind)) (n:Nat) (acc:List (Str × Addr)),names.lookup x=some .cell\/(acc.lookup x).isSome=true->((cellsFrom n names acc).lookup x).isSome=true
 | [],_,_,h=>h.elim (fun e=>by contradiction) id
 | (y,k)::r,n,acc,h=>by
  unfold cellsFrom
  by_cases hk:(k==.cell)=true
  ·rw [if_pos hk]
   refine lookup_isSome_of_cell r (n+1) ((y,n)::acc) ?_
   by_cases hy:(x==y)=true
   ·exact .inr (by simp only [List.lookup_cons,hy];rfl)
   ·refine h.imp (fun e=> ?_) fun e=> ?_
    ·rw [List.lookup_cons] at e;simpa only [hy] using e
    ·dsimp only [List.lookup_cons];simpa only [hy] using e
  ·rw [if_neg hk]
   refine lookup_isSome_of_cell r n acc ?_
   by_cases hy:(x==y)=true
   ·refine .inr (h.elim (fun e=> ?_) id)
    rw [List.lookup_cons,hy] at e
    exact absurd (by rw [Option.some.inj e];rfl) hk
   ·refine h.imp (fun e=> ?_) id
    rw [List.lookup_cons] at e;simpa only [hy] using e
theorem lookup_of_mem_nodup {x:Str}{a:Addr}:∀{l:List (Str × Addr)},(l.map (·.1)).Nodup->(x,a)∈l->l.lookup x=some a
 | [],_,h=>nomatch h
 | (y,b)::r,nd,h=>by
  simp only [List.map_cons,List.nodup_cons] at nd
  dsimp only [List.lookup_cons]
  rcases List.mem_cons.mp h with e| hm
  ·cases e;simp
  ·have:(x==y)=false:=by
    rw [beq_eq_false_iff_ne]
    rintro rfl
    exact nd.1 (List.mem_map.mpr ⟨(x,a),hm,rfl⟩)
   exact this▸lookup_of_mem_nodup nd.2 hm
theorem IsO.there {prog:Program}{w:World}{K:List Addr}{h:Heap}{a:Addr}{o:O}(x:IsO prog w K h a o):∃ob,h.get? a=some ob:=by
 cases o with
 | lst ds=>obtain ⟨vs,n,g,_⟩:=x;exact ⟨_,g⟩
 | rows rs=>obtain ⟨as,_,_,o,es,ep,g,_⟩:=x;exact ⟨_,g⟩
 | flds fs=>obtain ⟨mA,⟨o,es,ep,g,_⟩,_⟩:=x;exact ⟨_,g⟩
theorem Ok.there {c:Cx}{A:Around}{fr:List Addr}{σ:Sto}{h:Heap}(ok:Ok c A fr σ h){a:Addr}(m:a∈keys σ++fr):∃o,h.get? a=some o:=by
 rcases List.mem_append.mp m with z| z
 ·obtain ⟨p,hp,rfl⟩:=List.mem_map.mp z;exact (ok.sto p hp).there
 ·exact ok.live _ z
theorem Ok.lt {c:Cx}{A:Around}{fr:List Addr}{σ:Sto}{h:Heap}(ok:Ok c A fr σ h){a:Addr}(m:a∈keys σ++fr):a<h.objs.size:=by
 refine Exists.elim (ok.there m) fun o e=> ?_;exact Heap.lt_size e
theorem none_of_ge {h:Heap}{a:Addr}(x:h.objs.size<=a):h.get? a=none:=by
 cases e:h.get? a with
 | none=>rfl
 | some o=>exact absurd (Heap.lt_size e) (Nat.not_lt.mpr x)
theorem Ok.pop {c:Cx}{A:Around}{env:Env}{fr ex:List Addr}{σ:Sto}{h:Heap}{l:List Env}(hA:A.frames=some l)(hf:env.frame=some env.locals)(hin:∀b∈l.filterMap (·.frame),b∈fr)(ok:Ok c (A.deeper env) (ex++(Fa env++fr)) σ h):Ok c A (ex++fr) σ h where
 base:=ok.base
 sto:=fun p hp=>IsO.move (K:=keys σ++(ex++(Fa env++fr))) (fun b o _ e=>e) (fun a m=>.inl (by
  rcases List.mem_append.mp m with z| z
  ·exact List.mem_append_left _ z
  ·rcases List.mem_append.mp z with z| z
   ·exact List.mem_append_right _ (List.mem_append_left _ z)
   ·exact List.mem_append_right _ (List.mem_append_right _ (List.mem_append_right _ z)))) (fun x e=>e) (ok.sto p hp)
 nd:=by
  refine List.Sublist.nodup ?_ ok.nd
  refine List.Sublist.append (List.Sublist.refl _) (List.Sublist.append (List.Sublist.refl _) (List.sublist_append_right _ _))
 new:=fun a m=>ok.new a (by
  rcases List.mem_append.mp m with z| z
  ·exact List.mem_append_left _ z
  ·rcases List.mem_append.mp z with z| z
   ·exact List.mem_append_right _ (List.mem_append_left _ z)
   ·exact List.mem_append_right _ (List.mem_append_right _ (List.mem_append_right _ z)))
 live:=fun a m=>ok.live a (by
  rcases List.mem_append.mp m with z| z
  ·exact List.mem_append_left _ z
  ·exact List.mem_append_right _ (List.mem_append_right _ z))
 stack:=by
  obtain ⟨l',h1,h2,h3,h4⟩:=ok.stack
  have:A.frames.map (env::·)=some l':=h1
  rw [hA] at this
  obtain rfl:env::l=l':=Option.some.inj this
  exact ⟨l,hA,h2.2.2,fun b hb=>List.mem_append_right _ (hin b hb),fun b hb=>h4 b (by simp only [List.filterMap_cons,hf];exact List.mem_cons_of_mem _ hb)⟩
structure Fe (A:Around)(env:Env)(scope:Scope):Prop where
 scope:env.scope=scope
 frame:env.frame=some env.locals
 stack:∃l,A.frames=some (env::l)
noncomputable def WD (c:Cx)(P:Around->Prop)(f:Value)(ds:List D)(σ:Sto)(Q:D->Sto->Prop)(X:Addr->Sto->Prop):Prop:=
 ∀A fr s vals,P A->Ok c A fr σ s.heap->Vs (keys σ++fr) s.heap ds vals->codeAny (model c.prog c.w) A (.call f ⟨vals,[]⟩) (fun r s'=>match r with
  | .ok (.ret a)=>Po c A none fr σ s V Q a s'
  | .ok _=>False
  | .error e=>Ex c A none fr σ s false X e s') s
theorem WD.wc {c:Cx}{P:Around->Prop}{f:Value}{ds:List D}{σ:Sto}{Q:D->Sto->Prop}{X:Addr->Sto->Prop}(h:WD c P f ds σ Q X):WC c P f ds σ Q X:=fun A fr s vals hA ok hv=>wpAny_call (h A fr s vals hA ok hv)
theorem WD.of {c:Cx}{P P':Around->Prop}{f:Addr}{ps:List Str}{body:List Stmt}{scope:Scope}{ds:List D}{σ:Sto}{Q:D->Sto->Prop}{X:Addr->Sto->Prop}(fn:Fn c f ps body scope)(hP:∀A env,P A->A.depth<recursionLimit/\P' (A.deeper env))(hl:ds.length=ps.length)
  (h:∀A fr env,P' A->Fe A env scope->WS c A (Fa env++fr) env (ps.zip ds) σ body (fun _ σ'=>Q .none σ') Q X):WD c P (.ref f) ds σ Q X:=by
 intro A fr s vals hA ok hV
 obtain ⟨o,fd,ho,hdata,hbody,hsc,hclo,hglob,hbui,hcd,hbind⟩:=fn.at_
 have hlen:=hV.length.trans hl
 obtain ⟨l,hAl,hff,hin,hdict⟩:=ok.stack
 refine codeAny_call_cells (hP A (callEnvC fd s.heap.objs.size f) hA).1 (ok.base _ _ ho) hdata (fn.nolimit.keeps ok.base) (hcd.keeps ok.base) hbody (hbind vals hlen) hclo (fun x hx=> ?_) (fun s₁ ic=> ?_) (hsc▸fn.co) (hsc▸fn.gen) (hsc▸fn.kind)
 ·exact hsc▸(fn.kinds x.1 ((zip_fst hlen)▸List.mem_map_of_mem hx)).imp id fun z=>⟨z,lookup_isSome_of_cell _ _ _ (.inl z)⟩
 generalize hE:callEnvC fd s.heap.objs.size f=env at ic⊢
 have e1:env.scope=scope:=by exact hE▸hsc
 have e2:env.frame=some env.locals:=by rw [<-hE];rfl
 have e3:env.locals=s.heap.objs.size:=by rw [<-hE];rfl
 have e4:env.cells=cellsFrom (s.heap.objs.size+1) scope.names []:=by rw [<-hE,<-hsc];rfl
 obtain ⟨⟨hsame,hns,hkeep,hfresh⟩,hcell,hap,habove⟩:=ic
 have hge:∀a∈Fa env,s.heap.objs.size<=a:=fun a ha=>by
  rcases List.mem_cons.mp ha with rfl| ha
  ·exact Nat.le_of_eq e3.symm
  ·obtain ⟨p,hp,rfl⟩:=List.mem_map.mp ha
   exact Nat.le_of_lt (e3▸habove p.1 p.2 hp)
 have hlive:∀a∈Fa env,∃o,s₁.heap.get? a=some o/\∀vs,o.data≠.fields vs:=fun a ha=>by
  rcases List.mem_cons.mp ha with rfl| ha
  ·obtain ⟨o,es,ep,g,hd,_⟩:=hns;exact ⟨o,g,fun vs q=>by replace q:=(hd ..).symm.trans q;contradiction⟩
  ·obtain ⟨p,hp,rfl⟩:=List.mem_map.mp ha
   obtain ⟨o,g,hd⟩:=hcell p.1 p.2 ((fun p hp=>lookup_of_mem_nodup (by rw [e4,cellsFrom_names _ _ 0 _ [] rfl];exact fn.cells) hp) p hp);exact ⟨o,g,fun vs q=>by replace q:=(hd ..).symm.trans q;contradiction⟩
 have hnew:=fun a ha=>none_of_ge (hge a ha)
 have less1:Less (keys σ++fr) (keys σ++(Fa env++fr)) s.heap:=fun a m=>by
  rcases List.mem_append.mp m with z| z
  ·exact .inl (List.mem_append_left _ z)
  ·rcases List.mem_append.mp z with z| z
   ·exact .inr (hnew a z)
   ·exact .inl (List.mem_append_right _ z)
 have stay1:Stay (keys σ++fr) s.heap s₁.heap:=fun b o _ e=>hkeep b o e
 have p01:∀{σ'} {s':Shared},Post (Fa env) (Fa env++fr) σ s₁ s' σ'->Post [] fr σ s s' σ':=fun p=>{
  shape:=by obtain ⟨h,tk,rfl⟩:=hsame;obtain ⟨h',tk',rfl⟩:=p.shape;exact ⟨h',tk',rfl⟩
  kept:=fun b o nb e=>p.kept b o (less1.nin nb e) (hkeep b o e)
  slots:=fun b o m _ e=>p.slots b o (List.mem_append_right _ m) (fun z=>by replace e:=(hnew b z ..).symm.trans e;contradiction) (hkeep b o e)
  alive:=fun b o e=>p.alive b o (hkeep b o e)
  grow:=fun a m=>(p.grow a m).imp id fun z=>by
   cases hg:s.heap.get? a with
   | none=>rfl
   | some o=>have:=hkeep a o hg;rw [z] at this;contradiction}
 have less2:∀σ' (h:Heap),Less (keys σ'++(Fa env++fr)) (keys σ'++fr) h:=fun σ' h a m=>by
  rcases List.mem_append.mp m with z| z
  ·exact .inl (List.mem_append_left _ z)
  ·exact .inl (List.mem_append_right _ (List.mem_append_right _ z))
 have fe:Fe (A.deeper env) env scope:=⟨e1,e2,l,by show A.frames.map (env::·)=_;rw [hAl];rfl⟩
 refine wpAny_mono (h (A.deeper env) fr env (hP A env hA).2 fe s₁ ({
  base:=fun b o e=>hkeep b o (ok.base b o e)
  sto:=fun p hp=>IsO.move stay1 less1 (fun x e=>hkeep _ x e) (ok.sto p hp)
  nd:=by
   have h0:=ok.nd
   rw [List.nodup_append] at h0
   rw [List.nodup_append,List.nodup_append]
   refine ⟨h0.1,⟨?_,h0.2.1,fun a ha b hb=>fun z=> ?_⟩,fun a ha b hb=> ?_⟩
   ·simp only [List.nodup_cons]
    refine ⟨fun z=> ?_,?_⟩
    ·obtain ⟨p,hp,e⟩:=List.mem_map.mp z
     exact Nat.ne_of_gt (habove p.1 p.2 hp) e
    ·exact List.pairwise_map.mpr hap
   ·exact Nat.lt_irrefl _ (Nat.lt_of_lt_of_le (ok.lt (List.mem_append_right _ hb)) (z▸hge a ha))
   ·rcases List.mem_append.mp hb with hb| hb
    ·exact fun z=>Nat.lt_irrefl _ (Nat.lt_of_lt_of_le (ok.lt (List.mem_append_left _ ha)) (z▸hge b hb))
    ·exact h0.2.2 a ha b hb
  new:=fun a m=>by
   rcases List.mem_append.mp m with z| z
   ·exact ok.new a (List.mem_append_left _ z)
   ·rcases List.mem_append.mp z with z| z
    ·cases hg:c.h0.get? a with
     | none=>rfl
     | some o=>have:=ok.base _ o hg;rw [hnew a z] at this;contradiction
    ·exact ok.new a (List.mem_append_right _ z)
  live:=fun a m=>by
   rcases List.mem_append.mp m with z| z
   ·obtain ⟨o,g,_⟩:=hlive a z;exact ⟨o,g⟩
   ·obtain ⟨o,g⟩:=ok.live a z;exact ⟨o,hkeep _ _ g⟩
  stack:=by
   refine ⟨env::l,by show A.frames.map (env::·)=_;rw [hAl];rfl,⟨?_,⟨env.locals,?_⟩,?_⟩,fun b hb=> ?_,fun b hb=> ?_⟩
   ·rw [e1,fn.kind];decide
   ·obtain ⟨o,g,hd⟩:=hlive env.locals List.mem_cons_self
    refine ⟨o,e2,?_,g,hd⟩
    cases hg:c.h0.get? env.locals with
    | none=>rfl
    | some o=>have:=ok.base _ o hg;replace this:=(hnew _ List.mem_cons_self ..).symm.trans this;contradiction
   ·exact FunFrames.stays (fun b o _ e=>⟨o.slots,hkeep b o e⟩) hff hin
   ·simp only [List.filterMap_cons,e2] at hb
    rcases List.mem_cons.mp hb with rfl| hb
    ·exact List.mem_append_left _ List.mem_cons_self
    ·exact List.mem_append_right _ (hin b hb)
   ·simp only [List.filterMap_cons,e2] at hb
    rcases List.mem_cons.mp hb with rfl| hb
    ·obtain ⟨o,es,ep,g,hd,_⟩:=hns;exact ⟨o,es,ep,g,hd⟩
    ·obtain ⟨o,es,n,g,r⟩:=hdict b hb;exact ⟨o,es,n,hkeep _ _ g,r⟩}) ({
  kind:=by exact e1▸fn.kind
  glob:=(by exact hE▸hglob)
  bui:=(by exact hE▸hbui)
  ns:=⟨_,hns,fun x d e k=>by
   obtain ⟨v,z,zz⟩:=(bound (k:=env.kindOf) (m:=fun _=>none) (cm:=fun _=>none) fn.nd hl hV e).1 k
   exact ⟨v,z,V.move stay1 less1 _ _ zz⟩⟩
  cell:=fun x cc e=>by
   refine ⟨_,hcell x cc e,fun d e' k=> ?_⟩
   obtain ⟨v,z,zz⟩:=(bound (k:=env.kindOf) (m:=fun _=>none) (cm:=fun _=>none) fn.nd hl hV e').2 (by rcases k with k| k<;>rw [k]<;>decide)
   exact ⟨v,z,V.move stay1 less1 _ _ zz⟩
  has:=fun x k=>by
   rcases k with k| k
   ·have:((cellsFrom (s.heap.objs.size+1) scope.names []).lookup x).isSome=true:=lookup_isSome_of_cell _ _ _ (.inl (by rw [<-e1];exact k))
    rw [<-e4] at this
    exact Option.isSome_iff_exists.mp this
   ·exact absurd k (by
     intro k
     exact fn.nofree x (by rw [<-e1];exact k))
  inn:=⟨List.mem_append_left _ List.mem_cons_self,fun p hp=>List.mem_append_left _ (List.mem_cons_of_mem _ (List.mem_map_of_mem (f:=(·.2)) hp))⟩
  apart:=⟨hap,fun p hp=>Nat.ne_of_gt (habove p.1 p.2 hp)⟩})) (fun fl s' hx=> ?_) fun v s' hx=> ?_
 ·obtain ⟨out,σ',p,ok2,r,q⟩:=hx
  have ok3:Ok c A fr σ' s'.heap:=Ok.pop (ex:=[]) hAl e2 hin ok2
  cases out with
  | next m'=>obtain ⟨rfl,_⟩:=r;exact ⟨.none,σ',p01 p,ok3,by unfold V;rfl,q⟩
  | ret d=>obtain ⟨v,rfl,hv,_⟩:=r;exact ⟨d,σ',p01 p,ok3,V.move (fun b o _ e=>e) (less2 σ' _) _ _ hv,q⟩
 ·exact nomatch hx
theorem WC.of {c:Cx}{P P':Around->Prop}{f:Addr}{ps:List Str}{body:List Stmt}{scope:Scope}{ds:List D}{σ:Sto}{Q:D->Sto->Prop}{X:Addr->Sto->Prop}(fn:Fn c f ps body scope)(hP:∀A env,P A->A.depth<recursionLimit/\P' (A.deeper env))(hl:ds.length=ps.length)
  (h:∀A fr env,P' A->Fe A env scope->WS c A (Fa env++fr) env (ps.zip ds) σ body (fun _ σ'=>Q .none σ') Q X):WC c P (.ref f) ds σ Q X:=(WD.of fn hP hl h).wc
end Mine
namespace Mine
open PySem PySem.Calls PyProof.Rows
structure Cx.Good (c:Cx):Prop where
 g:c.h0.Ns mainGlobals c.mg
 b:c.h0.Ns builtinsNs c.mb
noncomputable def plainArgs:List Expr->Bool
 | []=>true
 | .Starred _ _::_=>false
 | _::r=>plainArgs r
theorem starEach_cons {env:Env}{e:Expr}{r:List Expr}(h:plainArgs (e::r)=true):starEach (e::r) env=(false,eval e env)::starEach r env/\plainArgs r=true:=by
 cases e<;>first| exact ⟨rfl,h⟩| exact absurd (show false=true from h) (by decide)
theorem plainArgs_starEach {env:Env}{pos:Pos}:∀{es:List Expr},plainArgs es=true->∀x∈backTo pos (starEach es env),x.1=false
 | [],_,x,hx=>(List.not_mem_nil (show x∈[] from hx)).elim
 | e::r,h,x,hx=>by
  have step:=starEach_cons (env:=env) h
  rw [step.1] at hx
  rcases List.mem_cons.mp hx with rfl| hx
  ·rfl
  ·exact plainArgs_starEach step.2 x hx
theorem wpAny_evalArgs {M:Model}{A:Around}{E:Value->Shared->Prop}{s:Shared}{f:Value}{args:List (Bool × Sem Value)}{Q:Args->Shared->Prop}(hns:∀x∈args,x.1=false)
  (h:wpAny M A (spliced args) (fun vs s'=>Q ⟨vs,[]⟩ s') E s):wpAny M A (evalArgs f true args []) Q E s:=by
 cases args with
 | nil=>
  refine wpAny_bind (wpAny_mono h (fun vs s' h'=> ?_) fun _ _ x=>x)
  refine wpAny_holding ?_
  exact wpAny_bind (wpAny_pure (wpAny_bind (wpAny_pure (wpAny_pure h'))))
 | cons x r=>
  obtain ⟨b,t⟩:=x
  obtain rfl:b=false:=hns _ List.mem_cons_self
  exact evalArgs_plain h
section
variable {c:Cx} {A:Around} {G:Option Env} {fr:List Addr} {σ:Sto} {X:Addr->Sto->Prop} {env:Env} {m:Vars}
noncomputable def WA (c:Cx)(A:Around)(fr:List Addr)(env:Env)(m:Vars)(σ:Sto)(es:List Expr)(Q:List D->Sto->Prop)(X:Addr->Sto->Prop):Prop:=
 ∀pos s,Ok c A fr σ s.heap->Fm env m fr (keys σ++fr) s.heap->W c A none fr σ (spliced (backTo pos (starEach es env))) Vs Q X s
theorem WA.nil {Q:List D->Sto->Prop}(h:Q [] σ):WA c A fr env m σ [] Q X:=fun pos s ok fm=>spliced_nil ⟨[],σ,Post.refl ..,ok,Vs.nil,h⟩
theorem WA.cons {e:Expr}{r:List Expr}{Q:List D->Sto->Prop}(h:WE c A fr env m σ e (fun d σ1=>WA c A fr env m σ1 r (fun ds σ2=>Q (d::ds) σ2) X) X)(hp:plainArgs (e::r)=true:=by rfl):WA c A fr env m σ (e::r) Q X:=fun pos s ok fm=>by
 rw [(starEach_cons hp).1]
 show wpAny _ _ (spliced ((false,eval e env)::backTo pos (starEach r env))) _ _ _
 refine spliced_cons (wpAny_mono (h s ok fm) (fun v s1 hz=> ?_) fun _ _ x=>x)
 obtain ⟨d,σ1,p1,ok1,x1,q1⟩:=hz
 refine wpAny_mono (q1 pos s1 ok1 (fm.move p1)) (fun vs s2 ⟨ds,σ2,p2,ok2,x2,q2⟩=>⟨d::ds,σ2,p1.trans p2,ok2,Vs.cons (p2.v x1) x2,q2⟩) fun _ _ x=>Ex.back p1 x fun _ _ y=>y
variable {Q:D->Sto->Prop}
theorem WE.callF (g:c.Good){f:Str}{fp pos:Pos}{args:List Expr}{a:Addr}{o:Obj}{fd:FuncData}{P:Around->Prop}(hP:P A)(hk:env.kindOf f=some .globalImplicit)(hg:c.mg f=some (.ref a))(ho:c.h0.get? a=some o)(hd:o.data=.func fd)
  (h:WA c A fr env m σ args (fun ds σ1=>WC c P (.ref a) ds σ1 Q X) X) (hp:plainArgs args=true:=by rfl) (hdb:(f==("__debug__":Str))=false:=by decide):WE c A fr env m σ (.Call (.Name f fp) args [] pos) Q X:=fun s ok fm=>by
 refine wpAny_bind (Name_function_global fm.kind hk (loadGlobal_global (by exact fm.glob▸g.g.keeps ok.base) hg ?_) hdb)
 refine callWith_function (o:=o) (fd:=fd) (wpAny_evalArgs (plainArgs_starEach hp) (wpAny_mono (h pos s ok fm) (fun vs s1 ⟨ds,σ1,p1,ok1,x1,q1⟩=>⟨⟨ok1.base _ _ ho,hd⟩,?_⟩) fun _ _ x=>x))
 refine wpAny_mono (q1 A fr s1 vs hP ok1 x1) (fun _ _ z=>z.back p1) fun _ _ x=>Ex.back p1 x fun _ _ y=>y
theorem WE.callB (g:c.Good){f:Str}{fp pos:Pos}{args:List Expr}{id:String}(hk:env.kindOf f=some .globalImplicit)(hg:c.mg f=none)(hb:c.mb f=some (.builtin id))
  (h:WA c A fr env m σ args (fun ds σ1=>∀s vals,Ok c A fr σ1 s.heap->Vs (keys σ1++fr) s.heap ds vals->W c A none fr σ1 (call (.builtin id) vals) V Q X s) X) (hp:plainArgs args=true:=by rfl) (hdb:(f==("__debug__":Str))=false:=by decide):WE c A fr env m σ (.Call (.Name f fp) args [] pos) Q X:=fun s ok fm=>by
 refine wpAny_bind (Name_function_global fm.kind hk (loadGlobal_builtin (by rw [fm.glob];exact g.g.keeps ok.base) hg (by rw [fm.bui];exact g.b.keeps ok.base) hb ?_) hdb)
 refine callWith_builtin (by
  rw [List.any_eq_false];intro x hx;simp [(plainArgs_starEach (env:=env) (pos:=pos) hp) x hx]) (wpAny_evalArgs (plainArgs_starEach hp) (wpAny_mono (h pos s ok fm) (fun vs s1 ⟨ds,σ1,p1,ok1,x1,q1⟩=> ?_) fun _ _ x=>x))
 refine wpAny_mono (q1 s1 vs ok1 x1) (fun _ _ z=>z.back p1) fun _ _ x=>Ex.back p1 x fun _ _ y=>y
end
end Mine
namespace Mine
open PySem PySem.Calls PyProof.Rows
section
variable {c:Cx} {A:Around} {G:Option Env} {fr:List Addr} {σ:Sto} {X:Addr->Sto->Prop} {env:Env} {m:Vars}
noncomputable abbrev RB (_:List Addr)(_:Heap)(b a:Bool):Prop:=a=b
noncomputable def WTr (c:Cx)(A:Around)(fr:List Addr)(σ:Sto)(d:D)(Q:Bool->Sto->Prop)(X:Addr->Sto->Prop):Prop:=
 ∀v s,Ok c A fr σ s.heap->V (keys σ++fr) s.heap d v->W c A none fr σ (truthy v) RB Q X s
noncomputable def WT (c:Cx)(A:Around)(fr:List Addr)(env:Env)(m:Vars)(σ:Sto)(e:Expr)(Q:Bool->Sto->Prop)(X:Addr->Sto->Prop):Prop:=
 ∀s,Ok c A fr σ s.heap->Fm env m fr (keys σ++fr) s.heap->W c A none fr σ (isTrue e env (eval e env)) RB Q X s
theorem WTr.bool {b:Bool}{Q:Bool->Sto->Prop}(h:Q b σ):WTr c A fr σ (.bool b) Q X:=fun v s ok x=>by
 subst x
 exact wpAny_truthy_bool ⟨b,σ,Post.refl ..,ok,rfl,h⟩
theorem WT.plain {e:Expr}{Q:Bool->Sto->Prop}(h:WE c A fr env m σ e (fun d σ1=>WTr c A fr σ1 d Q X) X)(he:∀whole,isTrue e env whole=(do let v<-whole;standAt e.pos;holding [v] (truthy v)):=by intro _;rfl):WT c A fr env m σ e Q X:=fun s ok fm=>by
 rw [he]
 refine W.bind (W.mono (h s ok fm) (fun d1 σ1 q1 a s1 p1 ok1 x1=> ?_) fun _ _ y=>y)
 exact W.standAt (W.holding (q1 a s1 ok1 x1))
theorem WT.not {e:Expr}{pos:Pos}{Q:Bool->Sto->Prop}(h:WT c A fr env m σ e (fun b σ1=>Q (!b) σ1) X):WT c A fr env m σ (.UnaryOp .Not e pos) Q X:=fun s ok fm=>by
 refine W.bind (W.mono (h s ok fm) (fun d1 σ1 q1 a s1 p1 ok1 x1=> ?_) fun _ _ y=>y)
 obtain rfl:a=d1:=x1
 exact W.pure ok1 rfl q1
noncomputable def WTs (c:Cx)(A:Around)(fr:List Addr)(env:Env)(m:Vars)(σ:Sto)(op:BoolOp)(es:List Expr)(Q:Bool->Sto->Prop)(X:Addr->Sto->Prop):Prop:=
 ∀s,Ok c A fr σ s.heap->Fm env m fr (keys σ++fr) s.heap->W c A none fr σ (allTrue op es env) RB Q X s
theorem WTs.nilAnd {Q:Bool->Sto->Prop}(h:Q true σ):WTs c A fr env m σ .And [] Q X:=fun s ok fm=>by
 exact wpAny_pure ⟨true,σ,Post.refl ..,ok,rfl,h⟩
theorem WTs.nilOr {Q:Bool->Sto->Prop}(h:Q false σ):WTs c A fr env m σ .Or [] Q X:=fun s ok fm=>by
 exact wpAny_pure ⟨false,σ,Post.refl ..,ok,rfl,h⟩
theorem WTs.and {e:Expr}{es:List Expr}{Q:Bool->Sto->Prop}(h:WT c A fr env m σ e (fun b σ1=>if b=true then WTs c A fr env m σ1 .And es Q X else Q false σ1) X):WTs c A fr env m σ .And (e::es) Q X:=fun s ok fm=>by
 refine W.bind (W.mono (h s ok fm) (fun d1 σ1 q1 a s1 p1 ok1 x1=> ?_) fun _ _ y=>y)
 obtain rfl:a=d1:=x1
 cases a with
 | true=>exact q1 s1 ok1 (fm.move p1)
 | false=>exact W.pure ok1 rfl q1
theorem WTs.or {e:Expr}{es:List Expr}{Q:Bool->Sto->Prop}(h:WT c A fr env m σ e (fun b σ1=>if b=true then Q true σ1 else WTs c A fr env m σ1 .Or es Q X) X):WTs c A fr env m σ .Or (e::es) Q X:=fun s ok fm=>by
 refine W.bind (W.mono (h s ok fm) (fun d1 σ1 q1 a s1 p1 ok1 x1=> ?_) fun _ _ y=>y)
 obtain rfl:a=d1:=x1
 cases a with
 | false=>exact q1 s1 ok1 (fm.move p1)
 | true=>exact W.pure ok1 rfl q1
theorem WT.boolop {op:BoolOp}{es:List Expr}{pos:Pos}{Q:Bool->Sto->Prop}(h:WTs c A fr env m σ op es Q X):WT c A fr env m σ (.BoolOp op es pos) Q X:=fun s ok fm=>by
 exact h s ok fm
theorem WT.compare {l r:Expr}{op:CmpOp}{pos:Pos}{Q:Bool->Sto->Prop}(h:WE c A fr env m σ l (fun d1 σ1=>WE c A fr env m σ1 r (fun d2 σ2=>WB c A fr σ2 (compareOp op) d1 d2 (fun d3 σ3=>WTr c A fr σ3 d3 Q X) X) X) X)(hb:behindInMarks op r=false:=by rfl):
  WT c A fr env m σ (.Compare l [op] [r] pos) Q X:=fun s ok fm=>by
 refine W.bind (W.mono (h s ok fm) (fun d1 σ1 q1 a s1 p1 ok1 x1=> ?_) fun _ _ y=>y)
 show W c A none fr σ1 (testChain pos a [op] [markedBehindIn op r (eval r env)]) RB Q X s1
 rw [markedBehindIn_of_false hb]
 refine W.bind (W.holding (W.mono (q1 s1 ok1 (fm.move p1)) (fun d2 σ2 q2 b s2 p2 ok2 x2=> ?_) fun _ _ y=>y))
 refine W.standAt (W.bind (W.operate (W.mono (q2 a b s2 ok2 (p2.v x1) x2) (fun d3 σ3 q3 e s3 p3 ok3 x3=> ?_) fun _ _ y=>y)))
 exact W.holding (q3 e s3 ok3 x3)
theorem WT.compare2 {l r r2:Expr}{op op2:CmpOp}{pos:Pos}{Q:Bool->Sto->Prop}(h:WE c A fr env m σ l (fun d1 σ1=>WE c A fr env m σ1 r (fun d2 σ2=>WB c A fr σ2 (compareOp op) d1 d2 (fun d3 σ3=>WTr c A fr σ3 d3 (fun b σ4=>if b=true then WE c A fr env m σ4 r2 (fun d4 σ5=>WB c A fr σ5 (compareOp op2) d2 d4 (fun d5 σ6=>WTr c A fr σ6 d5 Q X) X) X else Q false σ4) X) X) X) X)(hb2:behindInMarks op2 r2=false:=by rfl):
  WT c A fr env m σ (.Compare l [op,op2] [r,r2] pos) Q X:=fun s ok fm=>by
 refine W.bind (W.mono (h s ok fm) (fun d1 σ1 q1 a s1 p1 ok1 x1=> ?_) fun _ _ y=>y)
 show W c A none fr σ1 (testChain pos a [op,op2] [eval r env,markedBehindIn op2 r2 (eval r2 env)]) RB Q X s1
 rw [markedBehindIn_of_false hb2]
 have fm1:=fm.move p1
 refine W.bind (W.holding (W.mono (q1 s1 ok1 fm1) (fun d2 σ2 q2 b s2 p2 ok2 x2=> ?_) fun _ _ y=>y))
 refine W.standAt (W.bind (W.holding (W.mono (q2 a b s2 ok2 (p2.v x1) x2) (fun d3 σ3 q3 e s3 p3 ok3 x3=> ?_) fun _ _ y=>y)))
 refine wpAny_bind (wpAny_release ?_)
 refine W.bind (W.holding (W.mono (q3 e s3 ok3 x3) (fun b1 σ4 q4 t s4 p4 ok4 x4=> ?_) fun _ _ y=>y))
 obtain rfl:t=b1:=x4
 cases t with
 | false=>exact W.pure ok4 rfl q4
 | true=>
  refine W.bind (W.holding (W.mono (q4 s4 ok4 (((fm1.move p2).move p3).move p4)) (fun d4 σ5 q5 f s5 p5 ok5 x5=> ?_) fun _ _ y=>y))
  refine W.standAt (W.bind (W.operate (W.mono (q5 b f s5 ok5 (p5.v (p4.v (p3.v x2))) x5) (fun d5 σ6 q6 g s6 p6 ok6 x6=> ?_) fun _ _ y=>y)))
  exact W.holding (q6 g s6 ok6 x6)
noncomputable def WBs (c:Cx)(A:Around)(fr:List Addr)(env:Env)(m:Vars)(σ:Sto)(op:BoolOp)(es:List Expr)(Q:D->Sto->Prop)(X:Addr->Sto->Prop):Prop:=
 ∀pos s,Ok c A fr σ s.heap->Fm env m fr (keys σ++fr) s.heap->W c A none fr σ (boolOp pos op (evalEach es env)) V Q X s
theorem WBs.one {op:BoolOp}{e:Expr}{Q:D->Sto->Prop}(h:WE c A fr env m σ e Q X):WBs c A fr env m σ op [e] Q X:=fun pos s ok fm=>h s ok fm
theorem WBs.and {e e2:Expr}{es:List Expr}{Q:D->Sto->Prop}(h:WE c A fr env m σ e (fun d σ1=>WTr c A fr σ1 d (fun b σ2=>if b=true then WBs c A fr env m σ2 .And (e2::es) Q X else Q d σ2) X) X):WBs c A fr env m σ .And (e::e2::es) Q X:=fun pos s ok fm=>by
 refine W.bind (W.mono (h s ok fm) (fun d1 σ1 q1 a s1 p1 ok1 x1=> ?_) fun _ _ y=>y)
 refine W.standAt (W.bind (W.holding (W.mono (q1 a s1 ok1 x1) (fun b σ2 q2 t s2 p2 ok2 x2=> ?_) fun _ _ y=>y)))
 obtain rfl:t=b:=x2
 cases t with
 | true=>exact q2 pos s2 ok2 ((fm.move p1).move p2)
 | false=>exact W.pure ok2 (p2.v x1) q2
theorem WBs.or {e e2:Expr}{es:List Expr}{Q:D->Sto->Prop}(h:WE c A fr env m σ e (fun d σ1=>WTr c A fr σ1 d (fun b σ2=>if b=true then Q d σ2 else WBs c A fr env m σ2 .Or (e2::es) Q X) X) X):WBs c A fr env m σ .Or (e::e2::es) Q X:=fun pos s ok fm=>by
 refine W.bind (W.mono (h s ok fm) (fun d1 σ1 q1 a s1 p1 ok1 x1=> ?_) fun _ _ y=>y)
 refine W.standAt (W.bind (W.holding (W.mono (q1 a s1 ok1 x1) (fun b σ2 q2 t s2 p2 ok2 x2=> ?_) fun _ _ y=>y)))
 obtain rfl:t=b:=x2
 cases t with
 | false=>exact q2 pos s2 ok2 ((fm.move p1).move p2)
 | true=>exact W.pure ok2 (p2.v x1) q2
theorem WE.boolop {op:BoolOp}{es:List Expr}{pos:Pos}{Q:D->Sto->Prop}(h:WBs c A fr env m σ op es Q X):WE c A fr env m σ (.BoolOp op es pos) Q X:=fun s ok fm=>h pos s ok fm
theorem WE.compare2 {l r r2:Expr}{op op2:CmpOp}{pos:Pos}{Q:D->Sto->Prop}(h:WE c A fr env m σ l (fun d1 σ1=>WE c A fr env m σ1 r (fun d2 σ2=>WB c A fr σ2 (compareOp op) d1 d2 (fun d3 σ3=>WTr c A fr σ3 d3 (fun b σ4=>if b=true then WE c A fr env m σ4 r2 (fun d4 σ5=>WB c A fr σ5 (compareOp op2) d2 d4 Q X) X else Q d3 σ4) X) X) X) X)(hb2:behindInMarks op2 r2=false:=by rfl):
  WE c A fr env m σ (.Compare l [op,op2] [r,r2] pos) Q X:=fun s ok fm=>by
 refine W.bind (W.mono (h s ok fm) (fun d1 σ1 q1 a s1 p1 ok1 x1=> ?_) fun _ _ y=>y)
 show W c A none fr σ1 (compareChain pos a [op,op2] [eval r env,markedBehindIn op2 r2 (eval r2 env)]) V Q X s1
 rw [markedBehindIn_of_false hb2]
 have fm1:=fm.move p1
 refine W.bind (W.holding (W.mono (q1 s1 ok1 fm1) (fun d2 σ2 q2 b s2 p2 ok2 x2=> ?_) fun _ _ y=>y))
 refine W.standAt (W.bind (W.holding (W.mono (q2 a b s2 ok2 (p2.v x1) x2) (fun d3 σ3 q3 e s3 p3 ok3 x3=> ?_) fun _ _ y=>y)))
 refine wpAny_bind (wpAny_release ?_)
 refine W.bind (W.holding (W.mono (q3 e s3 ok3 x3) (fun b1 σ4 q4 t s4 p4 ok4 x4=> ?_) fun _ _ y=>y))
 obtain rfl:t=b1:=x4
 cases t with
 | false=>exact W.pure ok4 (p4.v x3) q4
 | true=>
  refine W.bind (W.holding (W.mono (q4 s4 ok4 (((fm1.move p2).move p3).move p4)) (fun d4 σ5 q5 f s5 p5 ok5 x5=> ?_) fun _ _ y=>y))
  exact W.standAt (W.operate (q5 b f s5 ok5 (p5.v (p4.v (p3.v x2))) x5))
variable {N:Vars->Sto->Prop} {R:D->Sto->Prop}
theorem W1.ite {test:Expr}{body orelse:List Stmt}{pos:Pos}(h:WT c A fr env m σ test (fun b σ1=>if b=true then WS c A fr env m σ1 body N R X else WS c A fr env m σ1 orelse N R X) X):W1 c A fr env m σ (.If test body orelse pos) N R X:=fun s ok fm=>by
 refine W.standAt (W.bindE fm (W.mono (h s ok fm) (fun d σ1 q1 a s1 fm1 p1 ok1 x1=> ?_) fun _ _ y=>y))
 obtain rfl:a=d:=x1
 cases a with
 | true=>exact q1 s1 ok1 fm1
 | false=>exact q1 s1 ok1 fm1
end
end Mine
namespace Mine
open PySem PySem.Calls PyProof.Rows
theorem codeAny_forLoopT {prog:Program}{w:World}{A:Around}{s:Shared}{R:Result->Shared->Prop}{target it body orelse env}(I:Nat->Shared->Prop)
  (turn:∀n s,I n s->wpAny (model prog w) A (pyNext it) (fun r s₁=>match r with
   | none=>wpAny (model prog w) A (execs orelse env) (fun f s₃=>R (.ok f) s₃) (notedBy (model prog w) A env fun e s'=>R (.error e) s') s₁
   | some v=>wpAny (model prog w) A (letOwnedTupleGo target it v) (fun _ s₁'=>wpAny (model prog w) A (assign target env v) (fun _ s₂=>wpAny (model prog w) A (execs body env) (fun f s₃=>match f with
     | .next| .cont=>∃m,m<n/\I m s₃
     | .brk=>R (.ok .next) s₃
     | .ret v=>R (.ok (.ret v)) s₃) (notedBy (model prog w) A env fun e s'=>R (.error e) s') s₂) (notedBy (model prog w) A env fun e s'=>R (.error e) s') s₁') (notedBy (model prog w) A env fun e s'=>R (.error e) s') s₁) (notedBy (model prog w) A env fun e s'=>R (.error e) s') s)
  (n:Nat) (h:I n s):codeAny (model prog w) A (.forLoop target it body orelse env) R s:=by
 refine codeAny_loop' rfl I (fun n s hI=> ?_) n h
 refine wpAny_noted ?_
 refine wpAny_bind (wpAny_standAt (wpAny_bind (wpAny_onRaise (wpAny_mono (turn n s hI) (fun r s₁ h₁=> ?_) fun _ _ h'=>wpAny_standAt h'))))
 cases r with
 | none=>exact wpAny_pure (.inr ⟨rfl,codeAny_block h₁⟩)
 | some v=>
  refine wpAny_bind (wpAny_mono h₁ (fun _ s₁' h₁'=> ?_) fun _ _ h'=>h')
  refine wpAny_bind (wpAny_mono h₁' (fun _ s₂ h₂=>wpAny_bind (wpAny_mono h₂ (fun f s₃ h₃=> ?_) fun _ _ h'=>h')) fun _ _ h'=>h')
  cases f with
  | next=>exact wpAny_pure (.inl ⟨rfl,h₃⟩)
  | cont=>exact wpAny_pure (.inl ⟨rfl,h₃⟩)
  | brk=>exact wpAny_pure h₃
  | ret v=>exact wpAny_pure h₃
theorem codeAny_compLoopT {prog:Program}{w:World}{A:Around}{s:Shared}{R:Result->Shared->Prop}{elt target iter:Expr}{ifs:List Expr}{scope:Scope}{pos:Pos}{it acc:Value}{env:Env}(I:Nat->Shared->Prop)
  (turn:∀n s,I n s->wpAny (model prog w) A (pyNext it) (fun r s₁=>match r with
   | none=>R (.ok .next) s₁
   | some v=>wpAny (model prog w) A (letOwnedTupleGo target it v) (fun _ s₁'=>wpAny (model prog w) A (assign target env v) (fun _ s₂=>
     wpAny (model prog w) A (forIn ifs true fun c r=>if r=true then do let ok<-isTrue c env (eval c env);pure (ForInStep.yield ok) else pure (ForInStep.yield r)) (fun ok s₃=>
      if ok=true then wpAny (model prog w) A (eval elt env) (fun x s₄=>
       wpAny (model prog w) A (call (.builtin "list.append") [acc,x]) (fun _ s₅=>∃m,m<n/\I m s₅) (fun _ _=>False) s₄) (fun _ _=>False) s₃
      else ∃m,m<n/\I m s₃) (fun _ _=>False) s₂) (fun _ _=>False) s₁') (fun _ _=>False) s₁) (fun _ _=>False) s)
  (n:Nat) (h:I n s):codeAny (model prog w) A (.compLoop (.ListComp elt [⟨target,iter,ifs,0⟩] scope pos) 0 it acc env) R s:=by
 refine codeAny_loop rfl I (fun n s hI=> ?_) n h
 show wpAny _ A ((compTurn (.ListComp elt [⟨target,iter,ifs,0⟩] scope pos) 0 it acc env).onRaise (fun x=>do noteFrame x env;theTreesLotGoes x)) _ _ s
 refine wpAny_noted ?_
 rw [compTurn_list]
 refine wpAny_bind (wpAny_standAt (wpAny_bind (wpAny_mono (turn n s hI) (fun r s₁ h₁=> ?_) fun _ _ h'=>h'.elim)))
 cases r with
 | none=>exact wpAny_pure h₁
 | some v=>
  refine wpAny_bind (wpAny_mono h₁ (fun _ s₁' h₁'=> ?_) fun _ _ h'=>h'.elim)
  refine wpAny_bind (wpAny_mono h₁' (fun _ s₂ h₂=>wpAny_bind (wpAny_mono h₂ (fun ok s₃ h₃=> ?_) fun _ _ h'=>h'.elim)) fun _ _ h'=>h'.elim)
  cases ok with
  | false=>exact wpAny_pure ⟨rfl,h₃⟩
  | true=>
   exact wpAny_bind (wpAny_bind (wpAny_mono h₃ (fun x s₄ h₄=>wpAny_bind (wpAny_mono h₄ (fun _ s₅ h₅=>wpAny_pure (wpAny_pure ⟨rfl,h₅⟩)) fun _ _ h'=>h'.elim)) fun _ _ h'=>h'.elim))
theorem Ok.more {c:Cx}{A:Around}{fr wr:List Addr}{σ:Sto}{h h':Heap}(ok:Ok c A fr σ h)(k:∀b o,h.get? b=some o->h'.get? b=some o)(hn:∀a∈wr,h.get? a=none)(hl:∀a∈wr,∃o,h'.get? a=some o)(nd:wr.Nodup):Ok c A (wr++fr) σ h' where
 base:=fun b o e=>k b o (ok.base b o e)
 sto:=fun p hp=>IsO.move (K:=keys σ++fr) (fun b o _ e=>k b o e) (fun a m=>by
  rcases List.mem_append.mp m with z| z
  ·exact .inl (List.mem_append_left _ z)
  ·rcases List.mem_append.mp z with z| z
   ·exact .inr (hn a z)
   ·exact .inl (List.mem_append_right _ z)) (fun x e=>k _ x e) (ok.sto p hp)
 nd:=by
  have h0:=ok.nd
  have ap:∀a∈wr,a∉keys σ++fr:=fun a ha m=>by obtain ⟨o,e⟩:=ok.there m;replace e:=(hn a ha ..).symm.trans e;contradiction
  rw [List.nodup_append] at h0
  rw [List.nodup_append,List.nodup_append]
  refine ⟨h0.1,⟨nd,h0.2.1,fun a ha b hb z=>ap a ha (z▸List.mem_append_right _ hb)⟩,fun a ha b hb=> ?_⟩
  rcases List.mem_append.mp hb with hb| hb
  ·exact fun z=>ap b hb (z▸List.mem_append_left _ ha)
  ·exact h0.2.2 a ha b hb
 new:=fun a m=>by
  rcases List.mem_append.mp m with z| z
  ·exact ok.new a (List.mem_append_left _ z)
  ·rcases List.mem_append.mp z with z| z
   ·cases hg:c.h0.get? a with
    | none=>rfl
    | some o=>have:=ok.base _ o hg;replace this:=(hn a z ..).symm.trans this;contradiction
   ·exact ok.new a (List.mem_append_right _ z)
 live:=fun a m=>by
  rcases List.mem_append.mp m with z| z
  ·exact hl a z
  ·obtain ⟨o,g⟩:=ok.live a z;exact ⟨o,k _ _ g⟩
 stack:=by
  obtain ⟨l,a,b,d,f⟩:=(ok.keeps k).stack
  exact ⟨l,a,b,fun x hx=>List.mem_append_right _ (d x hx),f⟩
theorem Ok.less {c:Cx}{A:Around}{fr wr ex:List Addr}{σ:Sto}{h:Heap}(ok:Ok c A (ex++(wr++fr)) σ h)(hin:∀l,A.frames=some l->∀b∈l.filterMap (·.frame),b∈fr):Ok c A (ex++fr) σ h where
 base:=ok.base
 sto:=fun p hp=>IsO.move (K:=keys σ++(ex++(wr++fr))) (fun b o _ e=>e) (fun a m=>.inl (by
  rcases List.mem_append.mp m with z| z
  ·exact List.mem_append_left _ z
  ·rcases List.mem_append.mp z with z| z
   ·exact List.mem_append_right _ (List.mem_append_left _ z)
   ·exact List.mem_append_right _ (List.mem_append_right _ (List.mem_append_right _ z)))) (fun x e=>e) (ok.sto p hp)
 nd:=by
  refine List.Sublist.nodup ?_ ok.nd
  exact List.Sublist.append (List.Sublist.refl _) (List.Sublist.append (List.Sublist.refl _) (List.sublist_append_right _ _))
 new:=fun a m=>ok.new a (by
  rcases List.mem_append.mp m with z| z
  ·exact List.mem_append_left _ z
  ·rcases List.mem_append.mp z with z| z
   ·exact List.mem_append_right _ (List.mem_append_left _ z)
   ·exact List.mem_append_right _ (List.mem_append_right _ (List.mem_append_right _ z)))
 live:=fun a m=>ok.live a (by
  rcases List.mem_append.mp m with z| z
  ·exact List.mem_append_left _ z
  ·exact List.mem_append_right _ (List.mem_append_right _ z))
 stack:=by
  obtain ⟨l,h1,h2,h3,h4⟩:=ok.stack
  exact ⟨l,h1,h2,fun b hb=>List.mem_append_right _ (hin l h1 b hb),h4⟩
theorem less_drop {fr wr:List Addr}(σ:Sto)(h:Heap):Less (keys σ++(wr++fr)) (keys σ++fr) h:=fun a m=>by
 rcases List.mem_append.mp m with z| z
 ·exact .inl (List.mem_append_left _ z)
 ·exact .inl (List.mem_append_right _ (List.mem_append_right _ z))
theorem less_add {fr wr:List Addr}{σ:Sto}{h:Heap}(hn:∀a∈wr,h.get? a=none):Less (keys σ++fr) (keys σ++(wr++fr)) h:=fun a m=>by
 rcases List.mem_append.mp m with z| z
 ·exact .inl (List.mem_append_left _ z)
 ·rcases List.mem_append.mp z with z| z
  ·exact .inr (hn a z)
  ·exact .inl (List.mem_append_right _ z)
theorem Fm.shift {env:Env}{m:Vars}{fr fr' K K':List Addr}{h:Heap}(f:Fm env m fr K h)(hi:env.locals∈fr'/\∀p∈env.cells,p.2∈fr')(hl:Less K K' h):Fm env m fr' K' h where
 kind:=f.kind
 glob:=f.glob
 bui:=f.bui
 ns:=by obtain ⟨mv,hn,r⟩:=f.ns;exact ⟨mv,hn,fun x d e k=>by obtain ⟨v,a,b⟩:=r x d e k;exact ⟨v,a,V.move (fun _ _ _ e=>e) hl _ _ b⟩⟩
 cell:=fun x cc e=>by obtain ⟨ov,hc,r⟩:=f.cell x cc e;exact ⟨ov,hc,fun d e k=>by obtain ⟨v,a,b⟩:=r d e k;exact ⟨v,a,V.move (fun _ _ _ e=>e) hl _ _ b⟩⟩
 has:=f.has
 inn:=hi
 apart:=f.apart
theorem Post.drop {F fr wr:List Addr}{σ σ1 σ2:Sto}{s s1 s2:Shared}(p:Post [] fr σ s s1 σ1)(hn:∀a∈wr,s.heap.get? a=none)(q:Post (wr++F) (wr++fr) σ1 s1 s2 σ2):Post F fr σ s s2 σ2 where
 shape:=by obtain ⟨h,tk,rfl⟩:=p.shape;obtain ⟨h',tk',rfl⟩:=q.shape;exact ⟨h',tk',rfl⟩
 kept:=fun b o nb e=>q.kept b o (fun m=>by
  rcases List.mem_append.mp m with z| z
  ·exact p.less.nin nb e (List.mem_append_left _ z)
  ·rcases List.mem_append.mp z with z| z
   ·replace e:=(hn b z ..).symm.trans e;contradiction
   ·exact nb (List.mem_append_right _ z)) (p.kept b o nb e)
 slots:=fun b o m nf e=>by
  obtain ⟨sl,e1,r1⟩:=p.slots b o m (by simp) e
  obtain ⟨sl',e2,r2⟩:=q.slots b _ (List.mem_append_right _ m) (fun z=>by
   rcases List.mem_append.mp z with z| z
   ·replace e:=(hn b z ..).symm.trans e;contradiction
   ·exact nf z) e1
  exact ⟨sl',e2,fun z=>(r2 z).trans (r1 z)⟩
 alive:=fun b o e=>by obtain ⟨o1,e1⟩:=p.alive b o e;exact q.alive b o1 e1
 grow:=fun a m=>by
  rcases q.grow a m with z| z
  ·exact p.grow a z
  ·exact .inr (none_back p z)
end Mine
namespace Mine
open PySem PySem.Calls PyProof.Rows
structure Ow (wr:List Addr)(h h':Heap):Prop where
 kept:∀b o,b∉wr->h.get? b=some o->h'.get? b=some o
 live:∀b∈wr,∃o,h'.get? b=some o
theorem Ok.ow {c:Cx}{A:Around}{fr wr:List Addr}{σ:Sto}{h h':Heap}(ok:Ok c A (wr++fr) σ h)(hnd:∀b∈wr,∀o,h.get? b=some o->∀es n,o.data≠.dict es n)(y:Ow wr h h'):Ok c A (wr++fr) σ h' where
 base:=fun b o e=>y.kept b o (fun m=>by replace e:=(ok.new b (List.mem_append_right _ (List.mem_append_left _ m)) ..).symm.trans e;contradiction) (ok.base b o e)
 sto:=fun p hp=>IsO.move (fun b o n e=>y.kept b o (fun m=>n (List.mem_append_right _ (List.mem_append_left _ m))) e) (fun a m=>.inl m) (fun x e=>y.kept _ _ (fun m=>by
  have:=ok.nd
  rw [List.nodup_append] at this
  exact this.2.2 _ (List.mem_map_of_mem hp) _ (List.mem_append_left _ m) rfl) e) (ok.sto p hp)
 nd:=ok.nd
 new:=ok.new
 live:=fun a m=>by
  by_cases z:a∈wr
  ·exact y.live a z
  ·obtain ⟨o,e⟩:=ok.live a m;exact ⟨o,y.kept _ _ z e⟩
 stack:=by
  obtain ⟨l,a,b,d,f⟩:=ok.stack
  have nw:∀x∈l.filterMap (·.frame),x∉wr:=fun x hx hw=>by
   obtain ⟨o,es,n,g,r⟩:=f x hx
   exact hnd x hw o g es n r
  refine ⟨l,a,?_,d,fun x hx=> ?_⟩
  ·have:∀x∈l.filterMap (·.frame),x∈l.filterMap (·.frame):=fun x hx=>hx
   refine FunFrames.turn (fr:=l.filterMap (·.frame)) (fun x o hx g k=>⟨o,y.kept _ _ (nw x hx) g,k⟩) b this
  ·obtain ⟨o,es,n,g,r⟩:=f x hx;exact ⟨o,es,n,y.kept _ _ (nw x hx) g,r⟩
theorem Post.ow {F fr wr:List Addr}{σ:Sto}{s:Shared}{h':Heap}{tk:Nat}(y:Ow wr s.heap h'):Post (wr++F) (wr++fr) σ s {s with heap:=h',toks:=tk} σ where
 shape:=⟨h',tk,rfl⟩
 kept:=fun b o n e=>y.kept b o (fun m=>n (List.mem_append_right _ (List.mem_append_left _ m))) e
 slots:=fun b o m n e=>⟨o.slots,y.kept b o (fun z=>n (List.mem_append_left _ z)) e,fun _=>rfl⟩
 alive:=fun b o e=>by
  by_cases z:b∈wr
  ·exact y.live b z
  ·exact ⟨o,y.kept _ _ z e⟩
 grow:=fun _ m=>.inl m
theorem Fm.ow {env:Env}{m:Vars}{fr wr K:List Addr}{h h':Heap}(f:Fm env m (wr++fr) K h)(hK:∀b∈wr,b∈K)(hn:env.locals∉wr/\∀p∈env.cells,p.2∉wr)(y:Ow wr h h'):Fm env m (wr++fr) K h':=by
 have st:Stay K h h':=fun b o n e=>y.kept b o (fun m=>n (hK _ m)) e
 have ls:Less K K h:=fun a m=>.inl m
 exact {
  kind:=f.kind
  glob:=f.glob
  bui:=f.bui
  ns:=by
   obtain ⟨mv,⟨o,es,ep,g,r⟩,q⟩:=f.ns
   exact ⟨mv,⟨o,es,ep,y.kept _ _ hn.1 g,r⟩,fun x d e k=>by obtain ⟨v,a,b⟩:=q x d e k;exact ⟨v,a,V.move st ls _ _ b⟩⟩
  cell:=fun x cc e=>by
   obtain ⟨ov,⟨o,g,r⟩,q⟩:=f.cell x cc e
   exact ⟨ov,⟨o,y.kept _ _ (hn.2 _ (mem_of_lookup e)) g,r⟩,fun d e k=>by obtain ⟨v,a,b⟩:=q d e k;exact ⟨v,a,V.move st ls _ _ b⟩⟩
  has:=f.has
  inn:=f.inn
  apart:=f.apart}
structure Src (c:Cx)(A:Around)(tg:Expr)(I:Addr)(wr:List Addr)(vals:List Vars)(Inv:Sto->Prop)(St:Nat->List Addr->Heap->Prop)(Mid:Nat->List Addr->Heap->Value->Prop):Prop where
 nodict:∀i K h,St i K h->∀b∈wr,∀o,h.get? b=some o->∀es n,o.data≠.dict es n
 move:∀i K K' h h',St i K h->Stay K h h'->(∀b∈wr,∀o,h.get? b=some o->h'.get? b=some o)->Less K K' h->St i K' h'
 next:∀i σ fr (s:Shared) (Q:Option Value->Shared->Prop) (E:Value->Shared->Prop),i<vals.length->Ok c A (wr++fr) σ s.heap->St i (keys σ++(wr++fr)) s.heap->Inv σ->
  (∀v h' tk,Mid i (keys σ++(wr++fr)) h' v->Ow wr s.heap h'->Q (some v) {s with heap:=h',toks:=tk})->wpAny (model c.prog c.w) A (pyNext (.ref I)) Q E s
 put:∀i σ fr (F:List Addr) (env:Env) (m:Vars) v (s:Shared) (Q:Unit->Shared->Prop) (E:Value->Shared->Prop) x,vals[i]? =some x->Mid i (keys σ++(wr++fr)) s.heap v->Ok c A (wr++fr) σ s.heap->Fm env m (wr++fr) (keys σ++(wr++fr)) s.heap->(env.locals∈fr/\∀p∈env.cells,p.2∈fr)->
  (∀y∈x,env.kindOf y.1=some .local\/env.kindOf y.1=some .cell)->(env.locals∈F/\∀y∈x,env.kindOf y.1=some .cell->∀cc,env.cells.lookup y.1=some cc->cc∈F)->(∀b∈wr,∀o,s.heap.get? b=some o->∀es n,o.data≠.dict es n)->
  (∀h' tk,St (i+1) (keys σ++(wr++fr)) h'->Fm env (x++m) (wr++fr) (keys σ++(wr++fr)) h'->Ok c A (wr++fr) σ h'->Post (wr++F) (wr++fr) σ s {s with heap:=h',toks:=tk} σ->Q () {s with heap:=h',toks:=tk})->
  wpAny (model c.prog c.w) A (letOwnedTupleGo tg (.ref I) v) (fun _ s'=>wpAny (model c.prog c.w) A (assign tg env v) Q E s') E s
 midnd:∀i K h v,Mid i K h v->∀b∈wr,∀o,h.get? b=some o->∀es n,o.data≠.dict es n
 done:∀σ fr (s:Shared) (Q:Option Value->Shared->Prop) (E:Value->Shared->Prop),Ok c A (wr++fr) σ s.heap->St vals.length (keys σ++(wr++fr)) s.heap->Inv σ->
  (∀h' tk,(∀b o,b∉wr->s.heap.get? b=some o->h'.get? b=some o)->Q none {s with heap:=h',toks:=tk})->wpAny (model c.prog c.w) A (pyNext (.ref I)) Q E s
 self:∀i K (s:Shared) (Q:Value->Shared->Prop) (E:Value->Shared->Prop),St i K s.heap->Q (.ref I) s->wpAny (model c.prog c.w) A (pyIter (.ref I)) Q E s
inductive ItP (c:Cx)(A:Around)(fr:List Addr)(env:Env)(m:Vars)(σ:Sto)(tg:Expr)(Q:List Vars->(Sto->Prop)->Sto->Prop)(s:Shared)(it:Value)(s2:Shared):Prop
 | mk (I:Addr) (wr:List Addr) (vals:List Vars) (Inv:Sto->Prop) (St:Nat->List Addr->Heap->Prop) (Mid:Nat->List Addr->Heap->Value->Prop) (σ':Sto) (e:it=.ref I) (p:Post [] fr σ s s2 σ') (ok:Ok c A fr σ' s2.heap) (okw:Ok c A (wr++fr) σ' s2.heap) (hn:∀a∈wr,s.heap.get? a=none)
   (fmw:Fm env m (wr++fr) (keys σ'++(wr++fr)) s2.heap) (src:Src c A tg I wr vals Inv St Mid) (st:St 0 (keys σ'++(wr++fr)) s2.heap) (inv:Inv σ') (q:Q vals Inv σ'):ItP c A fr env m σ tg Q s it s2
noncomputable def WIt (c:Cx)(A:Around)(fr:List Addr)(env:Env)(m:Vars)(σ:Sto)(iter tg:Expr)(Q:List Vars->(Sto->Prop)->Sto->Prop)(X:Addr->Sto->Prop):Prop:=
 ∀s,Ok c A fr σ s.heap->Fm env m fr (keys σ++fr) s.heap->
  wpAny (model c.prog c.w) A (eval iter env) (fun x s1=>wpAny (model c.prog c.w) A (pyIter x) (ItP c A fr env m σ tg Q s) (Ex c A none fr σ s false X) s1) (Ex c A none fr σ s false X) s
theorem Post.fin {F fr wr:List Addr}{σ σ':Sto}{s s':Shared}{h':Heap}{tk:Nat}(p:Post F fr σ s s' σ')(hn:∀a∈wr,s.heap.get? a=none)(hw:∀a∈fr,a∉wr)(k:∀b o,b∉wr->s'.heap.get? b=some o->h'.get? b=some o):Post F fr σ s {s' with heap:=h',toks:=tk} σ' where
 shape:=by obtain ⟨h,t,rfl⟩:=p.shape;exact ⟨h',tk,rfl⟩
 kept:=fun b o n e=>k b o (fun z=>by replace e:=(hn b z ..).symm.trans e;contradiction) (p.kept b o n e)
 slots:=fun b o m n e=>by obtain ⟨sl,e1,r⟩:=p.slots b o m n e;exact ⟨sl,k _ _ (hw b m) e1,r⟩
 alive:=fun b o e=>by obtain ⟨o1,e1⟩:=p.alive b o e;exact ⟨o1,k _ _ (fun z=>by replace e:=(hn b z ..).symm.trans e;contradiction) e1⟩
 grow:=p.grow
theorem Ok.fin {c:Cx}{A:Around}{fr wr:List Addr}{σ:Sto}{h h':Heap}(ok:Ok c A (wr++fr) σ h)(hin:∀l,A.frames=some l->∀b∈l.filterMap (·.frame),b∈fr)(k:∀b o,b∉wr->h.get? b=some o->h'.get? b=some o):Ok c A fr σ h':=by
 have ok1:Ok c A fr σ h:=Ok.less (ex:=[]) ok hin
 have nd:=ok.nd
 rw [List.nodup_append,List.nodup_append] at nd
 have nf:=fun a ha hw=>nd.2.1.2.2 a hw a ha rfl
 have nk:=fun a ha hw=>nd.2.2 a ha a (List.mem_append_left _ hw) rfl
 exact {
  base:=fun b o e=>k b o (fun m=>by replace e:=(ok.new b (List.mem_append_right _ (List.mem_append_left _ m)) ..).symm.trans e;contradiction) (ok.base b o e)
  sto:=fun p hp=>IsO.move (K:=keys σ++(wr++fr)) (fun b o n e=>k b o (fun m=>n (List.mem_append_right _ (List.mem_append_left _ m))) e) (less_drop _ _) (fun x e=>k _ _ (nk _ (List.mem_map_of_mem hp)) e) (ok.sto p hp)
  nd:=ok1.nd
  new:=ok1.new
  live:=fun a m=>by obtain ⟨o,e⟩:=ok1.live a m;exact ⟨o,k _ _ (nf a m) e⟩
  stack:=by
   obtain ⟨l,a,b,d,f⟩:=ok1.stack
   refine ⟨l,a,FunFrames.turn (fr:=fr) (fun x o hx g q=>⟨o,k _ _ (nf x hx) g,q⟩) b d,d,fun x hx=> ?_⟩
   obtain ⟨o,es,n,g,r⟩:=f x hx;exact ⟨o,es,n,k _ _ (nf x (d x hx)) g,r⟩}
theorem Ok.frames_in {c:Cx}{A:Around}{fr:List Addr}{σ:Sto}{h:Heap}(ok:Ok c A fr σ h):∀l,A.frames=some l->∀b∈l.filterMap (·.frame),b∈fr:=fun l hl b hb=>by
 obtain ⟨l',h1,_,h3,_⟩:=ok.stack
 replace h1:=(hl ..).symm.trans h1;obtain rfl:=Option.some.inj h1;exact h3 b hb
section
variable {c:Cx} {A:Around} {fr:List Addr} {σ:Sto} {X:Addr->Sto->Prop} {env:Env} {m:Vars} {N:Vars->Sto->Prop} {R:D->Sto->Prop}
theorem Ex.loop {wr:List Addr}{σ1 σ2:Sto}{s s1 s2 s3:Shared}{v:Value}(hst:∃l,A.frames=some (env::l))(hf:env.frame=some env.locals)(hin:∀l,A.frames=some l->∀b∈l.filterMap (·.frame),b∈fr)(hi:env.locals∈fr/\∀p∈env.cells,p.2∈fr)
  (p:Post [] fr σ s s1 σ1) (hn:∀a∈wr,s.heap.get? a=none) (q:Post (wr++Fa env) (wr++fr) σ1 s1 s2 σ2) (x:Ex c A (some env) (wr++fr) σ2 s2 false X v s3):
  notedBy (model c.prog c.w) A env (fun e s'=>cameBackBy (model c.prog c.w) A env (Ex c A (some env) fr σ s false X) e s') v s3:=nomatch x
inductive Loop (c:Cx)(A:Around)(env:Env)(m:Vars)(body:List Stmt)(N:Vars->Sto->Prop)(R:D->Sto->Prop)(X:Addr->Sto->Prop)(vals:List Vars)(Inv:Sto->Prop)(σ1:Sto):Prop
 | mk (hk:∀x∈vals,∀y∈x,env.kindOf y.1=some .local\/env.kindOf y.1=some .cell) (L:Nat->Vars->Sto->Prop) (h0:L 0 m σ1) (hinv:∀k m' σ',L k m' σ'->Inv σ')
   (step:∀k x m' σ',vals[k]? =some x->L k m' σ'->∀fr',WS c A fr' env (x++m') σ' body (fun m'' σ''=>L (k+1) m'' σ'') R X) (fin:∀m' σ',L vals.length m' σ'->N m' σ'):Loop c A env m body N R X vals Inv σ1
inductive ForI (c:Cx)(A:Around)(env:Env)(frw F:List Addr)(σ1:Sto)(s2:Shared)(n:Nat)(L:Nat->Vars->Sto->Prop)(St:Nat->List Addr->Heap->Prop)(k:Nat)(s':Shared):Prop
 | mk (i:Nat) (m':Vars) (σ':Sto) (e:k=n+1-i) (hi:i<=n) (hL:L i m' σ') (pp:Post F frw σ1 s2 s' σ') (ok:Ok c A frw σ' s'.heap) (fm:Fm env m' frw (keys σ'++frw) s'.heap) (st:St i (keys σ'++frw) s'.heap):ForI c A env frw F σ1 s2 n L St k s'
theorem W1.for_ {tg iter:Expr}{body:List Stmt}{pos:Pos}(hst:∃l,A.frames=some (env::l))(hf:env.frame=some env.locals)
  (h:WIt c A fr env m σ iter tg (Loop c A env m body N R X) X) (hs:∀x,foldedSetIterable iter env x=pure x:=by intro _;rfl):W1 c A fr env m σ (.For tg iter body [] pos) N R X:=fun s ok fm=>by
 have hin:=ok.frames_in
 refine wpAny_For (wpAny_mono (h s ok fm) (fun x s1 h1=>wpAny_mono h1 (fun it s2 h2=> ?_) fun _ _ x=>x.wide fm) fun _ _ x=>x.wide fm) hs
 obtain ⟨I,wr,vals,Inv,St,Mid,σ1,rfl,p,ok1,okw,hn,fmw,src,st0,inv0,hkinds,L,L0,LI,Lturn,Lend⟩:=h2
 have ndw:=okw.nd
 rw [List.nodup_append,List.nodup_append] at ndw
 have nf:=fun a ha hw=>ndw.2.1.2.2 a hw a ha rfl
 have hloc:env.locals∉wr/\∀q∈env.cells,q.2∉wr:=⟨nf _ fm.inn.1,fun q hq=>nf _ (fm.inn.2 q hq)⟩
 refine codeAny_forLoopT (ForI c A env (wr++fr) (wr++Fa env) σ1 s2 vals.length L St)
  ?_ (vals.length+1) ⟨0,m,σ1,rfl,Nat.zero_le _,L0,Post.refl ..,okw,fmw,st0⟩
 rintro k s' ⟨i,m',σ',rfl,hi,hL,pp,okk,fmk,stk⟩
 by_cases hlt:i<vals.length
 ·obtain ⟨x,hx⟩:∃x,vals[i]? =some x:=⟨vals[i],by simp⟩
  refine src.next i σ' fr s' _ _ hlt okk stk (LI _ _ _ hL) fun v h' tk hmid how=> ?_
  have fm':=fmk.ow (fun b hb=>List.mem_append_right _ (List.mem_append_left _ hb)) hloc how
  refine src.put i σ' fr (Fa env) env m' v _ _ _ x hx hmid (okk.ow (src.nodict _ _ _ stk) how) fm' fm.inn (hkinds x (List.mem_of_getElem? hx)) ⟨List.mem_cons_self,fun y _ _ cc hcc=>List.mem_cons_of_mem _ (List.mem_map_of_mem (f:=(·.2)) (mem_of_lookup hcc))⟩ (src.midnd _ _ _ _ hmid) fun h2 tk2 st2 fm2 ok2 p2=> ?_
  have pp2:=(pp.trans (Post.ow (F:=Fa env) (fr:=fr) (σ:=σ') (tk:=tk) how)).trans p2
  refine wpAny_mono (Lturn i x m' σ' hx hL (wr++fr) _ ok2 fm2) (fun fl s3 hx3=> ?_) fun v s3 hx3=> ?_
  ·obtain ⟨out,σ3,p3,ok3,r3,q3⟩:=hx3
   have pp3:=pp2.trans (p3.wide (F':=wr++Fa env) fun a ha=>List.mem_append_right _ ha)
   cases out with
   | next m3=>
    obtain ⟨rfl,fm3⟩:=r3
    refine ⟨vals.length+1-(i+1),z598 hi,i+1,m3,σ3,rfl,hlt,q3,pp3,ok3,fm3,?_⟩
    refine src.move _ _ _ _ _ st2 p3.stay (fun b hb o e=> ?_) p3.less
    obtain ⟨sl,e1,r1⟩:=p3.slots b o (List.mem_append_left _ hb) (fun z=>by
     rcases List.mem_cons.mp z with rfl| z
     ·exact hloc.1 hb
     ·obtain ⟨q,hq,rfl⟩:=List.mem_map.mp z;exact hloc.2 q hq hb) e
    have:=r1 (src.nodict _ _ _ st2 b hb o e)
    subst this;exact e1
   | ret d=>
    obtain ⟨v,rfl,hv,fv⟩:=r3
    exact ⟨.ret d,σ3,Post.drop p hn pp3,Ok.less (ex:=[]) ok3 hin,⟨v,rfl,V.move (fun _ _ _ e=>e) (less_drop _ _) _ _ hv,fv.shift fm.inn (less_drop _ _)⟩,q3⟩
  ·exact Ex.loop hst hf hin fm.inn p hn pp2 hx3
 ·obtain rfl:i=vals.length:=z599 hi hlt
  refine src.done σ' fr s' _ _ okk stk (LI _ _ _ hL) fun h' tk hk=> ?_
  refine wpAny_execs_nil ?_
  refine ⟨.next m',σ',Post.fin (Post.drop p hn pp) hn nf hk,(okk.fin hin hk),⟨rfl,?_⟩,Lend _ _ hL⟩
  have f1:=fmk.shift (fr':=fr) (K':=keys σ'++fr) fm.inn (less_drop _ _)
  have st:Stay (keys σ'++(wr++fr)) s'.heap h':=fun b o n e=>hk b o (fun z=>n (List.mem_append_right _ (List.mem_append_left _ z))) e
  exact {
   kind:=f1.kind
   glob:=f1.glob
   bui:=f1.bui
   ns:=by
    obtain ⟨mv,⟨o,es,ep,g,r⟩,q⟩:=fmk.ns
    exact ⟨mv,⟨o,es,ep,hk _ _ hloc.1 g,r⟩,fun x d e k=>by obtain ⟨v,a,b⟩:=q x d e k;exact ⟨v,a,V.move st (less_drop _ _) _ _ b⟩⟩
   cell:=fun x cc e=>by
    obtain ⟨ov,⟨o,g,r⟩,q⟩:=fmk.cell x cc e
    exact ⟨ov,⟨o,hk _ _ (hloc.2 _ (mem_of_lookup e)) g,r⟩,fun d e k=>by obtain ⟨v,a,b⟩:=q d e k;exact ⟨v,a,V.move st (less_drop _ _) _ _ b⟩⟩
   has:=f1.has
   inn:=f1.inn
   apart:=f1.apart}
end
end Mine
namespace Mine
open PySem PySem.Calls PyProof.Rows
noncomputable def relab (scope sc:Scope):Scope:=
 {scope with names:=scope.names.map fun (n,k)=>if (k==.free&&sc.kind==.function&&sc.names.lookup n==some .cell) then (n,.cell) else (n,k)}
noncomputable def capt (scope:Scope)(m:Vars):Vars:=m.filter fun p=>scope.names.lookup p.1==some .free
noncomputable def closOf (env:Env):List (Str × NameKind)->List (Str × Addr)->List (Str × Addr)
 | [],acc=>acc
 | (n,k)::r,acc=>closOf env r (if k==.free then (match env.cells.lookup n with| some a=>(n,a)::acc| none=>acc) else acc)
theorem closureFor_eq {scope:Scope}{env:Env}(h:∀x∈scope.names,x.2=.free->∃a,env.cells.lookup x.1=some a):closureFor scope env=pure (closOf env scope.names []):=by
 have:∀(names:List (Str × NameKind)) (acc:List (Str × Addr)),(∀x∈names,x.2=.free->∃a,env.cells.lookup x.1=some a)->
   (forIn names acc fun x (r:List (Str × Addr))=>(if (x.2==NameKind.free)=true then do let a<-cellOf env x.1;pure (ForInStep.yield ((x.1,a)::r)) else pure (ForInStep.yield r):Sem (ForInStep (List (Str × Addr)))))=pure (closOf env names acc):=by
  intro names
  induction names with
  | nil=>intro acc _;rfl
  | cons x r ih=>
   intro acc hx
   rw [List.forIn_cons]
   obtain ⟨n,k⟩:=x
   unfold closOf
   by_cases hk:(k==NameKind.free)=true
   ·refine Exists.elim (hx (n,k) List.mem_cons_self (by simpa using hk)) fun a ha=> ?_
    have hc:cellOf env n=pure a:=by unfold cellOf;rw [ha]
    simp only [hk,hc,ha]
    exact ih _ fun y hy=>hx y (List.mem_cons_of_mem _ hy)
   ·simp only [hk,if_false]
    exact ih _ fun y hy=>hx y (List.mem_cons_of_mem _ hy)
 exact congrArg (fun t=>t>>=fun cs=>pure cs) (this scope.names [] h)
theorem closOf_lookup {env:Env}{x:Str}:∀(names:List (Str × NameKind)) (acc:List (Str × Addr)) {a:Addr},(closOf env names acc).lookup x=some a->acc.lookup x=some a\/env.cells.lookup x=some a
 | [],acc,a,h=>.inl h
 | (n,k)::r,acc,a,h=>by
  rcases closOf_lookup r _ h with h| h
  ·split at h
   ·split at h
    ·rename_i b hb
     dsimp only [List.lookup_cons] at h
     by_cases q:(x==n)=true
     ·simp only [q] at h;obtain rfl:=Option.some.inj h;exact (beq_iff_eq.mp q)▸.inr hb
     ·simp only [q] at h;exact .inl h
    ·exact .inl h
   ·exact .inl h
  ·exact .inr h
theorem closOf_has {env:Env}{x:Str}(hx:∃a,env.cells.lookup x=some a):∀(names:List (Str × NameKind)) (acc:List (Str × Addr)),((x,NameKind.free)∈names\/∃a,acc.lookup x=some a)->∃a,(closOf env names acc).lookup x=some a
 | [],acc,h=>h.elim (fun h=>nomatch h) id
 | (n,k)::r,acc,h=>by
  refine closOf_has hx r _ ?_
  rcases h with h| ⟨a,h⟩
  ·rcases List.mem_cons.mp h with e| h
   ·cases e
    obtain ⟨a,ha⟩:=hx
    refine .inr ⟨a,?_⟩
    simp [ha]
   ·exact .inl h
  ·refine .inr ?_
   split
   ·split
    ·dsimp only [List.lookup_cons]
     by_cases q:(x==n)=true
     ·exact ⟨_,by rw [q]⟩
     ·exact ⟨a,by simp only [q];exact h⟩
    ·exact ⟨a,h⟩
   ·exact ⟨a,h⟩
theorem closOf_mem {env:Env}:∀(names:List (Str × NameKind)) (acc:List (Str × Addr)) {p:Str × Addr},p∈closOf env names acc->p∈acc\/env.cells.lookup p.1=some p.2
 | [],acc,p,h=>.inl h
 | (n,k)::r,acc,p,h=>by
  rcases closOf_mem r _ h with h| h
  ·split at h
   ·split at h
    ·rename_i b hb
     rcases List.mem_cons.mp h with rfl| h
     ·exact .inr hb
     ·exact .inl h
    ·exact .inl h
   ·exact .inl h
  ·exact .inr h
theorem closOf_pair {env:Env}(hap:env.cells.Pairwise fun x y=>x.2≠y.2):∀(names:List (Str × NameKind)) (acc:List (Str × Addr)),(names.map (·.1)).Nodup->(∀p∈acc,p.1∉names.map (·.1))->(∀p∈acc,env.cells.lookup p.1=some p.2)->
  (acc.Pairwise fun x y=>x.2≠y.2)->(closOf env names acc).Pairwise fun x y=>x.2≠y.2
 | [],acc,_,_,_,h=>h
 | (n,k)::r,acc,nd,hd,hl,h=>by
  rw [List.map_cons,List.nodup_cons] at nd
  unfold closOf
  have hd':=fun p hp z=>hd p hp (List.mem_cons_of_mem _ z)
  split
  ·split
   ·rename_i b hb
    refine closOf_pair hap r _ nd.2 (fun p hp=> ?_) (fun p hp=> ?_) (List.pairwise_cons.mpr ⟨fun y hy z=> ?_,h⟩)
    ·rcases List.mem_cons.mp hp with rfl| hp
     ·exact nd.1
     ·exact hd' p hp
    ·rcases List.mem_cons.mp hp with rfl| hp
     ·exact hb
     ·exact hl p hp
    ·have:=name_of_addr hap (mem_of_lookup hb) (z▸mem_of_lookup (hl y hy))
     exact hd y hy (by exact this▸List.mem_cons_self)
   ·exact closOf_pair hap r _ nd.2 hd' hl h
  ·exact closOf_pair hap r _ nd.2 hd' hl h
theorem Fm.comp {env:Env}{m:Vars}{fr K:List Addr}{h:Heap}{scope:Scope}{C:Addr}(f:Fm env m fr K h)(hk:scope.kind=.function)(hC:C∈fr)(hns:h.Ns C fun _=>none)(hnd:(scope.names.map (·.1)).Nodup)(hcell:∀y∈scope.names,y.2≠.cell)
  (hfree:∀y∈scope.names,y.2=.free->∃a,env.cells.lookup y.1=some a) (hCc:∀p∈env.cells,p.2≠C) (hkind:∀x,scope.names.lookup x=some .free->env.kindOf x=some .cell\/env.kindOf x=some .free):Fm (compEnvC scope (closOf env scope.names []) C env) (capt scope m) fr K h:=by
 have look:∀x k,(relabel scope env).names.lookup x=some k->scope.names.lookup x=some k\/(k=.cell/\scope.names.lookup x=some .free):=by
  intro x k
  unfold relabel
  generalize scope.names=names
  induction names with
  | nil=>intro h;contradiction
  | cons y r ih=>
   obtain ⟨n,kk⟩:=y
   intro h
   simp only [List.map_cons] at h
   by_cases hc:(kk==NameKind.free&&env.scope.kind==.function&&env.kindOf n==some .cell)=true
   ·rw [if_pos hc] at h
    dsimp only [List.lookup_cons] at h
    by_cases q:(x==n)=true
    ·rw [q] at h;obtain rfl:=Option.some.inj h
     refine .inr ⟨rfl,?_⟩
     simp only [List.lookup_cons,q]
     simp only [Bool.and_eq_true,beq_iff_eq] at hc
     exact congrArg _ (hc.1.1 ..)
    ·simp only [q] at h
     rcases ih h with z| z
     ·exact .inl (by rw [List.lookup_cons];simp only [q];exact z)
     ·exact .inr ⟨z.1,by rw [List.lookup_cons];simp only [q];exact z.2⟩
   ·rw [if_neg hc] at h
    replace h:=(List.lookup_cons ..).symm.trans h
    by_cases q:(x==n)=true
    ·simp only [q] at h;obtain rfl:=Option.some.inj h;exact .inl (by simp only [List.lookup_cons,q])
    ·simp only [q] at h
     rcases ih h with z| z
     ·exact .inl (by dsimp only [List.lookup_cons];simp only [q];exact z)
     ·exact .inr ⟨z.1,by dsimp only [List.lookup_cons];simp only [q];exact z.2⟩
 have capt_look:∀(l:Vars) x d,(capt scope l).lookup x=some d->l.lookup x=some d/\scope.names.lookup x=some .free:=by
  intro l
  induction l with
  | nil=>intro x d h;contradiction
  | cons p r ih=>
   intro x d h
   obtain ⟨y,dy⟩:=p
   unfold capt at h
   rw [List.filter_cons] at h
   by_cases hf:(scope.names.lookup y==some NameKind.free)=true
   ·rw [if_pos hf,lookup_cons_eq] at h
    by_cases q:x=y
    ·subst q;replace h:=(if_pos rfl ..).symm.trans h;obtain rfl:=Option.some.inj h
     exact ⟨by exact (lookup_cons_eq ..).trans (if_pos rfl ..),by simpa using hf⟩
    ·rw [if_neg q] at h
     have:=ih x d h
     exact ⟨by rw [lookup_cons_eq,if_neg q];exact this.1,this.2⟩
   ·rw [if_neg hf] at h
    have:=ih x d h
    have q:x≠y:=fun z=>hf (by rw [<-z,this.2];rfl)
    exact ⟨by rw [lookup_cons_eq,if_neg q];exact this.1,this.2⟩
 have notcell:=fun x z=>by
  have:(x,NameKind.cell)∈scope.names:=by
   have:∀(l:List (Str × NameKind)),l.lookup x=some .cell->(x,NameKind.cell)∈l:=by
    intro l
    induction l with
    | nil=>intro h;contradiction
    | cons p r ih=>
     obtain ⟨y,k⟩:=p
     intro h
     rw [List.lookup_cons] at h
     by_cases q:(x==y)=true
     ·rw [q] at h;cases h;rw [beq_iff_eq.mp q];exact List.mem_cons_self
     ·simp only [q] at h;exact List.mem_cons_of_mem _ (ih h)
   exact this _ z
  exact hcell _ this rfl
 have memfree:∀x,scope.names.lookup x=some .free->(x,NameKind.free)∈scope.names:=fun x z=>by
  have:∀(l:List (Str × NameKind)),l.lookup x=some .free->(x,NameKind.free)∈l:=by
   intro l
   induction l with
   | nil=>intro h;cases h
   | cons p r ih=>
    obtain ⟨y,k⟩:=p
    intro h
    rw [List.lookup_cons] at h
    by_cases q:(x==y)=true
    ·rw [q] at h;cases h;rw [beq_iff_eq.mp q];exact List.mem_cons_self
    ·simp only [q] at h;exact List.mem_cons_of_mem _ (ih h)
  exact this _ z
 have clmem:∀p∈closOf env scope.names [],env.cells.lookup p.1=some p.2:=fun p hp=>(closOf_mem _ _ hp).resolve_left (by simp)
 exact {
  kind:=hk
  glob:=f.glob
  bui:=f.bui
  ns:=⟨_,hns,fun x d e k=>by
   have h1:=(capt_look m x d e).2
   rcases look x .local k with z| z
   ·rw [h1] at z;cases z
   ·cases z.1⟩
  cell:=fun x cc e=>by
   have e':env.cells.lookup x=some cc:=(closOf_lookup _ _ e).resolve_left (by simp)
   obtain ⟨ov,hc,r⟩:=f.cell x cc e'
   refine ⟨ov,hc,fun d ed k=> ?_⟩
   obtain ⟨h1,h2⟩:=capt_look m x d ed
   exact r d h1 (hkind x h2)
  has:=fun x k=>by
   have h2:scope.names.lookup x=some .free:=by
    rcases k with k| k
    ·rcases look x .cell k with z| z
     ·exact absurd z (notcell x)
     ·exact z.2
    ·rcases look x .free k with z| z
     ·exact z
     ·exact z.2
   have hm:=memfree x h2
   exact closOf_has (hfree _ hm rfl) _ _ (.inl hm)
  inn:=⟨hC,fun p hp=>f.inn.2 p (mem_of_lookup (clmem p hp))⟩
  apart:=⟨closOf_pair f.apart.1 _ _ hnd (by simp) (by simp) List.Pairwise.nil,fun p hp=>hCc p (mem_of_lookup (clmem p hp))⟩}
end Mine
namespace Mine
open PySem PySem.Calls PyProof.Rows
noncomputable abbrev NoX:Addr->Sto->Prop:=fun _ _=>False
theorem Ex.no {c:Cx}{A:Around}{G:Option Env}{fr:List Addr}{σ:Sto}{s s':Shared}{t:Bool}{v:Value}(x:Ex c A G fr σ s t NoX v s'):False:=nomatch x
section
variable {c:Cx} {A:Around} {fr:List Addr} {σ:Sto} {X:Addr->Sto->Prop} {env:Env} {m:Vars}
noncomputable def WIfs (c:Cx)(A:Around)(fr:List Addr)(env:Env)(m:Vars)(σ:Sto)(ifs:List Expr)(Q:Bool->Sto->Prop)(X:Addr->Sto->Prop):Prop:=
 ∀s,Ok c A fr σ s.heap->Fm env m fr (keys σ++fr) s.heap->W c A none fr σ (forIn ifs true fun c r=>if r=true then do let ok<-isTrue c env (eval c env);pure (ForInStep.yield ok) else pure (ForInStep.yield r)) RB Q X s
theorem WIfs.nil {Q:Bool->Sto->Prop}(h:Q true σ):WIfs c A fr env m σ [] Q X:=fun s ok fm=>wpAny_tests_nil ⟨true,σ,Post.refl ..,ok,rfl,h⟩
theorem WIfs.one {e:Expr}{Q:Bool->Sto->Prop}(h:WT c A fr env m σ e Q X):WIfs c A fr env m σ [e] Q X:=fun s ok fm=>wpAny_tests_one (h s ok fm)
theorem Fm.sub {env:Env}{m m':Vars}{fr K:List Addr}{h:Heap}(f:Fm env m fr K h)(hs:∀x d,m'.lookup x=some d->m.lookup x=some d):Fm env m' fr K h where
 kind:=f.kind
 glob:=f.glob
 bui:=f.bui
 ns:=by obtain ⟨mv,hn,r⟩:=f.ns;exact ⟨mv,hn,fun x d e k=>r x d (hs x d e) k⟩
 cell:=fun x cc e=>by obtain ⟨ov,hc,r⟩:=f.cell x cc e;exact ⟨ov,hc,fun d e k=>r d (hs x d e) k⟩
 has:=f.has
 inn:=f.inn
 apart:=f.apart
theorem lookup_append_none {x:Str}:∀{a b:Vars},(∀p∈a,p.1≠x)->(a++b).lookup x=b.lookup x
 | [],_,_=>rfl
 | (y,d)::r,b,h=>by
  rw [List.cons_append,lookup_cons_eq,if_neg (fun z=>h _ List.mem_cons_self z.symm)]
  exact lookup_append_none fun p hp=>h p (List.mem_cons_of_mem _ hp)
theorem capt_free {scope:Scope}{x:Str}{d:D}:∀{m:Vars},(capt scope m).lookup x=some d->scope.names.lookup x=some .free
 | [],h=>by contradiction
 | (y,dy)::r,h=>by
  unfold capt at h
  rw [List.filter_cons] at h
  by_cases hf:(scope.names.lookup y==some NameKind.free)=true
  ·rw [if_pos hf,lookup_cons_eq] at h
   by_cases q:x=y
   ·subst q;simpa using hf
   ·rw [if_neg q] at h;exact capt_free (m:=r) h
  ·rw [if_neg hf] at h;exact capt_free (m:=r) h
structure FinC (c:Cx)(A:Around)(fr:List Addr)(σ:Sto)(s s':Shared)(σ':Sto)(ds:List D)(a C:Addr):Prop where
 post:Post [] fr σ s s' σ'
 ok:Ok c A ([C,a]++fr) σ' s'.heap
 list:∃vs n,s'.heap.get? a=some (lstObj vs n)/\Vs (keys σ'++([C,a]++fr)) s'.heap ds vs
 newa:s.heap.get? a=none
 newC:s.heap.get? C=none
 ns:∃m',s'.heap.Ns C m'
 frames:∀l,A.frames=some l->∀b∈l.filterMap (·.frame),b∈fr
theorem lookup_mem:∀{l:List (Str × NameKind)},(l.map (·.1)).Nodup->∀x∈l,l.lookup x.1=some x.2
 | y::r,nd,x,hx=>by
  rw [List.map_cons,List.nodup_cons] at nd
  rcases List.mem_cons.mp hx with rfl| hx2
  ·obtain ⟨a,b⟩:=x;simp
  ·obtain ⟨ya,yb⟩:=y
   dsimp only [List.lookup_cons]
   have:(x.1==ya)=false:=by
    rw [beq_eq_false_iff_ne]
    intro z;exact nd.1 (List.mem_map.mpr ⟨x,hx2,z⟩)
   exact this▸lookup_mem nd.2 x hx2
theorem free_mem {x:Str}:∀{l:List (Str × NameKind)},l.lookup x=some .free->(x,NameKind.free)∈l
 | (y,k)::r,h=>by
  dsimp only [List.lookup_cons] at h
  by_cases q:(x==y)=true
  ·simp only [q] at h;obtain rfl:=Option.some.inj h;exact (beq_iff_eq.mp q)▸List.mem_cons_self
  ·simp only [q] at h;exact List.mem_cons_of_mem _ (free_mem h)
theorem Ok.swap {xs ys:List Addr}{h:Heap}(o:Ok c A (xs++(ys++fr)) σ h):Ok c A (ys++(xs++fr)) σ h:=by
 have hf:∀a,a∈xs++(ys++fr)↔a∈ys++(xs++fr):=fun a=>by simp only [List.mem_append];exact or_left_comm
 have hm:∀a,a∈keys σ++(xs++(ys++fr))↔a∈keys σ++(ys++(xs++fr)):=fun a=>List.mem_append.trans ((or_congr_right (hf a)).trans List.mem_append.symm)
 exact {
  base:=o.base
  sto:=fun p hp=>IsO.move (K:=keys σ++(xs++(ys++fr))) (fun _ _ _ e=>e) (fun a ha=>.inl ((hm a).mpr ha)) (fun _ e=>e) (o.sto p hp)
  nd:=by
   refine (List.Perm.nodup_iff ?_).mp o.nd
   refine List.Perm.append_left _ ?_
   rw [<-List.append_assoc,<-List.append_assoc]
   exact List.Perm.append_right _ List.perm_append_comm
  new:=fun a ha=>o.new a ((hm a).mpr ha)
  live:=fun a ha=>o.live a ((hf a).mpr ha)
  stack:=by
   obtain ⟨l,a1,a2,a3,a4⟩:=o.stack
   exact ⟨l,a1,a2,fun b hb=>(hf b).mp (a3 b hb),a4⟩}
theorem Fm.carry {K K':List Addr}{h h':Heap}(f:Fm env m fr K h)(keep:∀b∈Fa env,∀o,h.get? b=some o->h'.get? b=some o)(st:Stay K h h')(le:Less K K' h):Fm env m fr K' h' where
 kind:=f.kind
 glob:=f.glob
 bui:=f.bui
 ns:=by
  obtain ⟨mv,⟨o,es,ep,g,r⟩,q⟩:=f.ns
  exact ⟨mv,⟨o,es,ep,keep _ List.mem_cons_self _ g,r⟩,fun x d e k=>by obtain ⟨v,a,b⟩:=q x d e k;exact ⟨v,a,V.move st le _ _ b⟩⟩
 cell:=fun x cc e=>by
  obtain ⟨ov,⟨o,g,r⟩,q⟩:=f.cell x cc e
  exact ⟨ov,⟨o,keep _ (List.mem_cons_of_mem _ (List.mem_map_of_mem (f:=(·.2)) (mem_of_lookup e))) _ g,r⟩,fun d e k=>by obtain ⟨v,a,b⟩:=q d e k;exact ⟨v,a,V.move st le _ _ b⟩⟩
 has:=f.has
 inn:=f.inn
 apart:=f.apart
theorem Post.same {F:List Addr}{s s':Shared}{σ':Sto}(p:Post F fr σ s s' σ'){b:Addr}{o:Obj}(hb:b∈fr)(hF:b∉F)(hn:∀es n,o.data≠.dict es n)(g:s.heap.get? b=some o):s'.heap.get? b=some o:=by
 obtain ⟨sl,e1,r1⟩:=p.slots b _ hb hF g
 have:=r1 hn
 subst this;exact e1
set_option maxHeartbeats 1000000 in
inductive Turns (c:Cx)(A:Around)(env:Env)(m:Vars)(scope:Scope)(ifs:List Expr)(elt:Expr)(Z:List D->Sto->Prop)(vals:List Vars)(Inv:Sto->Prop)(σ1:Sto):Prop
 | mk (hk:∀x∈vals,∀y∈x,scope.names.lookup y.1=some .local) (L:Nat->List D->Sto->Prop) (h0:L 0 [] σ1) (hinv:∀k ds σ',L k ds σ'->Inv σ'/\ds.length<=sizeLine)
   (step:∀k x ds σ',vals[k]? =some x->L k ds σ'->∀fr' cenv,cenv.scope=relab scope env.scope->WIfs c A fr' cenv (x++capt scope m) σ' ifs (fun b σ2=>if b=true then WE c A fr' cenv (x++capt scope m) σ2 elt (fun d σ3=>L (k+1) (ds++[d]) σ3) NoX else L (k+1) ds σ2) NoX)
   (fin:∀ds σ',L vals.length ds σ'->Z ds σ'):Turns c A env m scope ifs elt Z vals Inv σ1
inductive CompI (c:Cx)(A:Around)(frw F:List Addr)(σ1:Sto)(s3:Shared)(cenv:Env)(m0:Vars)(n:Nat)(L:Nat->List D->Sto->Prop)(St:Nat->List Addr->Heap->Prop)(a:Addr)(k:Nat)(s':Shared):Prop
 | mk (i:Nat) (ds:List D) (σ':Sto) (vs:List Value) (j:Nat) (e:k=n+1-i) (hi:i<=n) (hL:L i ds σ') (pp:Post F frw σ1 s3 s' σ') (ok:Ok c A frw σ' s'.heap) (fm:Fm cenv m0 frw (keys σ'++frw) s'.heap) (st:St i (keys σ'++frw) s'.heap) (g:s'.heap.get? a=some (lstObj vs j)) (v:Vs (keys σ'++frw) s'.heap ds vs):CompI c A frw F σ1 s3 cenv m0 n L St a k s'
theorem comp_core {tg iter elt:Expr}{ifs:List Expr}{scope:Scope}{pos p:Pos}{use:Option (Value->Sem Unit)}{Q:Value->Shared->Prop}{E:Value->Shared->Prop}{s:Shared}(ok:Ok c A fr σ s.heap)(fm:Fm env m fr (keys σ++fr) s.heap)
  (hkS:scope.kind=.function) (hnd:(scope.names.map (·.1)).Nodup) (hcell:∀y∈scope.names,y.2≠.cell) (hfree:∀y∈scope.names,y.2=.free->env.kindOf y.1=some .cell\/env.kindOf y.1=some .free)
  (hE:∀v s',Ex c A none fr σ s false X v s'->E v s')
  {Z:List D->Sto->Prop}
  (h:WIt c A fr env m σ iter tg (Turns c A env m scope ifs elt Z) X)
  (hend:∀s' σ' ds a C,FinC c A fr σ s s' σ' ds a C->Z ds σ'->compPost (model c.prog c.w) A E use Q (.ref a) C (.ok .next) s')
  (hs:∀x,foldedSetIterable iter env x=pure x:=by intro _;rfl):
  wpAny (model c.prog c.w) A (comprehension (.ListComp elt [⟨tg,iter,ifs,0⟩] scope pos) scope env p (newList []) false (eval iter env) use) Q E s:=by
 have hin:=ok.frames_in
 have hfree':=fun y hy hf=>fm.has y.1 (hfree y hy hf)
 refine wpAny_comprehension_free (use:=use) rfl hs (closureFor_eq hfree') hkS (fun x hx hl=>hl▸lookup_mem hnd x hx) (wpAny_mono (h s ok fm) (fun xv s1 h1=>wpAny_mono h1 (fun it s2 h2=> ?_) fun _ _ x=>hE _ _ x) fun _ _ x=>hE _ _ x)
 obtain ⟨I,wr,vals,Inv,St,Mid,σ1,rfl,p1,ok1,okw,hn,fmw,src,st0,inv0,hkinds,L,L0,LI,Lturn,Lend⟩:=h2
 refine wpAny_newObj_type (wpAny_newFunctionEnv hcell (by intro y hy;simp at hy) (fun h3 hns3 hsb3=> ?_) hkS)
 dsimp only at hns3 hsb3⊢
 generalize hD:s2.heap.objs.size=D at hns3 hsb3⊢
 generalize hH2:s2.heap.push {cls:=.type "list",dict:=none,data:=.seq ([]:List Value).toArray}=H2 at hns3 hsb3⊢
 have hCs:H2.objs.size=D+1:=by rw [<-hH2,Heap.size_push,hD]
 generalize hC:H2.objs.size=C at hns3 hsb3 hCs⊢
 have hCD:C≠D:=by rw [hCs];exact Nat.succ_ne_self D
 have keep23:∀b o,s2.heap.get? b=some o->h3.get? b=some o:=fun b o e=>by
  have hb:b<D:=hD▸Heap.lt_size e
  refine hsb3.extBut b o (fun z=> ?_) (Heap.get?_push_of_some _ (hH2▸Heap.get?_push_of_some _ e))
  rw [z,hCs] at hb;exact Nat.lt_irrefl _ (Nat.lt_of_succ_lt hb)
 have noneD:=none_of_ge (Nat.le_of_eq hD)
 have noneC:s2.heap.get? C=none:=none_of_ge (by simp only [hD,hCs];exact Nat.le_succ D)
 have accD:=hsb3.extBut _ _ (Ne.symm hCD) (Heap.get?_push_of_some _ (by rw [<-hH2,<-hD];exact Heap.get?_push_size _ rfl))
 obtain ⟨oC,esC,epC,gC,dC,_⟩:=id hns3
 have okL:Ok c A (wr++([C,D]++fr)) σ1 h3:=(okw.more keep23 (fun a ha=>by
  rcases List.mem_cons.mp ha with rfl| ha
  ·exact noneC
  ·rw [List.mem_singleton.mp ha];exact noneD) (fun a ha=>by
  rcases List.mem_cons.mp ha with rfl| ha
  ·exact ⟨_,gC⟩
  ·rw [List.mem_singleton.mp ha];exact ⟨_,accD⟩) (by simp [hCD])).swap
 have lessCD:Less (keys σ1++(wr++fr)) (keys σ1++(wr++([C,D]++fr))) s2.heap:=fun a ha=>by
  rcases List.mem_append.mp ha with z| z
  ·exact .inl (List.mem_append_left _ z)
  ·rcases List.mem_append.mp z with z| z
   ·exact .inl (List.mem_append_right _ (List.mem_append_left _ z))
   ·rcases List.mem_append.mp z with z| z
    ·rcases List.mem_cons.mp z with rfl| z
     ·exact .inr noneC
     ·rw [List.mem_singleton.mp z];exact .inr noneD
    ·exact .inl (List.mem_append_right _ (List.mem_append_right _ z))
 have stay23:Stay (keys σ1++(wr++fr)) s2.heap h3:=fun b o _ e=>keep23 b o e
 have fm3:Fm env m (wr++([C,D]++fr)) (keys σ1++(wr++([C,D]++fr))) h3:=by
  have fb:Fm env m (wr++fr) (keys σ1++(wr++([C,D]++fr))) h3:=fmw.carry (fun b _ o e=>keep23 b o e) stay23 lessCD
  exact fb.shift ⟨List.mem_append_right _ (List.mem_append_right _ fm.inn.1),fun q hq=>List.mem_append_right _ (List.mem_append_right _ (fm.inn.2 q hq))⟩ (fun a ha=>.inl ha)
 have hCcell:∀q∈env.cells,q.2≠C:=fun q hq z=>by
  obtain ⟨o,e⟩:=ok1.live q.2 (fm.inn.2 q hq)
  rw [z,noneC] at e;cases e
 have hnsC:h3.Ns C fun _=>none:=by simpa using hns3
 have fmC:=fm3.comp (C:=C) hkS (by simp) hnsC hnd hcell hfree' hCcell (fun x hx=>by
  exact hfree _ (free_mem hx) rfl)
 have st3:St 0 (keys σ1++(wr++([C,D]++fr))) h3:=src.move _ _ _ _ _ st0 stay23 (fun b _ o e=>keep23 b o e) lessCD
 have hnS:∀a∈wr++[C,D],s.heap.get? a=none:=fun a ha=>by
  rcases List.mem_append.mp ha with z| z
  ·exact hn a z
  ·refine none_back p1 ?_
   rcases List.mem_cons.mp z with rfl| z
   ·exact noneC
   ·rw [List.mem_singleton.mp z];exact noneD
 generalize hce:compEnvC scope (closOf env scope.names []) C env=cenv at fmC
 have ce1:cenv.scope=relab scope env.scope:=by rw [<-hce];rfl
 have ce2:cenv.locals=C:=by rw [<-hce];rfl
 have ceq:({newEnv scope C env.globals (closOf env scope.names []) env.qual none Value.none (some env) builtinsNs with scope:=relabel scope env}:Env)=cenv:=by rw [<-hce];rfl
 have kindL:∀x,scope.names.lookup x=some .local->cenv.kindOf x=some .local:=fun x hx=>by rw [<-hce];exact lookup_relabel_local hx
 have loop:∀s3:Shared,s3={s2 with heap:=h3,toks:=s2.toks+([]:List (Str × Value)).length}->
   codeAny (model c.prog c.w) A (.compLoop (.ListComp elt [⟨tg,iter,ifs,0⟩] scope pos) 0 (.ref I) (.ref D) cenv) (compPost (model c.prog c.w) A E use Q (.ref D) C) s3:=by
  rintro s3 rfl
  generalize hs3:({s2 with heap:=h3,toks:=s2.toks+([]:List (Str × Value)).length}:Shared)=s3
  have h3e:s3.heap=h3:=by rw [<-hs3]
  have p13:Post [] fr σ s s3 σ1:=p1.trans (by rw [<-hs3];exact Post.keeps keep23)
  have ndw:=okL.nd
  rw [List.nodup_append,List.nodup_append] at ndw
  have nfw:∀a∈[C,D]++fr,a∉wr:=fun a ha hw=>ndw.2.1.2.2 a hw a ha rfl
  have cin:cenv.locals∈[C,D]++fr/\∀q∈cenv.cells,q.2∈[C,D]++fr:=by
   refine ⟨by rw [ce2];simp,fun q hq=> ?_⟩
   rw [<-hce] at hq
   have:=(closOf_mem _ _ hq).resolve_left (by simp)
   exact List.mem_append_right _ (fm.inn.2 q (mem_of_lookup this))
  have cloc:cenv.locals∉wr/\∀q∈cenv.cells,q.2∉wr:=⟨nfw _ cin.1,fun q hq=>nfw _ (cin.2 q hq)⟩
  have hDfa:D∉Fa cenv:=fun z=>by
   rcases List.mem_cons.mp z with z| z
   ·exact hCD (z▸ce2).symm
   ·obtain ⟨q,hq,e⟩:=List.mem_map.mp z
    rw [<-hce] at hq
    have:=(closOf_mem _ _ hq).resolve_left (by simp)
    obtain ⟨o,g⟩:=ok1.live q.2 (fm.inn.2 q (mem_of_lookup this))
    rw [e,noneD] at g;cases g
  have hDwr:D∉wr:=nfw D (by simp)
  have hcapt:∀(x:Vars),(∀y∈x,scope.names.lookup y.1=some .local)->∀z d,(capt scope m).lookup z=some d->(x++capt scope m).lookup z=some d:=fun x hx z d e=>by
   have hf:=capt_free e
   rw [lookup_append_none (fun p hp q=>by rw [<-q,hx p hp] at hf;cases hf)];exact e
  refine codeAny_compLoopT (CompI c A (wr++([C,D]++fr)) (wr++[C,D]) σ1 s3 cenv (capt scope m) vals.length L St D)
   ?_ (vals.length+1) ⟨0,[],σ1,[],0,rfl,Nat.zero_le _,L0,Post.refl ..,h3e▸okL,h3e▸fmC,h3e▸st3,h3e▸accD,Vs.nil⟩
  rintro k s' ⟨i,ds,σ',vs,n,rfl,hi,hL,pp,okk,fmk,stk,gD,vD⟩
  by_cases hlt:i<vals.length
  ·obtain ⟨x,hx⟩:∃x,vals[i]? =some x:=⟨vals[i],by simp [hlt]⟩
   have hxl:=hkinds x (List.mem_of_getElem? hx)
   refine src.next i σ' ([C,D]++fr) s' _ _ hlt okk stk (LI _ _ _ hL).1 fun v h' tk hmid how=> ?_
   have ok':Ok c A (wr++([C,D]++fr)) σ' h':=okk.ow (src.nodict _ _ _ stk) how
   have fm':Fm cenv (capt scope m) (wr++([C,D]++fr)) (keys σ'++(wr++([C,D]++fr))) h':=fmk.ow (fun b hb=>List.mem_append_right _ (List.mem_append_left _ hb)) cloc how
   have wide:∀a∈wr++[C],a∈wr++[C,D]:=fun a ha=>by
    rcases List.mem_append.mp ha with z| z
    ·exact List.mem_append_left _ z
    ·exact List.mem_append_right _ (List.mem_singleton.mp z▸List.mem_cons_self)
   have pp':=pp.trans ((Post.ow (F:=[C]) (fr:=[C,D]++fr) (σ:=σ') (tk:=tk) how).wide wide)
   have gD':h'.get? D=some (lstObj vs n):=how.kept _ _ hDwr gD
   have stK:Stay (keys σ'++(wr++([C,D]++fr))) s'.heap h':=fun b o nb e=>how.kept b o (fun z=>nb (List.mem_append_right _ (List.mem_append_left _ z))) e
   have vD':Vs (keys σ'++(wr++([C,D]++fr))) h' ds vs:=Vs.move stK (fun a ha=>.inl ha) _ _ vD
   refine src.put i σ' ([C,D]++fr) [C] cenv (capt scope m) v {s' with heap:=h',toks:=tk} _ _ x hx hmid ok' fm' cin (fun y hy=>.inl (kindL _ (hxl y hy))) ⟨by rw [ce2];simp,fun y hy k=>by rw [kindL _ (hxl y hy)] at k;cases k⟩ (src.midnd _ _ _ _ hmid) fun h4 tk4 st4 fm4 ok4 p4=> ?_
   have pp4:=pp'.trans (p4.wide wide)
   have gD4:h4.get? D=some (lstObj vs n):=p4.same (by simp) (fun z=>(List.mem_append.mp z).elim hDwr fun z=>hCD (List.mem_singleton.mp z).symm) (fun es nn q=>by cases q) gD'
   have vD4:=p4.vs vD'
   have fm4':=fm4.sub (m':=x++capt scope m) fun z d e=>e
   refine wpAny_mono (Lturn i x ds σ' hx hL _ cenv ce1 _ ok4 fm4') (fun b s5 hx5=> ?_) fun _ _ y=>y.no
   obtain ⟨b',σ5,p5,ok5,rfl,q5⟩:=hx5
   have fm5:Fm cenv (x++capt scope m) (wr++([C,D]++fr)) (keys σ5++(wr++([C,D]++fr))) s5.heap:=Fm.move (s:={s' with heap:=h4,toks:=tk4}) fm4' p5
   have pp5:=pp4.trans (p5.wide (F':=wr++[C,D]) (by simp))
   have hDin:D∈wr++([C,D]++fr):=by simp
   have gD5:s5.heap.get? D=some (lstObj vs n):=p5.same hDin (List.not_mem_nil) (fun es nn q=>by cases q) gD4
   have vD5:=p5.vs vD4
   have st5:St (i+1) (keys σ5++(wr++([C,D]++fr))) s5.heap:=src.move _ _ _ _ _ st4 p5.stay (fun b hb o g=>p5.same (List.mem_append_left _ hb) List.not_mem_nil (src.nodict _ _ _ st4 b hb o g) g) p5.less
   cases b with
   | false=>
    simp only [Bool.false_eq_true,if_false] at q5⊢
    exact ⟨vals.length+1-(i+1),z598 hi,i+1,ds,σ5,vs,n,rfl,hlt,q5,pp5,ok5,fm5.sub (hcapt x hxl),st5,gD5,vD5⟩
   | true=>
    simp only [if_true] at q5⊢
    refine wpAny_mono (q5 s5 ok5 fm5) (fun y s6 hx6=> ?_) fun _ _ y=>y.no
    obtain ⟨d,σ6,p6,ok6,v6,q6⟩:=hx6
    have fm6:=fm5.move p6
    have pp6:=pp5.trans (p6.wide (F':=wr++[C,D]) (by simp))
    have gD6:s6.heap.get? D=some (lstObj vs n):=p6.same hDin List.not_mem_nil (fun es nn q=>by cases q) gD5
    have vD6:=p6.vs vD5
    have st6:St (i+1) (keys σ6++(wr++([C,D]++fr))) s6.heap:=src.move _ _ _ _ _ st5 p6.stay (fun b hb o g=>p6.same (List.mem_append_left _ hb) List.not_mem_nil (src.nodict _ _ _ st5 b hb o g) g) p6.less
    have hlen:vs.length<=sizeLine:=by rw [vD.length];exact (LI _ _ _ hL).2
    refine wpAny_list_append_plain (hsz:=by simpa using hlen) ⟨n,gD6⟩ fun h7 pl7 sb7=> ?_
    obtain ⟨n7,g7⟩:=pl7
    have g7':h7.get? D=some (lstObj (vs++[y]) n7):=by simpa [lstObj] using g7
    have ok7:Ok c A (wr++([C,D]++fr)) σ6 h7:=ok6.turn hDin sb7 g7' (by intro vs q;cases q) (fun ⟨o,es,nn,g,r⟩=>by rw [gD6] at g;cases g;cases r)
    have st67:Stay (keys σ6++(wr++([C,D]++fr))) s6.heap h7:=fun b o nb e=>(sb7.2 b fun (z:b=D)=>nb (by rw [z];exact List.mem_append_right _ hDin)).trans e
    have pp7:Post (wr++[C,D]) (wr++([C,D]++fr)) σ6 s6 {s6 with heap:=h7} σ6:={
     shape:=⟨h7,s6.toks,rfl⟩
     kept:=fun b o nb e=>st67 b o nb e
     slots:=fun b o hb nf e=>⟨o.slots,(sb7.2 b fun z=>nf (z▸by simp)).trans e,fun _=>rfl⟩
     alive:=fun b o e=>by
      by_cases z:b=D
      ·subst z;exact ⟨_,g7'⟩
      ·exact ⟨o,(sb7.2 b z).trans e⟩
     grow:=fun _ h=>.inl h}
    have fm7:Fm cenv (x++capt scope m) (wr++([C,D]++fr)) (keys σ6++(wr++([C,D]++fr))) h7:=fm6.carry (fun b hb o e=>(sb7.2 b fun z=>hDfa (z▸hb)).trans e) st67 fun a ha=>.inl ha
    refine ⟨vals.length+1-(i+1),z598 hi,i+1,ds++[d],σ6,vs++[y],n7,rfl,hlt,q6,pp6.trans pp7,ok7,fm7.sub (hcapt x hxl),?_,g7',?_⟩
    ·exact src.move _ _ _ _ _ st6 st67 (fun b hb o e=>(sb7.2 b fun z=>hDwr (z▸hb)).trans e) (fun a ha=>.inl ha)
    ·exact (Vs.move st67 (fun a ha=>.inl ha) _ _ vD6).snoc (V.move st67 (fun a ha=>.inl ha) _ _ v6)
  ·obtain rfl:i=vals.length:=z599 hi hlt
   refine src.done σ' ([C,D]++fr) s' _ _ okk stk (LI _ _ _ hL).1 fun h' tk hk=> ?_
   have hin':∀l,A.frames=some l->∀b∈l.filterMap (·.frame),b∈[C,D]++fr:=fun l hl b hb=>List.mem_append_right _ (hin l hl b hb)
   have okf:Ok c A ([C,D]++fr) σ' h':=okk.fin hin' hk
   have stf:Stay (keys σ'++(wr++([C,D]++fr))) s'.heap h':=fun b o nb e=>hk b o (fun z=>nb (List.mem_append_right _ (List.mem_append_left _ z))) e
   refine hend _ σ' ds D C {post:= ?_,ok:=okf,list:=⟨vs,n,hk _ _ hDwr gD,Vs.move stf (less_drop _ _) _ _ vD⟩,newa:=hnS D (by simp),newC:=hnS C (by simp),ns:= ?_,frames:=hin} (Lend _ _ hL)
   ·have pd:Post [] fr σ s s' σ':=by
     refine Post.drop (wr:=wr++[C,D]) p13 hnS ?_
     have e1:(wr++[C,D])++fr=wr++([C,D]++fr):=by simp
     rw [e1]
     exact ⟨pp.shape,pp.kept,fun b o hb nf e=>pp.slots b o hb (fun q=>nf (by simpa using q)) e,pp.alive,pp.grow⟩
    exact pd.fin (wr:=wr) hn (fun a ha=>nfw a (List.mem_append_right _ ha)) hk
   ·obtain ⟨mv,⟨o,es,ep,g,r⟩,_⟩:=fmk.ns
    rw [ce2] at g
    exact ⟨mv,o,es,ep,hk _ _ (ce2▸cloc.1) g,r⟩
 show codeAny (model c.prog c.w) A (.compStart (.ListComp elt [⟨tg,iter,ifs,0⟩] scope pos) 0 (.ref I) (.ref D) {newEnv scope C env.globals (closOf env scope.names []) env.qual none Value.none (some env) builtinsNs with scope:=relabel scope env}) _ _
 exact ceq▸codeAny_compStart_list (loop _ rfl) (src.self 0 _ _ _ _ st3 (loop _ rfl))
end
end Mine
namespace Mine
open PySem PySem.Calls PyProof.Rows
theorem Fm.fin {env:Env}{m:Vars}{fr wr:List Addr}{σ:Sto}{h h':Heap}(f:Fm env m (wr++fr) (keys σ++(wr++fr)) h)(hi:env.locals∈fr/\∀p∈env.cells,p.2∈fr)(hn:env.locals∉wr/\∀p∈env.cells,p.2∉wr)(k:∀b o,b∉wr->h.get? b=some o->h'.get? b=some o):Fm env m fr (keys σ++fr) h':=by
 have st:Stay (keys σ++(wr++fr)) h h':=fun b o n e=>k b o (fun z=>n (List.mem_append_right _ (List.mem_append_left _ z))) e
 exact {
  kind:=f.kind
  glob:=f.glob
  bui:=f.bui
  ns:=by
   obtain ⟨mv,⟨o,es,ep,g,r⟩,q⟩:=f.ns
   exact ⟨mv,⟨o,es,ep,k _ _ hn.1 g,r⟩,fun x d e k=>by obtain ⟨v,a,b⟩:=q x d e k;exact ⟨v,a,V.move st (less_drop _ _) _ _ b⟩⟩
  cell:=fun x cc e=>by
   obtain ⟨ov,⟨o,g,r⟩,q⟩:=f.cell x cc e
   exact ⟨ov,⟨o,k _ _ (hn.2 _ (mem_of_lookup e)) g,r⟩,fun d e k=>by obtain ⟨v,a,b⟩:=q d e k;exact ⟨v,a,V.move st (less_drop _ _) _ _ b⟩⟩
  has:=f.has
  inn:=hi
  apart:=f.apart}
theorem Ok.ref {c:Cx}{A:Around}{fr:List Addr}{σ:Sto}{h:Heap}{a:Addr}{ds:List D}{vs:List Value}{n:Nat}(ok:Ok c A ([a]++fr) σ h)(hin:∀l,A.frames=some l->∀b∈l.filterMap (·.frame),b∈fr)(g:h.get? a=some (lstObj vs n))(hv:Vs (keys σ++([a]++fr)) h ds vs):Ok c A fr ((a,.lst ds)::σ) h:=by
 have mem:∀b,b∈keys ((a,O.lst ds)::σ)++fr↔b∈keys σ++([a]++fr):=fun b=>by
  simp only [keys,List.map_cons,List.cons_append,List.mem_cons,List.mem_append,List.nil_append]
  constructor<;>(intro z;rcases z with z| z| z<;>simp [z])
 have nd:=ok.nd
 have ok1:Ok c A fr σ h:=Ok.less (ex:=[]) (wr:=[a]) ok hin
 exact {
  base:=ok.base
  sto:=fun p hp=>by
   rcases List.mem_cons.mp hp with rfl| hp
   ·exact ⟨vs,n,g,Vs.move (fun _ _ _ e=>e) (fun b hb=>.inl ((mem b).mp hb)) _ _ hv⟩
   ·exact IsO.move (fun _ _ _ e=>e) (fun b hb=>.inl ((mem b).mp hb)) (fun _ e=>e) (ok.sto p hp)
  nd:=by
   refine (List.Perm.nodup_iff ?_).mp nd
   show (keys σ++([a]++fr)).Perm (a::(keys σ++fr))
   simp
  new:=fun b hb=>ok.new b ((mem b).mp hb)
  live:=ok1.live
  stack:=ok1.stack}
section
variable {c:Cx} {A:Around} {fr:List Addr} {σ:Sto} {X:Addr->Sto->Prop} {env:Env} {m:Vars}
noncomputable def QL (Q:D->Sto->Prop)(ds:List D)(σ:Sto):Prop:=Q (.lst ds) σ\/∀a,a∉keys σ->Q (.ref a) ((a,.lst ds)::σ)
theorem QL.use {G:Option Env}{Q:D->Sto->Prop}{ds:List D}{σ':Sto}{s s':Shared}{a:Addr}{vs:List Value}{n:Nat}(q:QL Q ds σ')(p:Post (Fo G) fr σ s s' σ')(ok:Ok c A ([a]++fr) σ' s'.heap)(hin:∀l,A.frames=some l->∀b∈l.filterMap (·.frame),b∈fr)
  (g:s'.heap.get? a=some (lstObj vs n)) (hv:Vs (keys σ'++([a]++fr)) s'.heap ds vs) (hn:s.heap.get? a=none):Po c A G fr σ s V Q (.ref a) s':=by
 have nd:=ok.nd
 rw [List.nodup_append,List.nodup_append] at nd
 have hk:=fun z=>nd.2.2 a z a (by exact .head _) rfl
 rcases q with q| q
 ·refine ⟨.lst ds,σ',p,Ok.less (ex:=[]) (wr:=[a]) ok hin,?_,q⟩
  exact ⟨a,vs,n,rfl,fun z=>(List.mem_append.mp z).elim hk (fun z=>nd.2.1.2.2 a (by exact .head _) a z rfl),g,Vs.move (fun _ _ _ e=>e) (less_drop _ _) _ _ hv⟩
 ·refine ⟨.ref a,(a,.lst ds)::σ',⟨p.shape,p.kept,p.slots,p.alive,fun b hb=> ?_⟩,Ok.ref ok hin g hv,by rfl,q a hk⟩
  rcases List.mem_cons.mp hb with rfl| hb
  ·exact .inr hn
  ·exact p.grow b hb
noncomputable def freeOk (scope sc:Scope):Bool:=scope.names.all fun y=>y.2 !=.free|| (sc.names.lookup y.1==some .cell|| sc.names.lookup y.1==some .free)
noncomputable def compOk (scope:Scope):Bool:=scope.kind==.function&&decide (scope.names.map (·.1)).Nodup&&scope.names.all fun y=>y.2 !=.cell
theorem compOk_kind {scope:Scope}(h:compOk scope=true):scope.kind=.function/\(scope.names.map (·.1)).Nodup/\∀y∈scope.names,y.2≠.cell:=by
 unfold compOk at h
 simp only [Bool.and_eq_true,beq_iff_eq,decide_eq_true_eq,List.all_eq_true,bne_iff_ne] at h
 exact ⟨h.1.1,h.1.2,h.2⟩
theorem freeOk_all {scope:Scope}{env:Env}(h:freeOk scope env.scope=true):∀y∈scope.names,y.2=.free->env.kindOf y.1=some .cell\/env.kindOf y.1=some .free:=fun y hy hf=>by
 unfold freeOk at h
 simp only [List.all_eq_true] at h
 have:=h y hy
 simp only [hf,bne_self_eq_false,Bool.false_or,Bool.or_eq_true,beq_iff_eq] at this
 exact this
theorem WE.comp {tg iter elt:Expr}{ifs:List Expr}{scope:Scope}{pos:Pos}{Q:D->Sto->Prop}(h:WIt c A fr env m σ iter tg (Turns c A env m scope ifs elt (QL Q)) X)(h1:compOk scope=true)(h2:freeOk scope env.scope=true)(hs:∀x,foldedSetIterable iter env x=pure x:=by intro _;rfl):
  WE c A fr env m σ (.ListComp elt [⟨tg,iter,ifs,0⟩] scope pos) Q X:=fun s ok fm=>by
 obtain ⟨k1,k2,k3⟩:=compOk_kind h1
 refine comp_core (use:=none) ok fm k1 k2 k3 (freeOk_all h2) (fun _ _ x=>x) h (fun s' σ' ds a C fin q=> ?_) hs
 obtain ⟨mv,hns⟩:=fin.ns
 refine ⟨mv,hns,fun h' sb=> ?_⟩
 have nd:=fin.ok.nd
 rw [List.nodup_append,List.nodup_append] at nd
 have hCa:C≠a:=by have:=nd.2.1.1;simp at this;exact this
 have hCf:∀b∈[a]++fr,b∉[C]:=fun b hb z=>by
  simp only [List.mem_singleton.mp z] at hb
  rcases List.mem_append.mp hb with z| z
  ·exact hCa (List.mem_singleton.mp z)
  ·exact nd.2.1.2.2 C (by exact .head _) C z rfl
 have kk:∀b o,b∉[C]->s'.heap.get? b=some o->h'.get? b=some o:=fun b o nb e=>(sb.2 b (fun z=>nb (by simp [z]))).trans e
 obtain ⟨vs,n,g,hv⟩:=fin.list
 have pf:Post [] fr σ s {s' with heap:=h',toks:=s'.toks} σ':=fin.post.fin (wr:=[C]) (fun b hb=>by exact (List.mem_singleton.mp hb)▸fin.newC) (fun b hb=>hCf b (List.mem_append_right _ hb)) kk
 exact QL.use (G:=none) (s':={s' with heap:=h',toks:=s'.toks}) q pf (Ok.fin (wr:=[C]) (fr:=[a]++fr) fin.ok (fun l hl b hb=>List.mem_append_right _ (fin.frames l hl b hb)) kk) fin.frames (kk _ _ (fun z=>hCa (List.mem_singleton.mp z).symm) g) (Vs.move (K:=keys σ'++([C,a]++fr)) (fun b o nb e=>kk b o (fun z=>nb (by simp only [List.mem_singleton.mp z];simp)) e) (less_drop (wr:=[C]) (fr:=[a]++fr) _ _) _ _ hv) fin.newa
set_option maxHeartbeats 1000000 in
theorem W1.assignComp {x:Str}{pos' pos:Pos}{tg iter elt:Expr}{ifs:List Expr}{scope:Scope}{cpos:Pos}{N:Vars->Sto->Prop}{R:D->Sto->Prop}(h:WIt c A fr env m σ iter tg (Turns c A env m scope ifs elt (QL fun d σ'=>N ((x,d)::m) σ')) X)(h1:compOk scope=true)(h2:freeOk scope env.scope=true)
  (hk:env.kindOf x=some .local) (hsw:swapsWith (.ListComp elt [⟨tg,iter,ifs,0⟩] scope cpos) (some (.Name x pos')) pos.line env=pure true) (hs:∀x,foldedSetIterable iter env x=pure x:=by intro _;rfl):
  W1 c A fr env m σ (.Assign [.Name x pos'] (.ListComp elt [⟨tg,iter,ifs,0⟩] scope cpos) pos) N R X:=fun s ok fm=>by
 obtain ⟨k1,k2,k3⟩:=compOk_kind h1
 unfold W
 rw [exec_Assign_Name_used (hs:=hsw)]
 refine wpAny_bind (wpAny_standAt (wpAny_bind ?_))
 show wpAny _ A (do let _<-comprehension (.ListComp elt [⟨tg,iter,ifs,0⟩] scope cpos) scope env _ (newList []) false (eval iter env) (some (PySem.assign (.Name x pos') env))) _ _ s
 refine wpAny_bind (wpAny_mono (comp_core (use:=some (PySem.assign (.Name x pos') env)) (E:=Ex c A (some env) fr σ s false X) (Q:=fun _ s'=>Po c A (some env) fr σ s (RO env fr) (QO N R) .next s') ok fm k1 k2 k3 (freeOk_all h2) (fun _ _ x=>x.wide fm) h (fun s' σ' ds a C fin q=> ?_) hs) (fun _ s' hq=>wpAny_pure (wpAny_pure hq)) fun _ _ e=>e)
 have nd:=fin.ok.nd
 rw [List.nodup_append,List.nodup_append] at nd
 have hCa:C≠a:=by have:=nd.2.1.1;simp at this;exact this
 have hCf:C∉fr:=fun z=>nd.2.1.2.2 C (by simp) C z rfl
 have haf:a∉fr:=fun z=>nd.2.1.2.2 a (by simp) a z rfl
 have hak:a∉keys σ':=fun z=>nd.2.2 a z a (by simp) rfl
 have hCk:C∉keys σ':=fun z=>nd.2.2 C z C (by simp) rfl
 obtain ⟨vs,n,g,hv⟩:=fin.list
 have perm:Ok c A ([a]++([C]++fr)) σ' s'.heap:=by
  have o:=fin.ok
  have hm:∀b,b∈keys σ'++([C,a]++fr)↔b∈keys σ'++([a]++([C]++fr)):=fun b=>by
   simp only [List.mem_append,List.mem_cons,List.not_mem_nil,or_false]
   constructor
   ·rintro (z| (z| z)| z)
    ·exact .inl z
    ·exact .inr (.inr (.inl z))
    ·exact .inr (.inl z)
    ·exact .inr (.inr (.inr z))
   ·rintro (z| z| z| z)
    ·exact .inl z
    ·exact .inr (.inl (.inr z))
    ·exact .inr (.inl (.inl z))
    ·exact .inr (.inr z)
  exact {
   base:=o.base
   sto:=fun p hp=>IsO.move (fun _ _ _ e=>e) (fun b hb=>.inl ((hm b).mpr hb)) (fun _ e=>e) (o.sto p hp)
   nd:=by
    refine (List.Perm.nodup_iff ?_).mp o.nd
    refine List.Perm.append_left _ ?_
    exact List.Perm.swap _ _ _
   new:=fun b hb=>o.new b ((hm b).mpr hb)
   live:=fun b hb=>o.live b (by simp only [List.mem_append,List.mem_cons,List.not_mem_nil,or_false] at hb⊢;rcases hb with z| z| z<;>simp_all)
   stack:=by
    obtain ⟨l,a1,a2,a3,a4⟩:=o.stack
    exact ⟨l,a1,a2,fun b hb=>List.mem_append_right _ (List.mem_append_right _ (fin.frames l a1 b hb)),a4⟩}
 have hin1:∀l,A.frames=some l->∀b∈l.filterMap (·.frame),b∈[C]++fr:=fun l hl b hb=>List.mem_append_right _ (fin.frames l hl b hb)
 have hv1:Vs (keys σ'++([a]++([C]++fr))) s'.heap ds vs:=Vs.move (fun _ _ _ e=>e) (fun b hb=>.inl (by simp only [List.mem_append,List.mem_cons,List.not_mem_nil,or_false] at hb⊢;rcases hb with z| z| z| z<;>simp_all)) _ _ hv
 have p1:Post [] ([C]++fr) σ s s' σ':={
  shape:=fin.post.shape
  kept:=fun b o nb e=>fin.post.kept b o (fun z=>nb (by rcases List.mem_append.mp z with z| z<;>simp_all)) e
  slots:=fun b o hb nf e=>by
   rcases List.mem_append.mp hb with z| z
   ·rw [List.mem_singleton.mp z,fin.newC] at e;cases e
   ·exact fin.post.slots b o z nf e
  alive:=fin.post.alive
  grow:=fin.post.grow}
 obtain ⟨d,σ2,p2,ok2,v2,q2⟩:=QL.use (G:=none) (fr:=[C]++fr) q p1 perm hin1 g hv1 fin.newa
 have fm0:Fm env m ([C]++fr) (keys σ++([C]++fr)) s.heap:=fm.shift ⟨List.mem_append_right _ fm.inn.1,fun q hq=>List.mem_append_right _ (fm.inn.2 q hq)⟩ (less_add fun b hb=>by rw [List.mem_singleton.mp hb];exact fin.newC)
 have fm2:=fm0.move p2
 show wpAny _ A (PySem.assign (.Name x pos') env (.ref a)) _ _ _
 refine wpAny_assign_Name (wpAny_mono (W.store (X:=NoX) ok2 fm2 v2 (.inl hk)) (fun _ s3 hx=> ?_) fun _ _ y=>y.no.elim)
 obtain ⟨_,σ3,p3,ok3,fm3,rfl⟩:=hx
 have hloc:env.locals∉[C]/\∀q∈env.cells,q.2∉[C]:=⟨fun z=>hCf (List.mem_singleton.mp z▸fm.inn.1),fun q hq z=>hCf (List.mem_singleton.mp z▸fm.inn.2 q hq)⟩
 obtain ⟨mv,hns⟩:=fin.ns
 have hnsC:∃mv,s3.heap.Ns C mv:=by
  obtain ⟨o,es,ep,gC,r⟩:=hns
  obtain ⟨sl,e1,_⟩:=p3.slots C o (by simp) (fun z=>by
   rcases List.mem_cons.mp z with z| z
   ·exact hCf (z▸fm.inn.1)
   ·obtain ⟨q,hq,e⟩:=List.mem_map.mp z;exact hCf (e▸fm.inn.2 q hq)) gC
  exact ⟨mv,_,es,ep,e1,r⟩
 obtain ⟨mv3,hns3⟩:=hnsC
 refine ⟨mv3,hns3,fun h' sb=> ?_⟩
 have kk:∀b o,b∉[C]->s3.heap.get? b=some o->h'.get? b=some o:=fun b o nb e=>(sb.2 b (fun z=>nb (by simp [z]))).trans e
 have p02:Post (Fa env) ([C]++fr) σ s s3 σ3:=(p2.wide (by simp)).trans p3
 have p03:Post (Fa env) fr σ s s3 σ3:={
  shape:=p02.shape
  kept:=fun b o nb e=>p02.kept b o (fun z=>by
   rcases List.mem_append.mp z with z| z
   ·exact nb (List.mem_append_left _ z)
   ·rcases List.mem_append.mp z with z| z
    ·rw [List.mem_singleton.mp z,fin.newC] at e;cases e
    ·exact nb (List.mem_append_right _ z)) e
  slots:=fun b o hb nf e=>p02.slots b o (List.mem_append_right _ hb) nf e
  alive:=p02.alive
  grow:=p02.grow}
 refine ⟨.next _,σ3,p03.fin (wr:=[C]) (tk:=s3.toks) (fun b hb=>by rw [List.mem_singleton.mp hb];exact fin.newC) (fun b hb z=>hCf (List.mem_singleton.mp z▸hb)) kk,Ok.fin ok3 fin.frames kk,⟨rfl,fm3.fin fm.inn hloc kk⟩,q2⟩
end
end Mine
namespace Mine
open PySem PySem.Calls PyProof.Rows
section
variable {c:Cx} {A:Around} {fr:List Addr} {σ:Sto} {X:Addr->Sto->Prop} {env:Env} {m:Vars}
theorem store_fine {x:Str}{d:D}{v:Value}{s:Shared}{F:List Addr}{Q:Unit->Shared->Prop}{E:Value->Shared->Prop}(ok:Ok c A fr σ s.heap)(f:Fm env m fr (keys σ++fr) s.heap)(hV:V (keys σ++fr) s.heap d v)(hk:env.kindOf x=some .local\/env.kindOf x=some .cell)
  (hF:(env.kindOf x=some .local->env.locals∈F)/\(env.kindOf x=some .cell->∀cc,env.cells.lookup x=some cc->cc∈F))
  (h:∀h' tk,Fm env ((x,d)::m) fr (keys σ++fr) h'->Ok c A fr σ h'->Post F fr σ s {s with heap:=h',toks:=tk} σ->Q () {s with heap:=h',toks:=tk}):wpAny (model c.prog c.w) A (storeName env x v) Q E s:=by
 have hK:∀b∈fr,b∈keys σ++fr:=fun b hb=>List.mem_append_right _ hb
 have post:∀{a:Addr} {oa:Obj} {h':Heap} {tk:Nat},a∈F->a∈fr->Heap.SameBut a s.heap h'->h'.get? a=some oa->Post F fr σ s {s with heap:=h',toks:=tk} σ:=fun {a oa h' tk} haF haf sb e=>
  ⟨⟨h',tk,rfl⟩,fun b o n g=>(sb.2 b fun q=>n (q▸List.mem_append_right _ haf)).trans g,fun b o _ n g=>⟨o.slots,(sb.2 b fun q=>n (q▸haF)).trans g,fun _=>rfl⟩,
   fun b o g=>by
    by_cases q:b=a
    ·subst q;exact ⟨_,e⟩
    ·exact ⟨o,(sb.2 b q).trans g⟩,fun _ m=>.inl m⟩
 rcases hk with hk| hk
 ·obtain ⟨mv,hn,r⟩:=f.ns
  refine wpAny_storeName_local hk hn (fun h' hn' sb=> ?_) (by rw [f.kind];rfl)
  obtain ⟨o,es,ep,e,hd,_⟩:=id hn'
  exact h h' _ (f.storeL hK r hn' sb hV hk) (ok.turn f.inn.1 sb e (fun vs=>by rw [hd];intro q;contradiction) (fun _=>⟨o,es,ep,e,hd⟩)) (post (hF.1 hk) f.inn.1 sb e)
 ·obtain ⟨cc,hcc⟩:=f.has x (.inl hk)
  obtain ⟨ov,hc,_⟩:=f.cell x cc hcc
  refine wpAny_storeName_cell f.kind hk hcc hc fun h' hc' sb=> ?_
  obtain ⟨o,e,hd⟩:=id hc'
  have hin:=mem_of_lookup hcc
  exact h h' s.toks (f.storeC hK hcc hc' sb hV hk) (ok.turn (f.inn.2 _ hin) sb e (fun vs=>by rw [hd];intro q;contradiction) (fun z=>by
   obtain ⟨o1,es,n,g1,d1⟩:=z
   obtain ⟨o2,g2,d2⟩:=hc
   replace g2:=(g1 ..).symm.trans g2;obtain rfl:=Option.some.inj g2;replace d2:=(d1 ..).symm.trans d2;contradiction)) (post (hF.2 hk cc hcc) (f.inn.2 _ hin) sb e)
noncomputable def tight (env:Env)(x:Str):List Addr:=if env.kindOf x=some .cell then (match env.cells.lookup x with| some cc=>[cc]| none=>[]) else [env.locals]
theorem tight_mem {env:Env}{x:Str}{a:Addr}(h:a∈tight env x):a=env.locals\/(env.kindOf x=some .cell/\env.cells.lookup x=some a):=by
 unfold tight at h
 split at h
 ·rename_i k
  split at h
  ·rename_i cc e;exact .inr ⟨k,by rw [List.mem_singleton.mp h];exact e⟩
  ·contradiction
 ·exact .inl (List.mem_singleton.mp h)
theorem tight_ok {env:Env}{x:Str}:(env.kindOf x=some .local->env.locals∈tight env x)/\(env.kindOf x=some .cell->∀cc,env.cells.lookup x=some cc->cc∈tight env x):=by
 unfold tight
 refine ⟨fun k=> ?_,fun k cc e=> ?_⟩
 ·rw [if_neg (by rw [k];decide)];exact .head _
 ·rw [if_pos k,e];exact .head _
theorem Src.ofWalks {x:Str}{px:Pos}{I:Addr}{fp:List Addr}{n:Nat}{P:Nat->Value->Prop}{St:Nat->Heap->Prop}{ds:List D}{J:List Addr->Heap->Prop}(W:Walks c.prog c.w A I fp [I] n P St)(hlen:ds.length=n)
  (hlive:∀i h,St i h->∃o vs,h.get? I=some o/\o.data=.fields vs)
  (jmove:∀K K' h h',J K h->Stay K h h'->Less K K' h->J K' h') (jv:∀K h i v,i<n->J K h->P i v->∃d,ds[i]? =some d/\V K h d v) (jfp:∀K h,J K h->∀b∈fp,b=I\/b∉K):
  Src c A (.Name x px) I [I] (ds.map fun d=>[(x,d)]) (fun _=>True) (fun i K h=>St i h/\J K h) (fun i K h v=>St (i+1) h/\J K h/\∃d,ds[i]? =some d/\V K h d v) where
 nodict:=fun i K h st b hb o g es n e=>by
  obtain ⟨o',vs,g',d'⟩:=hlive i h st.1
  rw [List.mem_singleton.mp hb,g'] at g;obtain rfl:=Option.some.inj g;replace e:=(d' ..).symm.trans e;contradiction
 midnd:=fun i K h v st b hb o g es n e=>by
  obtain ⟨o',vs,g',d'⟩:=hlive _ h st.1
  rw [List.mem_singleton.mp hb,g'] at g;obtain rfl:=Option.some.inj g;replace e:=(d' ..).symm.trans e;contradiction
 move:=fun i K K' h h' st sy hw hl=>⟨W.frame i h h' st.1 fun b hb o e=>by
   rcases jfp K h st.2 b hb with z| z
   ·exact hw b (by simp [z]) o e
   ·exact sy b o z e,jmove _ _ _ _ st.2 sy hl⟩
 next:=fun i σ fr s Q E hi ok st _ hQ=>by
  refine W.item i s Q E (by simpa [hlen] using hi) st.1 fun v h' tk hP st' hk=> ?_
  have j':=jmove _ _ _ _ st.2 (fun b o nb e=>hk b o (fun z=>nb (by rw [List.mem_singleton.mp z];simp)) e) (fun a ha=>.inl ha)
  exact hQ v h' tk ⟨st',j',jv _ _ _ _ (by simpa [hlen] using hi) j' hP⟩ (⟨fun b o nb e=>hk b o nb e,fun b hb=>by obtain ⟨o,vs,g,_⟩:=hlive _ _ st';exact (List.mem_singleton.mp hb)▸⟨o,g⟩⟩)
 put:=fun i σ fr F env m v s Q E y hy mid ok fm hi hkind hF hnd hQ=>by
  obtain ⟨st,j,d,hd,hV⟩:=mid
  have hy':y=[(x,d)]:=by
   rw [List.getElem?_map,hd] at hy;exact (Option.some.inj hy).symm
  subst hy'
  refine wpAny_pure (wpAny_assign_Name ?_)
  have ndw:=ok.nd
  rw [List.nodup_append,List.nodup_append] at ndw
  have nI:∀a∈fr,a≠I:=fun a ha z=>ndw.2.1.2.2 I (by exact .head _) a ha z.symm
  refine store_fine (F:=tight env x) ok fm hV (hkind (x,d) (by exact .head _)) tight_ok fun h' tk fm' ok' p'=> ?_
  have gI:∀o,s.heap.get? I=some o->h'.get? I=some o:=fun o e=>by
   obtain ⟨sl,e1,r1⟩:=p'.slots I o (by exact .head _) (fun z=>(fun a ha=>by
   rcases tight_mem ha with z| ⟨_,e⟩
   ·rw [z];exact nI _ hi.1
   ·exact nI _ (hi.2 _ (mem_of_lookup e)):∀a∈tight env x,a≠I) I z rfl) e
   have:=r1 (hnd I (by exact .head _) o e)
   subst this;exact e1
  refine hQ h' tk ⟨W.frame _ _ _ st fun b hb o e=> ?_,jmove _ _ _ _ j p'.stay p'.less⟩ fm' ok' (p'.wide fun a ha=> ?_)
  ·rcases jfp _ _ j b hb with z| z
   ·cases z;exact gI o e
   ·exact p'.stay b o z e
  ·rcases tight_mem ha with z| ⟨k,e⟩
   ·rw [z];exact List.mem_append_right _ hF.1
   ·exact List.mem_append_right _ (hF.2 (x,d) (by exact .head _) k _ e)
 done:=fun σ fr s Q E ok st _ hQ=>by
  rw [(by simp [hlen]:(ds.map fun d=>[(x,d)]).length=n)] at st
  exact W.done s Q E st.1 fun h' tk hk=>hQ h' tk hk
 self:=fun i K s Q E st hQ=>W.self i s Q E st.1 hQ
inductive SP (c:Cx)(A:Around)(fr:List Addr)(σ:Sto)(tg:Expr)(Q:List Vars->(Sto->Prop)->Sto->Prop)(s:Shared)(it:Value)(s2:Shared):Prop
 | mk (I:Addr) (wr:List Addr) (vals:List Vars) (Inv:Sto->Prop) (St:Nat->List Addr->Heap->Prop) (Mid:Nat->List Addr->Heap->Value->Prop) (e:it=.ref I) (sh:∃h tk,s2={s with heap:=h,toks:=tk}) (k:∀b o,s.heap.get? b=some o->s2.heap.get? b=some o) (hn:∀a∈wr,s.heap.get? a=none)
   (hl:∀a∈wr,∃o,s2.heap.get? a=some o) (nd:wr.Nodup) (src:Src c A tg I wr vals Inv St Mid) (st:St 0 (keys σ++(wr++fr)) s2.heap) (inv:Inv σ) (q:Q vals Inv σ):SP c A fr σ tg Q s it s2
noncomputable def WIv (c:Cx)(A:Around)(fr:List Addr)(env:Env)(m:Vars)(σ:Sto)(d:D)(tg:Expr)(Q:List Vars->(Sto->Prop)->Sto->Prop):Prop:=
 ∀v s (E:Value->Shared->Prop),Ok c A fr σ s.heap->Fm env m fr (keys σ++fr) s.heap->V (keys σ++fr) s.heap d v->
  wpAny (model c.prog c.w) A (pyIter v) (SP c A fr σ tg Q s) E s
theorem SP.it {tg:Expr}{Q:List Vars->(Sto->Prop)->Sto->Prop}{σ1:Sto}{s s1 s2:Shared}{it:Value}(fm:Fm env m fr (keys σ++fr) s.heap)(p1:Post [] fr σ s s1 σ1)(ok1:Ok c A fr σ1 s1.heap)(hx:SP c A fr σ1 tg Q s1 it s2):
  ItP c A fr env m σ tg Q s it s2:=by
 have fm1:=fm.move p1
 obtain ⟨I,wr,vals,Inv,St,Mid,rfl,⟨h2,tk2,rfl⟩,hk,hn,hl,nd,src,st0,inv,q⟩:=hx
 have p2:Post [] fr σ1 s1 {s1 with heap:=h2,toks:=tk2} σ1:=Post.keeps hk
 refine ⟨I,wr,vals,Inv,St,Mid,σ1,rfl,p1.trans p2,ok1.keeps hk,ok1.more hk hn hl nd,fun a ha=>none_back p1 (hn a ha),?_,src,st0,inv,q⟩
 exact Fm.move (s:=s1) (s':={s1 with heap:=h2,toks:=tk2}) (fm1.shift ⟨List.mem_append_right _ fm1.inn.1,fun q hq=>List.mem_append_right _ (fm1.inn.2 q hq)⟩ (less_add hn)) (Post.keeps hk)
theorem WIt.of {iter tg:Expr}{Q:List Vars->(Sto->Prop)->Sto->Prop}(h:WE c A fr env m σ iter (fun d σ1=>WIv c A fr env m σ1 d tg Q) X):WIt c A fr env m σ iter tg Q X:=fun s ok fm=>by
 refine wpAny_mono (h s ok fm) (fun x s1 hz=> ?_) fun _ _ x=>x
 obtain ⟨d,σ1,p1,ok1,v1,q1⟩:=hz
 exact wpAny_mono (q1 x s1 _ ok1 (fm.move p1) v1) (fun it s2 hx=>hx.it fm p1 ok1) fun _ _ x=>x
theorem WIt.callT (g:c.Good){f:Str}{fp pos:Pos}{args:List Expr}{T:String}{tg:Expr}{Q:List Vars->(Sto->Prop)->Sto->Prop}(hk:env.kindOf f=some .globalImplicit)(hg:c.mg f=none)(hb:c.mb f=some (.type T))
  (h:WA c A fr env m σ args (fun ds σ1=>∀s vals (E:Value->Shared->Prop),Ok c A fr σ1 s.heap->Fm env m fr (keys σ1++fr) s.heap->Vs (keys σ1++fr) s.heap ds vals->wpAny (model c.prog c.w) A (call (.type T) vals) (fun x s1=>wpAny (model c.prog c.w) A (pyIter x) (SP c A fr σ1 tg Q s) E s1) E s) X)
  (hp:plainArgs args=true:=by rfl) (hdb:(f==("__debug__":Str))=false:=by decide):WIt c A fr env m σ (.Call (.Name f fp) args [] pos) tg Q X:=fun s ok fm=>by
 refine wpAny_bind (Name_function_global fm.kind hk (loadGlobal_builtin (by rw [fm.glob];exact g.g.keeps ok.base) hg (by rw [fm.bui];exact g.b.keeps ok.base) hb ?_) hdb)
 refine PySem.callWith_type (by
  rw [List.any_eq_false];intro x hx;simp [(plainArgs_starEach (env:=env) (pos:=pos) hp) x hx]) (wpAny_evalArgs (plainArgs_starEach hp) (wpAny_mono (h pos s ok fm) (fun vs s1 ⟨ds,σ1,p1,ok1,x1,q1⟩=> ?_) fun _ _ x=>x))
 exact wpAny_mono (q1 s1 vs _ ok1 (fm.move p1) x1) (fun x s2 hx=>wpAny_mono hx (fun it s3 hx=>hx.it fm p1 ok1) fun _ _ x=>x) fun _ _ x=>x
theorem WE.callT (g:c.Good){f:Str}{fp pos:Pos}{args:List Expr}{T:String}{Q:D->Sto->Prop}(hk:env.kindOf f=some .globalImplicit)(hg:c.mg f=none)(hb:c.mb f=some (.type T))
  (h:WA c A fr env m σ args (fun ds σ1=>∀s vals,Ok c A fr σ1 s.heap->Vs (keys σ1++fr) s.heap ds vals->W c A none fr σ1 (call (.type T) vals) V Q X s) X) (hp:plainArgs args=true:=by rfl) (hdb:(f==("__debug__":Str))=false:=by decide):WE c A fr env m σ (.Call (.Name f fp) args [] pos) Q X:=fun s ok fm=>by
 refine wpAny_bind (Name_function_global fm.kind hk (loadGlobal_builtin (by rw [fm.glob];exact g.g.keeps ok.base) hg (by rw [fm.bui];exact g.b.keeps ok.base) hb ?_) hdb)
 refine PySem.callWith_type (by
  rw [List.any_eq_false];intro x hx;simp [(plainArgs_starEach (env:=env) (pos:=pos) hp) x hx]) (wpAny_evalArgs (plainArgs_starEach hp) (wpAny_mono (h pos s ok fm) (fun vs s1 ⟨ds,σ1,p1,ok1,x1,q1⟩=> ?_) fun _ _ x=>x))
 refine wpAny_mono (q1 s1 vs ok1 x1) (fun _ _ z=>z.back p1) fun _ _ x=>Ex.back p1 x fun _ _ y=>y
theorem heap_ne {h:Heap}{a:Addr}{o:Obj}(e:h.get? a=some o):a≠h.objs.size:=fun z=>Nat.lt_irrefl _ (z▸Heap.lt_size e)
theorem WIv.lst {ds:List D}{x:Str}{px:Pos}{Q:List Vars->(Sto->Prop)->Sto->Prop}(hh:A.handled=none)(h:Q (ds.map fun d=>[(x,d)]) (fun _=>True) σ):WIv c A fr env m σ (.lst ds) (.Name x px) Q:=fun v s E ok fm hv=>by
 obtain ⟨a,vs,n,rfl,hak,g,hvs⟩:=hv
 have hL:s.heap.IsList a vs.toArray:=⟨_,g,rfl,n,rfl⟩
 refine wpAny_pyIter_list hL ?_
 refine ⟨_,[s.heap.objs.size],_,_,_,_,rfl,⟨_,s.toks,rfl⟩,fun b o e=>Heap.get?_push_of_some _ e,fun b hb=>by rw [List.mem_singleton.mp hb];exact none_of_ge (Nat.le_refl _),fun b hb=>by rw [List.mem_singleton.mp hb];exact ⟨_,Heap.get?_push_size _ rfl⟩,by simp,
  Src.ofWalks (J:=fun K h=>a∉K/\h.IsList a vs.toArray/\Vs K h ds vs) (Walks.list hh s.heap.objs.size a (heap_ne g) vs.toArray) (by exact hvs.length.symm) ?_ ?_ ?_ ?_,?_,trivial,h⟩
 ·rintro i h ⟨⟨o,g,_,hd⟩,_⟩;exact ⟨o,_,g,hd⟩
 ·rintro K K' h h' ⟨j1,⟨o,g,r⟩,j3⟩ sy hl
  exact ⟨hl.nin j1 g,⟨o,sy _ _ j1 g,r⟩,Vs.move sy hl _ _ j3⟩
 ·rintro K h i v _ ⟨j1,j2,j3⟩ hp
  exact j3.get (by simpa using hp)
 ·rintro K h ⟨j1,j2,j3⟩ b hb
  rcases List.mem_cons.mp hb with z| z
  ·exact .inl z
  ·exact .inr (List.mem_singleton.mp z▸j1)
 ·have st:Stay (keys σ++fr) s.heap (s.heap.push {cls:=.type "list_iterator",data:=.fields #[.ref a,.int 0 0]}):=fun b o _ e=>Heap.get?_push_of_some _ e
  have hn:∀b∈[s.heap.objs.size],s.heap.get? b=none:=fun b hb=>by exact (List.mem_singleton.mp hb)▸none_of_ge (Nat.le_refl _)
  refine ⟨⟨⟨_,Heap.get?_push_size _ rfl,rfl,rfl⟩,hL.push _⟩,(less_add hn).nin hak g,hL.push _,Vs.move st (less_add hn) _ _ hvs⟩
theorem WIv.tup {ds:List D}{x:Str}{px:Pos}{Q:List Vars->(Sto->Prop)->Sto->Prop}(hh:A.handled=none)(h:Q (ds.map fun d=>[(x,d)]) (fun _=>True) σ):WIv c A fr env m σ (.tup ds) (.Name x px) Q:=fun v s E ok fm hv=>by
 obtain ⟨a,vs,n,rfl,hak,g,hvs⟩:=hv
 have hL:s.heap.IsTuple a vs.toArray:=⟨_,g,rfl,n,rfl⟩
 refine wpAny_pyIter_tuple hL ?_
 refine ⟨_,[s.heap.objs.size],_,_,_,_,rfl,⟨_,s.toks,rfl⟩,fun b o e=>Heap.get?_push_of_some _ e,fun b hb=>by rw [List.mem_singleton.mp hb];exact none_of_ge (Nat.le_refl _),fun b hb=>by exact (List.mem_singleton.mp hb)▸⟨_,Heap.get?_push_size _ rfl⟩,by simp,
  Src.ofWalks (J:=fun K h=>a∉K/\h.IsTuple a vs.toArray/\Vs K h ds vs) (Walks.tuple hh s.heap.objs.size a (heap_ne g) vs.toArray) (by exact hvs.length.symm) ?_ ?_ ?_ ?_,?_,trivial,h⟩
 ·rintro i h ⟨⟨o,g,_,hd⟩,_⟩;exact ⟨o,_,g,hd⟩
 ·rintro K K' h h' ⟨j1,⟨o,g,r⟩,j3⟩ sy hl
  exact ⟨hl.nin j1 g,⟨o,sy _ _ j1 g,r⟩,Vs.move sy hl _ _ j3⟩
 ·rintro K h i v _ ⟨j1,j2,j3⟩ hp
  exact j3.get (by simpa using hp)
 ·rintro K h ⟨j1,j2,j3⟩ b hb
  rcases List.mem_cons.mp hb with z| z
  ·exact .inl z
  ·exact .inr (List.mem_singleton.mp z▸j1)
 ·have hn:∀b∈[s.heap.objs.size],s.heap.get? b=none:=fun b hb=>by rw [List.mem_singleton.mp hb];exact none_of_ge (Nat.le_refl _)
  refine ⟨⟨⟨_,Heap.get?_push_size _ rfl,rfl,rfl⟩,hL.push _⟩,(less_add hn).nin hak g,hL.push _,Vs.move (K:=keys σ++fr) (fun b o _ e=>Heap.get?_push_of_some _ e) (less_add hn) _ _ hvs⟩
theorem WIv.ref {a:Addr}{ds:List D}{x:Str}{px:Pos}{Q:List Vars->(Sto->Prop)->Sto->Prop}(hh:A.handled=none)(hm:(a,O.lst ds)∈σ)(h:Q (ds.map fun d=>[(x,d)]) (fun σ'=>(a,O.lst ds)∈σ') σ):WIv c A fr env m σ (.ref a) (.Name x px) Q:=fun v s E ok fm hv=>by
 subst hv
 obtain ⟨vs,n,g,hvs⟩:=ok.sto _ hm
 have hne:=heap_ne g
 refine wpAny_pyIter_list (⟨_,g,rfl,n,rfl⟩) ?_
 refine ⟨_,[s.heap.objs.size],_,fun σ'=>(a,O.lst ds)∈σ',fun i K h=>a≠s.heap.objs.size/\h.IsListIter s.heap.objs.size a i,fun i K h v=>(a≠s.heap.objs.size/\h.IsListIter s.heap.objs.size a (i+1))/\∃d,ds[i]? =some d/\V K h d v,rfl,⟨_,s.toks,rfl⟩,fun b o e=>Heap.get?_push_of_some _ e,fun b hb=>by rw [List.mem_singleton.mp hb];exact none_of_ge (Nat.le_refl _),fun b hb=>by exact (List.mem_singleton.mp hb)▸⟨_,Heap.get?_push_size _ rfl⟩,by simp,
  ?_,⟨hne,_,Heap.get?_push_size _ rfl,rfl,rfl⟩,hm,h⟩
 exact {
  nodict:=fun i K h st b hb o g es n e=>by
   obtain ⟨_,o',g',_,d'⟩:=st
   rw [List.mem_singleton.mp hb,g'] at g;obtain rfl:=Option.some.inj g;replace e:=(d' ..).symm.trans e;contradiction
  midnd:=fun i K h v st b hb o g es n e=>by
   obtain ⟨⟨_,o',g',_,d'⟩,_⟩:=st
   rw [List.mem_singleton.mp hb,g'] at g;obtain rfl:=Option.some.inj g;replace e:=(d' ..).symm.trans e;contradiction
  move:=fun i K K' h h' st sy hw hl=>by
   obtain ⟨h1,o',g',r⟩:=st
   exact ⟨h1,o',hw _ (by exact .head _) _ g',r⟩
  next:=fun i σ fr s' Q E hi ok st inv hQ=>by
   obtain ⟨us,n',g',hus⟩:=ok.sto _ inv
   have hi':i<us.length:=by rw [hus.length];simpa using hi
   refine wpAny_pyNext_list_item (items:=us.toArray) (x:=us[i]) st.2 ⟨_,g',rfl,n',rfl⟩ (by simp) fun h' it' sb'=> ?_
   obtain ⟨d,hd,hV⟩:=hus.get (i:=i) (v:=us[i]) (by simp)
   refine hQ _ h' s'.toks ⟨⟨st.1,it'⟩,d,hd,V.move (fun b o nb e=>(sb'.2 b fun z=>nb (by simp only [z];simp)).trans e) (fun a ha=>.inl ha) _ _ hV⟩ ⟨fun b o nb e=>(sb'.2 b fun z=>nb (by simp [z])).trans e,fun b hb=> ?_⟩
   obtain ⟨o,g,_⟩:=it';exact (List.mem_singleton.mp hb)▸⟨o,g⟩
  put:=fun i σ fr F env m v s' Q E y hy mid ok fm hi hkind hF hnd hQ=>by
   obtain ⟨⟨hne,st⟩,d,hd,hV⟩:=mid
   have hy':y=[(x,d)]:=by
    rw [List.getElem?_map,hd] at hy;exact (Option.some.inj hy).symm
   subst hy'
   refine wpAny_pure (wpAny_assign_Name ?_)
   have ndw:=ok.nd
   rw [List.nodup_append,List.nodup_append] at ndw
   have nI:∀a∈fr,a≠s.heap.objs.size:=fun a ha z=>ndw.2.1.2.2 _ (by simp) a ha z.symm
   have hF0:∀a∈tight env x,a≠s.heap.objs.size:=fun a ha=>by
    rcases tight_mem ha with z| ⟨_,e⟩
    ·rw [z];exact nI _ hi.1
    ·exact nI _ (hi.2 _ (mem_of_lookup e))
   refine store_fine (F:=tight env x) ok fm hV (hkind (x,d) (by simp)) tight_ok fun h' tk fm' ok' p'=> ?_
   refine hQ h' tk ⟨hne,?_⟩ fm' ok' (p'.wide fun a ha=> ?_)
   ·obtain ⟨o,g,r⟩:=st
    obtain ⟨sl,e1,r1⟩:=p'.slots _ o (by simp) (fun z=>hF0 _ z rfl) g
    have:=r1 (hnd _ (by simp) o g)
    subst this;exact ⟨o,e1,r⟩
   ·rcases tight_mem ha with z| ⟨k,e⟩
    ·rw [z];exact List.mem_append_right _ hF.1
    ·exact List.mem_append_right _ (hF.2 (x,d) (by simp) k _ e)
  done:=fun σ fr s' Q E ok st inv hQ=>by
   obtain ⟨us,n',g',hus⟩:=ok.sto _ inv
   have e:(ds.map fun d=>[(x,d)]).length=us.length:=by simp [hus.length]
   rw [e] at st
   exact wpAny_pyNext_list_end (items:=us.toArray) hh st.2 ⟨_,g',rfl,n',rfl⟩ (by simp) fun h' he'=>hQ h' s'.toks fun b o hb e=>he' b o (fun z=>hb (by simp [z])) e
  self:=fun i K s' Q E st hQ=>wpAny_pyIter_listiter st.2 hQ}
theorem rangeSize_toNat {n:Int}:(Builtin.Range.rangeSize 0 n 1)=((n.toNat:Nat):Int):=by
 rw [rangeSize_one];split<;>lia
theorem WIt.range1 (g:c.Good)(hh:A.handled=none){f:Str}{fp pos px:Pos}{e:Expr}{x:Str}{Q:List Vars->(Sto->Prop)->Sto->Prop}(hk:env.kindOf f=some .globalImplicit)(hg:c.mg f=none)(hb:c.mb f=some (.type "range"))
  (h:WE c A fr env m σ e (fun d σ1=>∃n:Int,d=.int n/\-(2^62)<=n/\n<2^62/\Q ((List.range n.toNat).map fun (i:Nat)=>[(x,D.int (i:Int))]) (fun _=>True) σ1) X) (hp:plainArgs [e]=true:=by rfl) (hdb:(f==("__debug__":Str))=false:=by decide):
  WIt c A fr env m σ (.Call (.Name f fp) [e] [] pos) (.Name x px) Q X:=by
 refine WIt.callT g hk hg hb (WA.cons (h.mono (fun d σ1 q=>WA.nil ?_) fun _ _ y=>y) hp) hp hdb
 intro s vals E ok fm hv
 obtain ⟨n,rfl,h1,h2,q⟩:=q
 obtain ⟨v,r,rfl,hv,hr⟩:=hv
 subst hr
 obtain ⟨t,rfl⟩:=hv
 refine call_range_1 ?_
 refine wpAny_pyIter_range (IsRange.new _ _ _ _ _ _ _) (small_one (by decide) (by decide) h1 h2) ?_
 generalize hH:s.heap.push {cls:=.type "range",data:=.fields #[.int 0 s.toks,.int n t,.int 1 (s.toks+1)]}=H
 have hHk:∀b o,s.heap.get? b=some o->H.get? b=some o:=fun b o e=>hH▸Heap.get?_push_of_some _ e
 refine ⟨H.objs.size,[H.objs.size],_,_,_,_,rfl,⟨_,_,rfl⟩,fun b o e=>Heap.get?_push_of_some _ (hHk b o e),fun b hb=>by rw [List.mem_singleton.mp hb];exact (none_of_ge (by rw [(by rw [<-hH,Heap.size_push]:H.objs.size=s.heap.objs.size+1)];exact Nat.le_succ _)),fun b hb=>by rw [List.mem_singleton.mp hb];exact ⟨_,Heap.get?_push_size _ rfl⟩,by simp,
  Src.ofWalks (ds:=(List.range n.toNat).map fun (i:Nat)=>D.int (i:Int)) (J:=fun K h=>True) (Walks.range hh H.objs.size 0 1 n.toNat) (by simp) ?_ ?_ ?_ ?_,?_,trivial,by simpa [List.map_map,Function.comp_def] using q⟩
 ·intro i h st;exact ⟨_,_,st,rfl⟩
 ·intros;trivial
 ·rintro K h i v hi _ ⟨t,rfl⟩
  refine ⟨.int i,by simp [hi],?_⟩
  exact ⟨t,by simp⟩
 ·rintro K h _ b hb;exact .inl (List.mem_singleton.mp hb)
 ·refine ⟨?_,trivial⟩
  have:=Heap.get?_push_size H (o:={cls:=.type "range_iterator",data:=.fields #[rawInt 0,rawInt (Builtin.Range.rangeSize 0 n 1),rawInt 1]}) rfl
  rw [rangeSize_toNat] at this
  rw [rangeSize_toNat]
  trivial
end
end Mine
namespace Mine
open PySem PySem.Calls PyProof.Rows
noncomputable def SqIt (b:Bool)(h:Heap)(i l:Addr)(k:Nat):Prop:=if b then h.IsListIter i l k else h.IsTupleIter i l k
noncomputable def SqOf (b:Bool)(h:Heap)(l:Addr)(xs:Array Value):Prop:=if b then h.IsList l xs else h.IsTuple l xs
theorem SqIt.at {b:Bool}{h h':Heap}{i l:Addr}{k:Nat}(x:SqIt b h i l k)(e:∀o,h.get? i=some o->h'.get? i=some o):SqIt b h' i l k:=by
 cases b with
 | true=>obtain ⟨o,g,r⟩:=x;exact ⟨o,e _ g,r⟩
 | false=>obtain ⟨o,g,r⟩:=x;exact ⟨o,e _ g,r⟩
theorem SqOf.at {b:Bool}{h h':Heap}{l:Addr}{xs:Array Value}(x:SqOf b h l xs)(e:∀o,h.get? l=some o->h'.get? l=some o):SqOf b h' l xs:=by
 cases b with
 | true=>obtain ⟨o,g,r⟩:=x;exact ⟨o,e _ g,r⟩
 | false=>obtain ⟨o,g,r⟩:=x;exact ⟨o,e _ g,r⟩
theorem SqIt.there {b:Bool}{h:Heap}{i l:Addr}{k:Nat}(x:SqIt b h i l k):∃o vs,h.get? i=some o/\o.data=.fields vs:=by
 cases b with
 | true=>obtain ⟨o,g,_,r⟩:=x;exact ⟨o,_,g,r⟩
 | false=>obtain ⟨o,g,_,r⟩:=x;exact ⟨o,_,g,r⟩
section
variable {prog:Program} {w:World} {A:Around} {E:Value->Shared->Prop} {s:Shared}
theorem nextOf_tuple_item {it t:Addr}{i:Nat}{items}{x:Value}{Q:Value->Shared->Prop}(hit:s.heap.IsTupleIter it t i)(ht:s.heap.IsTuple t items)(hx:items[i]? =some x)
  (hQ:∀h',h'.IsTupleIter it t (i+1)->Heap.SameBut it s.heap h'->Q x {s with heap:=h'}):wpAny (model prog w) A (Builtin.SmallTypes.nextOf (.ref it)) Q E s:=by
 obtain ⟨o,ho,hc,hd⟩:=id hit
 obtain ⟨ol,hol,_,nl,hdl⟩:=ht
 refine wpAny_bind (wpAny_callSpecial?_slot (name:=Str.ofString "__next__") hit.typeIs F.slot_tuple_iterator_next
  (wpAny_call_entry F.slot_tuple_iterator_next hit.typeIs F.entry_tuple_iterator_next ?_ (F.args_tuple_iterator_next_1 _)))
 refine wpAny_bind (m:=field (.ref it) 0) (wpAny_field ho hd (x:=.ref t) rfl ?_)
 refine wpAny_bind (m:=field (.ref it) 1) (wpAny_field ho hd (x:=.int i 0) rfl ?_)
 refine wpAny_bind (m:=seqItems? (.ref t)) (wpAny_seqItems hol hdl ?_)
 simp only [Int.toNat_natCast,hx]
 refine wpAny_bind (wpAny_setField ho hd (by exact Nat.le_refl _) (wpAny_pure ⟨x,rfl,wpAny_pure (hQ _ ?_ (Heap.SameBut.update ..))⟩))
 exact ⟨_,Heap.get?_update_self _ ho (Obj.isFreed_of_fields (Obj.data_mapFields hd _)),(Obj.cls_mapFields ..).trans hc,by
  rw [Obj.data_mapFields hd];rfl⟩
theorem nextOf_tuple_end {it t:Addr}{i:Nat}{items}{Q:Value->Shared->Prop}(hh:A.handled=none)(hit:s.heap.IsTupleIter it t i)(ht:s.heap.IsTuple t items)(hx:items[i]? =none)
  (hE:∀h' e,Heap.ExtBut it s.heap h'->(∃o,h'.get? e=some o/\o.cls=.type "StopIteration")->E (.ref e) {s with heap:=h'}):wpAny (model prog w) A (Builtin.SmallTypes.nextOf (.ref it)) Q E s:=by
 obtain ⟨o,ho,hc,hd⟩:=id hit
 obtain ⟨ol,hol,_,nl,hdl⟩:=ht
 refine wpAny_bind (wpAny_callSpecial?_slot (name:=Str.ofString "__next__") hit.typeIs F.slot_tuple_iterator_next
  (wpAny_call_entry F.slot_tuple_iterator_next hit.typeIs F.entry_tuple_iterator_next ?_ (F.args_tuple_iterator_next_1 _)))
 refine wpAny_bind (m:=field (.ref it) 0) (wpAny_field ho hd (x:=.ref t) rfl ?_)
 refine wpAny_bind (m:=field (.ref it) 1) (wpAny_field ho hd (x:=.int i 0) rfl ?_)
 refine wpAny_bind (m:=seqItems? (.ref t)) (wpAny_seqItems hol hdl ?_)
 simp only [Int.toNat_natCast,hx]
 refine wpAny_bind (wpAny_rule (wpAny_bind (wpAny_setField ho hd (by exact Nat.le_add_right _ _) ?_)))
 refine wpAny_bind (m:=newExc (.type "StopIteration") []) ?_
 refine wpAny_bind (wpAny_newObj_type ?_ (by size_fits))
 refine wpAny_bind (m:=firstArgMember _ _) (wpAny_of_eq (a:=Value.none) (by first| rfl| (rfl;rfl)) ?_)
 refine wpAny_newObj_type ?_ (by size_fits)
 simp only
 refine wpAny_bind (wpAny_handled ?_)
 first| rw [show A.in1.handled=none from hh]| rw [hh]
 refine wpAny_bind (wpAny_pure (wpAny_throw ?_))
 exact hE _ _ (((Heap.SameBut.update ..).extBut.push _).push _) ⟨_,Heap.get?_push_size _ rfl,rfl⟩
theorem nextOf_sq_item {b:Bool}{it l:Addr}{i:Nat}{items:Array Value}{x:Value}{Q:Value->Shared->Prop}(hit:SqIt b s.heap it l i)(hl:SqOf b s.heap l items)(hx:items[i]? =some x)
  (hQ:∀h',SqIt b h' it l (i+1)->Heap.SameBut it s.heap h'->Q x {s with heap:=h'}):wpAny (model prog w) A (Builtin.SmallTypes.nextOf (.ref it)) Q E s:=by
 cases b with
 | true=>exact wpAny_nextOf_list_item hit hl hx hQ
 | false=>exact nextOf_tuple_item hit hl hx hQ
theorem nextOf_sq_end {b:Bool}{it l:Addr}{i:Nat}{items:Array Value}{Q:Value->Shared->Prop}(hh:A.handled=none)(hit:SqIt b s.heap it l i)(hl:SqOf b s.heap l items)(hx:items[i]? =none)
  (hE:∀h' e,Heap.ExtBut it s.heap h'->(∃o,h'.get? e=some o/\o.cls=.type "StopIteration")->E (.ref e) {s with heap:=h'}):wpAny (model prog w) A (Builtin.SmallTypes.nextOf (.ref it)) Q E s:=by
 cases b with
 | true=>exact wpAny_nextOf_list_end hh hit hl hx hE
 | false=>exact nextOf_tuple_end hh hit hl hx hE
theorem zip_item {b1 b2:Bool}{z TI TO i1 i2 l1 l2:Addr}{k:Nat}{xs ys:Array Value}{x y a b:Value}{Q:Value->Shared->Prop}(D:ZipApart z TI TO i1 i2 l1 l2)
  (hz:IsZip s.heap z TI TO .none) (hTI:IsPair s.heap TI (.ref i1) (.ref i2)) (hTO:IsPair s.heap TO a b)
  (h1:SqIt b1 s.heap i1 l1 k) (h2:SqIt b2 s.heap i2 l2 k) (hl1:SqOf b1 s.heap l1 xs) (hl2:SqOf b2 s.heap l2 ys) (hx:xs[k]? =some x) (hy:ys[k]? =some y)
  (hQ:∀h',IsZip h' z TI TO (rawInt s.heap.objs.size)->IsPair h' TO x y->SqIt b1 h' i1 l1 (k+1)->SqIt b2 h' i2 l2 (k+1)->IsPair h' s.heap.objs.size x y->
   (∀c o,c≠z->c≠TO->c≠i1->c≠i2->s.heap.get? c=some o->h'.get? c=some o)->Q (.ref s.heap.objs.size) {s with heap:=h'}):
  wpAny (model prog w) A (Builtin.«zip.__next__» ⟨[.ref z],[]⟩) (fun fin s'=>∃v,fin=.done (.ret v)/\Q v s') E s:=by
 refine wpAny_bind (m:=field (.ref z) 2) (wpAny_field hz rfl (x:=.bool false) rfl ?_)
 refine wpAny_bind (m:=field (.ref z) 3) (wpAny_field hz rfl (x:=.ref TI) rfl ?_)
 refine wpAny_bind (wpAny_seqItems hTI rfl ?_)
 refine wpAny_bind (m:=Builtin.SmallTypes.ownedTupleIsFree (.ref z)) ?_
 refine wpAny_bind (wpAny_field hz rfl (x:=.none) rfl (wpAny_pure ?_))
 refine wpAny_bind (wpAny_rule ?_)
 refine wpAny_bind (wpAny_field hz rfl (x:=.ref TO) rfl ?_)
 refine wpAny_bind (wpAny_setField_rec hz (by exact Nat.le_add_left _ _) fun h₁ hz₁ hs₁=> ?_)
 replace hz₁:IsZip h₁ z TI TO .ellipsis:=hz₁
 refine wpAny_bind ?_
 have k1:∀{c o},c≠z->s.heap.get? c=some o->h₁.get? c=some o:=fun c e=>hs₁.extBut _ _ c e
 refine wpAny_bind (wpAny_bind (wpAny_onRaise ?_))
 refine wpAny_bind (m:=Builtin.SmallTypes.nextOf (.ref i1)) (nextOf_sq_item (h1.at fun o e=>k1 D.i1z e) (hl1.at fun o e=>k1 D.l1z e) hx fun h₂ h1₂ hs₂=>wpAny_pure ?_)
 have k2:∀{c o},c≠i1->h₁.get? c=some o->h₂.get? c=some o:=fun c e=>hs₂.extBut _ _ c e
 have hTO₂:=k2 D.TOi1 (k1 D.TOz hTO)
 refine wpAny_bind (wpAny_seqItems hTO₂ rfl ?_)
 refine wpAny_bind (wpAny_updateSeq_pair hTO₂ fun h₃ hTO₃ hs₃=> ?_)
 replace hTO₃:IsPair h₃ TO x b:=hTO₃
 have k3:∀{c o},c≠TO->h₂.get? c=some o->h₃.get? c=some o:=fun c e=>hs₃.extBut _ _ c e
 refine wpAny_bind (wpAny_letGo (wpAny_pure ?_))
 refine wpAny_bind (wpAny_bind (wpAny_onRaise ?_))
 refine wpAny_bind (m:=Builtin.SmallTypes.nextOf (.ref i2)) (nextOf_sq_item (h2.at fun o e=>k3 D.TOi2.symm (k2 D.i12.symm (k1 D.i2z e))) (hl2.at fun o e=>k3 D.l2TO (k2 D.l2i1 (k1 D.l2z e))) hy fun h₄ h2₄ hs₄=>wpAny_pure ?_)
 have k4:∀{c o},c≠i2->h₃.get? c=some o->h₄.get? c=some o:=fun c e=>hs₄.extBut _ _ c e
 have hTO₄:=k4 D.TOi2 hTO₃
 refine wpAny_bind (wpAny_seqItems hTO₄ rfl ?_)
 refine wpAny_bind (wpAny_updateSeq_pair hTO₄ fun h₅ hTO₅ hs₅=> ?_)
 replace hTO₅:IsPair h₅ TO x y:=hTO₅
 have k5:∀{c o},c≠TO->h₄.get? c=some o->h₅.get? c=some o:=fun c e=>hs₅.extBut _ _ c e
 refine wpAny_bind (wpAny_letGo (wpAny_pure (wpAny_pure ?_)))
 refine wpAny_bind (wpAny_seqItems hTO₅ rfl ?_)
 refine wpAny_bind (wpAny_newTuple ?_)
 have hsz:h₅.objs.size=s.heap.objs.size:=by simp only [hs₅.1,hs₄.1,hs₃.1,hs₂.1,hs₁.1]
 have hz₅:IsZip h₅ z TI TO .ellipsis:=k5 D.TOz.symm (k4 D.i2z.symm (k3 D.TOz.symm (k2 D.i1z.symm hz₁)))
 have hk₅:∀c o,c≠z->c≠TO->c≠i1->c≠i2->s.heap.get? c=some o->h₅.get? c=some o:=fun c o c1 c2 c3 c4 e=>k5 c2 (k4 c4 (k3 c2 (k2 c3 (k1 c1 e))))
 have h1₅:SqIt b1 h₅ i1 l1 (k+1):=h1₂.at fun o e=>k5 D.TOi1.symm (k4 D.i12 (k3 D.TOi1.symm e))
 have h2₅:SqIt b2 h₅ i2 l2 (k+1):=h2₄.at fun o e=>k5 D.TOi2.symm e
 have hzlt:z<h₅.objs.size:=Heap.lt_size hz₅
 refine wpAny_bind (m:=Builtin.SmallTypes.ownedTupleHandOut (.ref z) (.ref h₅.objs.size)) ?_
 unfold Builtin.SmallTypes.ownedTupleHandOut
 have hz₆:IsZip (h₅.push {cls:=.type "tuple",data:=.seq #[x,y]}) z TI TO .ellipsis:=Heap.get?_push_of_some _ hz₅
 refine wpAny_bind (wpAny_setField_rec hz₆ (by simp) fun h₇ hz₇ hs₇=> ?_)
 replace hz₇:IsZip h₇ z TI TO (rawInt h₅.objs.size):=hz₇
 refine wpAny_setField_rec hz₇ (by simp) fun h₈ hz₈ hs₈=> ?_
 replace hz₈:IsZip h₈ z TI TO (rawInt h₅.objs.size):=hz₈
 have up:∀c o,c≠z->h₅.get? c=some o->h₈.get? c=some o:=fun c o c1 e=>hs₈.extBut _ _ c1 (hs₇.extBut _ _ c1 (Heap.get?_push_of_some _ e))
 have hT₈:IsPair h₈ h₅.objs.size x y:=hs₈.extBut _ _ (Nat.ne_of_gt hzlt) (hs₇.extBut _ _ (Nat.ne_of_gt hzlt) (Heap.get?_push_size _ rfl))
 rw [hsz] at hz₈ hT₈
 refine wpAny_pure ⟨_,rfl,?_⟩
 show Q (.ref h₅.objs.size) _
 rw [hsz]
 exact hQ h₈ hz₈ (up _ _ D.TOz hTO₅) (h1₅.at fun o e=>up _ o D.i1z e) (h2₅.at fun o e=>up _ o D.i2z e) hT₈ fun c o c1 c2 c3 c4 e=>up c o c1 (hk₅ c o c1 c2 c3 c4 e)
theorem zip_end {b1 b2:Bool}{z TI TO i1 i2 l1 l2:Addr}{k:Nat}{xs ys:Array Value}{a b:Value}{Q:Fin->Shared->Prop}(hh:A.handled=none)(D:ZipApart z TI TO i1 i2 l1 l2)
  (hz:IsZip s.heap z TI TO .none) (hTI:IsPair s.heap TI (.ref i1) (.ref i2)) (hTO:IsPair s.heap TO a b)
  (h1:SqIt b1 s.heap i1 l1 k) (h2:SqIt b2 s.heap i2 l2 k) (hl1:SqOf b1 s.heap l1 xs) (hl2:SqOf b2 s.heap l2 ys) (hend:xs[k]? =none\/ys[k]? =none)
  (hE:∀h' e,(∀c o,c≠z->c≠TO->c≠i1->c≠i2->s.heap.get? c=some o->h'.get? c=some o)->(∃o,h'.get? e=some o/\o.cls=.type "StopIteration")->E (.ref e) {s with heap:=h'}):
  wpAny (model prog w) A (Builtin.«zip.__next__» ⟨[.ref z],[]⟩) Q E s:=by
 refine wpAny_bind (m:=field (.ref z) 2) (wpAny_field hz rfl (x:=.bool false) rfl ?_)
 refine wpAny_bind (m:=field (.ref z) 3) (wpAny_field hz rfl (x:=.ref TI) rfl ?_)
 refine wpAny_bind (wpAny_seqItems hTI rfl ?_)
 refine wpAny_bind (m:=Builtin.SmallTypes.ownedTupleIsFree (.ref z)) ?_
 refine wpAny_bind (wpAny_field hz rfl (x:=.none) rfl (wpAny_pure ?_))
 refine wpAny_bind (wpAny_rule ?_)
 refine wpAny_bind (wpAny_field hz rfl (x:=.ref TO) rfl ?_)
 refine wpAny_bind (wpAny_setField_rec hz (by exact Nat.le_add_left _ _) fun h₁ hz₁ hs₁=> ?_)
 replace hz₁:IsZip h₁ z TI TO .ellipsis:=hz₁
 refine wpAny_bind ?_
 have k1:∀{c o},c≠z->s.heap.get? c=some o->h₁.get? c=some o:=fun c e=>hs₁.extBut _ _ c e
 refine wpAny_bind (wpAny_bind (wpAny_onRaise ?_))
 cases hx:xs[k]? with
 | none=>
  refine wpAny_bind (m:=Builtin.SmallTypes.nextOf (.ref i1)) (nextOf_sq_end hh (h1.at fun o e=>k1 D.i1z e) (hl1.at fun o e=>k1 D.l1z e) hx fun h₂ e hs₂ he=> ?_)
  obtain ⟨oe,hoe,hce⟩:=he
  have hz₂:IsZip h₂ z TI TO .ellipsis:=hs₂ _ _ D.i1z.symm hz₁
  have hez:e≠z:=fun x=>by cases x;replace hoe:=(hz₂ ..).symm.trans hoe;injection hoe with hoe;subst hoe;simp at hce
  exact wpAny_setField_rec hz₂ (by exact Nat.le_add_left _ _) fun h₃ _ hs₃=>hE h₃ e (fun c o c1 _ c3 _ x=>hs₃.extBut _ _ c1 (hs₂ _ _ c3 (k1 c1 x))) ⟨oe,hs₃.extBut _ _ hez hoe,hce⟩
 | some x=>
  have hy:ys[k]? =none:=by rcases hend with h| h;rw [hx] at h;cases h;exact h
  refine wpAny_bind (m:=Builtin.SmallTypes.nextOf (.ref i1)) (nextOf_sq_item (h1.at fun o e=>k1 D.i1z e) (hl1.at fun o e=>k1 D.l1z e) hx fun h₂ h1₂ hs₂=>wpAny_pure ?_)
  have k2:∀{c o},c≠i1->h₁.get? c=some o->h₂.get? c=some o:=fun c e=>hs₂.extBut _ _ c e
  have hTO₂:IsPair h₂ TO a b:=k2 D.TOi1 (k1 D.TOz hTO)
  refine wpAny_bind (wpAny_seqItems hTO₂ rfl ?_)
  refine wpAny_bind (wpAny_updateSeq_pair hTO₂ fun h₃ hTO₃ hs₃=> ?_)
  have k3:∀{c o},c≠TO->h₂.get? c=some o->h₃.get? c=some o:=fun c e=>hs₃.extBut _ _ c e
  refine wpAny_bind (wpAny_letGo (wpAny_pure ?_))
  refine wpAny_bind (wpAny_bind (wpAny_onRaise ?_))
  refine wpAny_bind (m:=Builtin.SmallTypes.nextOf (.ref i2)) (nextOf_sq_end hh (h2.at fun o e=>k3 D.TOi2.symm (k2 D.i12.symm (k1 D.i2z e))) (hl2.at fun o e=>k3 D.l2TO (k2 D.l2i1 (k1 D.l2z e))) hy fun h₄ e hs₄ he=> ?_)
  obtain ⟨oe,hoe,hce⟩:=he
  have hz₄:IsZip h₄ z TI TO .ellipsis:=hs₄ _ _ D.i2z.symm (k3 D.TOz.symm (k2 D.i1z.symm hz₁))
  have hez:e≠z:=fun x=>by subst x;rw [hz₄] at hoe;cases hoe;simp at hce
  exact wpAny_setField_rec hz₄ (by simp) fun h₅ _ hs₅=>hE h₅ e (fun c o c1 c2 c3 c4 x=>hs₅.extBut _ _ c1 (hs₄ _ _ c4 (k3 c2 (k2 c3 (k1 c1 x))))) ⟨oe,hs₅.extBut _ _ hez hoe,hce⟩
theorem pyNext_zip_item {b1 b2:Bool}{z TI TO i1 i2 l1 l2:Addr}{k:Nat}{xs ys:Array Value}{x y a b:Value}{Q:Option Value->Shared->Prop}(D:ZipApart z TI TO i1 i2 l1 l2)
  (hz:IsZip s.heap z TI TO .none) (hTI:IsPair s.heap TI (.ref i1) (.ref i2)) (hTO:IsPair s.heap TO a b)
  (h1:SqIt b1 s.heap i1 l1 k) (h2:SqIt b2 s.heap i2 l2 k) (hl1:SqOf b1 s.heap l1 xs) (hl2:SqOf b2 s.heap l2 ys) (hx:xs[k]? =some x) (hy:ys[k]? =some y)
  (hQ:∀h',IsZip h' z TI TO (rawInt s.heap.objs.size)->IsPair h' TO x y->SqIt b1 h' i1 l1 (k+1)->SqIt b2 h' i2 l2 (k+1)->IsPair h' s.heap.objs.size x y->
   (∀c o,c≠z->c≠TO->c≠i1->c≠i2->s.heap.get? c=some o->h'.get? c=some o)->Q (some (.ref s.heap.objs.size)) {s with heap:=h'}):wpAny (model prog w) A (pyNext (.ref z)) Q E s:=by
 have hT:s.TypeIs (.ref z) "zip":=⟨_,hz,rfl⟩
 exact wpAny_bind (wpAny_attempt (wpAny_callSpecial?_slot (name:=Str.ofString "__next__") hT F.slot_zip_next
  (wpAny_call_entry F.slot_zip_next hT F.entry_zip_next (zip_item D hz hTI hTO h1 h2 hl1 hl2 hx hy fun h' a1 a2 a3 a4 a5 a6=>wpAny_pure (hQ h' a1 a2 a3 a4 a5 a6)) (F.args_zip_next_1 _))))
theorem pyNext_zip_end {b1 b2:Bool}{z TI TO i1 i2 l1 l2:Addr}{k:Nat}{xs ys:Array Value}{a b:Value}{Q:Option Value->Shared->Prop}(hh:A.handled=none)(D:ZipApart z TI TO i1 i2 l1 l2)
  (hz:IsZip s.heap z TI TO .none) (hTI:IsPair s.heap TI (.ref i1) (.ref i2)) (hTO:IsPair s.heap TO a b)
  (h1:SqIt b1 s.heap i1 l1 k) (h2:SqIt b2 s.heap i2 l2 k) (hl1:SqOf b1 s.heap l1 xs) (hl2:SqOf b2 s.heap l2 ys) (hend:xs[k]? =none\/ys[k]? =none)
  (hQ:∀h',(∀c o,c≠z->c≠TO->c≠i1->c≠i2->s.heap.get? c=some o->h'.get? c=some o)->Q none {s with heap:=h'}):wpAny (model prog w) A (pyNext (.ref z)) Q E s:=by
 have hT:s.TypeIs (.ref z) "zip":=⟨_,hz,rfl⟩
 refine wpAny_bind (wpAny_attempt (wpAny_callSpecial?_slot (name:=Str.ofString "__next__") hT F.slot_zip_next
  (wpAny_call_entry F.slot_zip_next hT F.entry_zip_next (zip_end hh D hz hTI hTO h1 h2 hl1 hl2 hend fun h' e hk he=> ?_) (F.args_zip_next_1 _))))
 obtain ⟨o,ho,hc⟩:=he
 exact wpAny_bind (wpAny_isInstance (T:="StopIteration") (b:=true) ⟨o,ho,hc⟩ isSubtype_stop (wpAny_pure (hQ _ hk)))
noncomputable def sqObj (b:Bool)(l:Addr):Obj:={cls:=.type (if b then "list_iterator" else "tuple_iterator"),data:=.fields #[.ref l,.int 0 0]}
theorem pyIter_sq {b:Bool}{l:Addr}{xs:Array Value}{Q:Value->Shared->Prop}(hl:SqOf b s.heap l xs)(hQ:Q (.ref s.heap.objs.size) {s with heap:=s.heap.push (sqObj b l)}):wpAny (model prog w) A (pyIter (.ref l)) Q E s:=by
 cases b with
 | true=>exact wpAny_pyIter_list hl hQ
 | false=>exact wpAny_pyIter_tuple hl hQ
theorem sqObj_it {b:Bool}{h:Heap}{l i:Addr}(g:h.get? i=some (sqObj b l)):SqIt b h i l 0:=by
 cases b with
 | true=>exact ⟨_,g,rfl,rfl⟩
 | false=>exact ⟨_,g,rfl,rfl⟩
end
end Mine
namespace Mine
open PySem PySem.Calls PyProof.Rows
noncomputable abbrev zH1 (h:Heap)(b1:Bool)(l1:Addr):Heap:=h.push (sqObj b1 l1)
noncomputable abbrev zH2 (h:Heap)(b1 b2:Bool)(l1 l2:Addr):Heap:=(zH1 h b1 l1).push (sqObj b2 l2)
noncomputable abbrev zH3 (h:Heap)(b1 b2:Bool)(l1 l2:Addr):Heap:=(zH2 h b1 b2 l1 l2).push {cls:=.type "tuple",data:=.seq #[.ref h.objs.size,.ref (zH1 h b1 l1).objs.size]}
noncomputable abbrev zH4 (h:Heap)(b1 b2:Bool)(l1 l2:Addr):Heap:=(zH3 h b1 b2 l1 l2).push {cls:=.type "tuple",data:=.seq #[.none,.none]}
noncomputable abbrev zH5 (h:Heap)(b1 b2:Bool)(l1 l2:Addr):Heap:=(zH4 h b1 b2 l1 l2).push {cls:=.type "zip",data:=.fields #[.none,.bool false,.bool false,.ref (zH2 h b1 b2 l1 l2).objs.size,.ref (zH3 h b1 b2 l1 l2).objs.size]}
theorem SqOf.push {b:Bool}{h:Heap}{l:Addr}{xs:Array Value}(x:SqOf b h l xs)(o:Obj):SqOf b (h.push o) l xs:=x.at fun _ e=>Heap.get?_push_of_some _ e
theorem SqOf.lt {b:Bool}{h:Heap}{l:Addr}{xs:Array Value}(x:SqOf b h l xs):l<h.objs.size:=by
 cases b with
 | true=>obtain ⟨o,g,_⟩:=x;exact Heap.lt_size g
 | false=>obtain ⟨o,g,_⟩:=x;exact Heap.lt_size g
theorem meets_zip (b1 b2:Bool)(l1 l2:Addr)(xs ys:Array Value):
  Meets (Builtin.«zip.__new__» ⟨[.type "zip",.ref l1,.ref l2],[]⟩) (fun _ R s=>SqOf b1 s.heap l1 xs/\SqOf b2 s.heap l2 ys/\
   R (.ok (.ret (.ref (zH4 s.heap b1 b2 l1 l2).objs.size))) {s with heap:=zH5 s.heap b1 b2 l1 l2}):=
 .of_wp fun prog w A R s h=>by
  obtain ⟨hp,g,d,tk,os⟩:=s;obtain ⟨hl1,hl2,h⟩:=h
  have hsub:=sub_zip
  have hL2:SqOf b2 (Shared.heap ⟨hp.push (sqObj b1 l1),g,d,tk,os⟩) l2 ys:=hl2.push _
  wp_walk using pyIter_sq (hl1),pyIter_sq hL2
  exact ⟨_,rfl,h⟩
section
variable {prog:Program} {w:World} {A:Around} {E:Value->Shared->Prop} {s:Shared}
theorem call_zip {b1 b2:Bool}{l1 l2:Addr}{xs ys:Array Value}{Q:Value->Shared->Prop}(hl1:SqOf b1 s.heap l1 xs)(hl2:SqOf b2 s.heap l2 ys)
  (h:∀h',IsZip h' (s.heap.objs.size+4) (s.heap.objs.size+2) (s.heap.objs.size+3) .none->IsPair h' (s.heap.objs.size+2) (.ref s.heap.objs.size) (.ref (s.heap.objs.size+1))->
   IsPair h' (s.heap.objs.size+3) .none .none->SqIt b1 h' s.heap.objs.size l1 0->SqIt b2 h' (s.heap.objs.size+1) l2 0->
   (∀c o,s.heap.get? c=some o->h'.get? c=some o)->Q (.ref (s.heap.objs.size+4)) {s with heap:=h'}):
  wpAny (model prog w) A (call (.type "zip") [.ref l1,.ref l2]) Q E s:=by
 refine callType_new F.called_zip (by decide) (F.typeCall_zip_2 _ _) (F.newCall_zip_2 _ _) (fun obj=>F.args_object_init_3 obj _ _) F.entry_zip_new
  (meets_zip b1 b2 l1 l2 xs ys) ⟨hl1,hl2,?_⟩
 have z1:(zH1 s.heap b1 l1).objs.size=s.heap.objs.size+1:=Heap.size_push ..
 have z2:(zH2 s.heap b1 b2 l1 l2).objs.size=s.heap.objs.size+2:=by rw [Heap.size_push,z1]
 have z3:(zH3 s.heap b1 b2 l1 l2).objs.size=s.heap.objs.size+3:=by rw [Heap.size_push,z2]
 have z4:(zH4 s.heap b1 b2 l1 l2).objs.size=s.heap.objs.size+4:=by rw [Heap.size_push,z3]
 have g5:(zH5 s.heap b1 b2 l1 l2).get? (zH4 s.heap b1 b2 l1 l2).objs.size=some _:=Heap.get?_push_size _ rfl
 have g4:(zH5 s.heap b1 b2 l1 l2).get? (zH3 s.heap b1 b2 l1 l2).objs.size=some _:=Heap.get?_push_of_some _ (Heap.get?_push_size _ rfl)
 have g3:(zH5 s.heap b1 b2 l1 l2).get? (zH2 s.heap b1 b2 l1 l2).objs.size=some _:=Heap.get?_push_of_some _ (Heap.get?_push_of_some _ (Heap.get?_push_size _ rfl))
 have g2:(zH5 s.heap b1 b2 l1 l2).get? (zH1 s.heap b1 l1).objs.size=some (sqObj b2 l2):=Heap.get?_push_of_some _ (Heap.get?_push_of_some _ (Heap.get?_push_of_some _ (Heap.get?_push_size _ rfl)))
 show _/\_
 rw [z2,z3,z4] at g5
 rw [z1,z2] at g3
 rw [z3] at g4
 rw [z1] at g2
 rw [z4]
 exact ⟨⟨_,g5,rfl⟩,h _ g5 g3 g4 (sqObj_it (Heap.get?_push_of_some _ (Heap.get?_push_of_some _ (Heap.get?_push_of_some _ (Heap.get?_push_of_some _ (Heap.get?_push_size _ rfl)))))) (sqObj_it g2) fun c o x=>
  Heap.get?_push_of_some _ (Heap.get?_push_of_some _ (Heap.get?_push_of_some _ (Heap.get?_push_of_some _ (Heap.get?_push_of_some _ x))))⟩
end
inductive SD where
 | lst (ds:List D)
 | tup (ds:List D)
 | ref (a:Addr) (ds:List D)
noncomputable def SD.d:SD->D
 | .lst ds=>.lst ds
 | .tup ds=>.tup ds
 | .ref a _=>.ref a
noncomputable def SD.ds:SD->List D
 | .lst ds=>ds
 | .tup ds=>ds
 | .ref _ ds=>ds
noncomputable def SD.isL:SD->Bool
 | .tup _=>false
 | _=>true
noncomputable def SD.inv:SD->Sto->Prop
 | .ref a ds,σ=>(a,O.lst ds)∈σ
 | _,_=>True
noncomputable def SD.Fz (sd:SD)(K:List Addr)(h:Heap)(l:Addr):Prop:=match sd with
 | .lst ds=>l∉K/\∃vs n,h.get? l=some (lstObj vs n)/\Vs K h ds vs
 | .tup ds=>l∉K/\∃vs n,h.get? l=some (tupObj vs n)/\Vs K h ds vs
 | .ref a _=>l=a
theorem SD.Fz.move {sd:SD}{K K':List Addr}{h h':Heap}{l:Addr}(x:sd.Fz K h l)(sy:Stay K h h')(hl:Less K K' h):sd.Fz K' h' l:=by
 cases sd with
 | lst ds=>obtain ⟨a,vs,n,g,r⟩:=x;exact ⟨hl.nin a g,vs,n,sy _ _ a g,Vs.move sy hl _ _ r⟩
 | tup ds=>obtain ⟨a,vs,n,g,r⟩:=x;exact ⟨hl.nin a g,vs,n,sy _ _ a g,Vs.move sy hl _ _ r⟩
 | ref a ds=>exact x
theorem SD.Fz.get {c:Cx}{A:Around}{fr:List Addr}{σ:Sto}{sd:SD}{h:Heap}{l:Addr}(x:sd.Fz (keys σ++fr) h l)(ok:Ok c A fr σ h)(inv:sd.inv σ):∃vs:List Value,SqOf sd.isL h l vs.toArray/\Vs (keys σ++fr) h sd.ds vs:=by
 cases sd with
 | lst ds=>obtain ⟨a,vs,n,g,r⟩:=x;exact ⟨vs,⟨_,g,rfl,n,rfl⟩,r⟩
 | tup ds=>obtain ⟨a,vs,n,g,r⟩:=x;exact ⟨vs,⟨_,g,rfl,n,rfl⟩,r⟩
 | ref a ds=>
  obtain ⟨vs,n,g,r⟩:=ok.sto _ inv
  obtain rfl:l=a:=x
  exact ⟨vs,⟨_,g,rfl,n,rfl⟩,r⟩
theorem SD.of_v {sd:SD}{K:List Addr}{h:Heap}{v:Value}(x:V K h sd.d v):∃l,v=.ref l/\sd.Fz K h l:=by
 cases sd with
 | lst ds=>simp only [SD.d] at x;obtain ⟨a,vs,n,rfl,hk,g,r⟩:=x;exact ⟨a,rfl,hk,vs,n,g,r⟩
 | tup ds=>simp only [SD.d] at x;obtain ⟨a,vs,n,rfl,hk,g,r⟩:=x;exact ⟨a,rfl,hk,vs,n,g,r⟩
 | ref a ds=>simp only [SD.d] at x;exact ⟨a,x,rfl⟩
section
variable {c:Cx} {A:Around} {fr:List Addr} {σ:Sto} {X:Addr->Sto->Prop} {env:Env} {m:Vars}
theorem store_two {x y:Str}{px py tp:Pos}{k:Nat}{d1 d2:D}{v1 v2:Value}{T:Addr}{s:Shared}{F:List Addr}{Q:Unit->Shared->Prop}{E:Value->Shared->Prop}(hh:A.handled=none)(ok:Ok c A fr σ s.heap)(f:Fm env m fr (keys σ++fr) s.heap)(hT:IsPair s.heap T v1 v2)
  (hV1:V (keys σ++fr) s.heap d1 v1) (hV2:V (keys σ++fr) s.heap d2 v2) (hk1:env.kindOf x=some .local\/env.kindOf x=some .cell) (hk2:env.kindOf y=some .local\/env.kindOf y=some .cell)
  (hF:∀a,a∈tight env x\/a∈tight env y->a∈F)
  (h:∀h' tk,Fm env ((y,d2)::(x,d1)::m) fr (keys σ++fr) h'->Ok c A fr σ h'->Post F fr σ s {s with heap:=h',toks:=tk} σ->Q () {s with heap:=h',toks:=tk}):
  wpAny (model c.prog c.w) A (assign (.Tuple [.Name x px,.Name y py] k tp) env (.ref T)) Q E s:=by
 refine wpAny_assign_Tuple hh (items:= #[v1,v2]) ⟨_,hT,rfl,_,rfl⟩ rfl rfl fun h1 he1=> ?_
 have k1:=fun b o e=>he1 b o (heap_ne e) e
 have p1:Post [] fr σ s {s with heap:=h1,toks:=s.toks} σ:=Post.keeps k1
 refine wpAny_bind (wpAny_holding (wpAny_assign_Name ?_))
 refine store_fine (F:=F) (s:={s with heap:=h1}) (ok.keeps k1) (Fm.move (s:=s) (s':={s with heap:=h1,toks:=s.toks}) f p1) (V.move p1.stay p1.less _ _ hV1) hk1 ⟨fun z=>hF _ (.inl (tight_ok.1 z)),fun z cc e=>hF _ (.inl (tight_ok.2 z cc e))⟩ fun h2 tk2 fm2 ok2 p2=> ?_
 refine wpAny_bind (wpAny_holding (wpAny_assign_Name ?_))
 refine store_fine (F:=F) (s:={s with heap:=h2,toks:=tk2}) ok2 fm2 (V.move p2.stay p2.less _ _ (V.move p1.stay p1.less _ _ hV2)) hk2 ⟨fun z=>hF _ (.inr (tight_ok.1 z)),fun z cc e=>hF _ (.inr (tight_ok.2 z cc e))⟩ fun h3 tk3 fm3 ok3 p3=> ?_
 exact wpAny_pure (h h3 tk3 fm3 ok3 (((p1.wide (by exact List.nil_subset _)).trans p2).trans p3))
theorem pair_nd {h:Heap}{T:Addr}{a b:Value}(x:IsPair h T a b){o:Obj}(g:h.get? T=some o):∀es n,o.data≠.dict es n:=fun es n e=>by replace g:=(x ..).symm.trans g;obtain rfl:=Option.some.inj g;contradiction
theorem zip_nd {h:Heap}{z TI TO:Addr}{f0:Value}(x:IsZip h z TI TO f0){o:Obj}(g:h.get? z=some o):∀es n,o.data≠.dict es n:=fun es n e=>by replace g:=(x ..).symm.trans g;obtain rfl:=Option.some.inj g;contradiction
theorem sqit_nd {b:Bool}{h:Heap}{i l:Addr}{k:Nat}(x:SqIt b h i l k){o:Obj}(g:h.get? i=some o):∀es n,o.data≠.dict es n:=fun es n e=>by
 obtain ⟨o',vs,g',d'⟩:=x.there
 replace g:=(g' ..).symm.trans g;obtain rfl:=Option.some.inj g;replace e:=(d' ..).symm.trans e;contradiction
noncomputable def ZipSt (sd1 sd2:SD)(z TI TO i1 i2 l1 l2:Addr)(f0:Value)(i:Nat)(K:List Addr)(h:Heap):Prop:=
 IsZip h z TI TO f0/\IsPair h TI (.ref i1) (.ref i2)/\(∃a b,IsPair h TO a b)/\SqIt sd1.isL h i1 l1 i/\SqIt sd2.isL h i2 l2 i/\sd1.Fz K h l1/\sd2.Fz K h l2
theorem ZipSt.nd {sd1 sd2:SD}{z TI TO i1 i2 l1 l2:Addr}{f0:Value}{i:Nat}{K:List Addr}{h:Heap}(x:ZipSt sd1 sd2 z TI TO i1 i2 l1 l2 f0 i K h):∀b∈[z,TI,TO,i1,i2],∀o,h.get? b=some o->∀es n,o.data≠.dict es n:=fun b hb o g=>by
 obtain ⟨a1,a2,⟨_,_,a3⟩,a4,a5,_⟩:=x
 simp only [List.mem_cons,List.not_mem_nil,or_false] at hb
 rcases hb with rfl| rfl| rfl| rfl| rfl
 ·exact zip_nd a1 g
 ·exact pair_nd a2 g
 ·exact pair_nd a3 g
 ·exact sqit_nd a4 g
 ·exact sqit_nd a5 g
theorem ZipSt.live {sd1 sd2:SD}{z TI TO i1 i2 l1 l2:Addr}{f0:Value}{i:Nat}{K:List Addr}{h:Heap}(x:ZipSt sd1 sd2 z TI TO i1 i2 l1 l2 f0 i K h):∀b∈[z,TI,TO,i1,i2],∃o,h.get? b=some o:=fun b hb=>by
 obtain ⟨a1,a2,⟨_,_,a3⟩,a4,a5,_⟩:=x
 simp only [List.mem_cons,List.not_mem_nil,or_false] at hb
 rcases hb with rfl| rfl| rfl| rfl| rfl
 ·exact ⟨_,a1⟩
 ·exact ⟨_,a2⟩
 ·exact ⟨_,a3⟩
 ·obtain ⟨o,_,e,_⟩:=a4.there;exact ⟨o,e⟩
 ·obtain ⟨o,_,e,_⟩:=a5.there;exact ⟨o,e⟩
theorem ZipSt.move {sd1 sd2:SD}{z TI TO i1 i2 l1 l2:Addr}{f0:Value}{i:Nat}{K K':List Addr}{h h':Heap}(x:ZipSt sd1 sd2 z TI TO i1 i2 l1 l2 f0 i K h)(sy:Stay K h h')(hw:∀b∈[z,TI,TO,i1,i2],∀o,h.get? b=some o->h'.get? b=some o)(hl:Less K K' h):ZipSt sd1 sd2 z TI TO i1 i2 l1 l2 f0 i K' h':=by
 obtain ⟨a1,a2,⟨p,q,a3⟩,a4,a5,a6,a7⟩:=x
 exact ⟨hw z (by exact .head _) _ a1,hw TI (by simp) _ a2,⟨p,q,hw TO (by simp) _ a3⟩,a4.at fun o e=>hw i1 (by simp) o e,a5.at fun o e=>hw i2 (by simp) o e,a6.move sy hl,a7.move sy hl⟩
theorem Src.zip {x y:Str}{px py tp:Pos}{kt:Nat}{sd1 sd2:SD}{z TI TO i1 i2 l1 l2:Addr}(hh:A.handled=none)(D:ZipApart z TI TO i1 i2 l1 l2):
  Src c A (.Tuple [.Name x px,.Name y py] kt tp) z [z,TI,TO,i1,i2] ((sd1.ds.zip sd2.ds).map fun p=>[(y,p.2),(x,p.1)]) (fun σ'=>sd1.inv σ'/\sd2.inv σ') (ZipSt sd1 sd2 z TI TO i1 i2 l1 l2 .none)
   (fun i K h v=>∃T v1 v2 d1 d2,v=.ref T/\T∉[z,TI,TO,i1,i2]/\ZipSt sd1 sd2 z TI TO i1 i2 l1 l2 (rawInt T) (i+1) K h/\IsPair h T v1 v2/\sd1.ds[i]? =some d1/\sd2.ds[i]? =some d2/\V K h d1 v1/\V K h d2 v2) where
 nodict:=fun i K h st=>st.nd
 midnd:=fun i K h v st=>by obtain ⟨T,v1,v2,d1,d2,_,_,st,_⟩:=st;exact st.nd
 move:=fun i K K' h h' st sy hw hl=>st.move sy hw hl
 next:=fun i σ fr s Q E hi ok st inv hQ=>by
  obtain ⟨a1,a2,⟨p,q,a3⟩,a4,a5,a6,a7⟩:=id st
  obtain ⟨vs1,sq1,hv1⟩:=a6.get ok inv.1
  obtain ⟨vs2,sq2,hv2⟩:=a7.get ok inv.2
  simp only [List.length_map,List.length_zip] at hi
  have hi1:i<vs1.length:=by rw [hv1.length];exact z113 hi
  have hi2:i<vs2.length:=by rw [hv2.length];exact z112 hi
  refine pyNext_zip_item D a1 a2 a3 a4 a5 sq1 sq2 (x:=vs1[i]) (y:=vs2[i]) (by simp) (by simp) fun h' b1 b2 b3 b4 b5 hk=> ?_
  obtain ⟨d1,e1,w1⟩:=hv1.get (i:=i) (v:=vs1[i]) (by simp)
  obtain ⟨d2,e2,w2⟩:=hv2.get (i:=i) (v:=vs2[i]) (by simp)
  have sy:Stay (keys σ++([z,TI,TO,i1,i2]++fr)) s.heap h':=fun b o nb e=>hk b o (fun q=>nb (by rw [q];simp)) (fun q=>nb (by rw [q];simp)) (fun q=>nb (by rw [q];simp)) (fun q=>nb (by rw [q];simp)) e
  have ls:Less (keys σ++([z,TI,TO,i1,i2]++fr)) (keys σ++([z,TI,TO,i1,i2]++fr)) s.heap:=fun a ha=>.inl ha
  have hTI':IsPair h' TI (.ref i1) (.ref i2):=hk _ _ D.TIz D.TITO D.TIi1 D.TIi2 a2
  have st':ZipSt sd1 sd2 z TI TO i1 i2 l1 l2 (rawInt s.heap.objs.size) (i+1) (keys σ++([z,TI,TO,i1,i2]++fr)) h':=⟨b1,hTI',⟨_,_,b2⟩,b3,b4,a6.move sy ls,a7.move sy ls⟩
  refine hQ _ h' s.toks ⟨s.heap.objs.size,_,_,d1,d2,rfl,fun hm=> ?_,st',b5,e1,e2,V.move sy ls _ _ w1,V.move sy ls _ _ w2⟩ ⟨fun b o nb e=>hk b o (fun q=>nb (by rw [q];simp)) (fun q=>nb (by rw [q];simp)) (fun q=>nb (by rw [q];simp)) (fun q=>nb (by rw [q];simp)) e,st'.live⟩
  obtain ⟨o,g⟩:=st.live _ hm
  exact heap_ne g rfl
 put:=fun i σ fr F env m v s Q E yy hy mid ok fm hi hkind hF hnd hQ=>by
  obtain ⟨T,v1,v2,d1,d2,rfl,hT,st,hp,e1,e2,w1,w2⟩:=mid
  have hy':yy=[(y,d2),(x,d1)]:=by
   rw [List.getElem?_map,(List.getElem?_zip_eq_some (z:=(d1,d2))).mpr ⟨e1,e2⟩] at hy
   exact (Option.some.inj hy).symm
  subst hy'
  obtain ⟨a1,a2,⟨p,q,a3⟩,a4,a5,a6,a7⟩:=id st
  refine wpAny_letOwnedTupleGo_zip a1 fun h1 z1 sb1=> ?_
  have k1:∀b o,b≠z->s.heap.get? b=some o->h1.get? b=some o:=fun b o nb e=>(sb1.2 b nb).trans e
  have ow:Ow [z,TI,TO,i1,i2] s.heap h1:=⟨fun b o nb e=>k1 b o (fun q=>nb (by rw [q];simp)) e,fun b hb=>by
   by_cases q:b=z
   ·rw [q];exact ⟨_,z1⟩
   ·obtain ⟨o,g⟩:=st.live b hb;exact ⟨o,k1 b o q g⟩⟩
  have ok1:Ok c A ([z,TI,TO,i1,i2]++fr) σ h1:=ok.ow hnd ow
  have ndw:=ok.nd
  rw [List.nodup_append,List.nodup_append] at ndw
  have nfw:∀a∈fr,a∉[z,TI,TO,i1,i2]:=fun a ha hw=>ndw.2.1.2.2 a hw a ha rfl
  have fm1:=fm.ow (fun b hb=>List.mem_append_right _ (List.mem_append_left _ hb)) ⟨nfw _ hi.1,fun q hq=>nfw _ (hi.2 q hq)⟩ ow
  have sy1:Stay (keys σ++([z,TI,TO,i1,i2]++fr)) s.heap h1:=fun b o nb e=>k1 b o (fun q=>nb (by rw [q];simp)) e
  have ls:Less (keys σ++([z,TI,TO,i1,i2]++fr)) (keys σ++([z,TI,TO,i1,i2]++fr)) s.heap:=fun a ha=>.inl ha
  have hTz:T≠z:=fun q=>hT (by rw [q];simp)
  have st1:ZipSt sd1 sd2 z TI TO i1 i2 l1 l2 .none (i+1) (keys σ++([z,TI,TO,i1,i2]++fr)) h1:=
   ⟨z1,k1 _ _ D.TIz a2,⟨p,q,k1 _ _ D.TOz a3⟩,a4.at fun o e=>k1 _ o D.i1z e,a5.at fun o e=>k1 _ o D.i2z e,a6.move sy1 ls,a7.move sy1 ls⟩
  have tin:∀a,a∈tight env x\/a∈tight env y->a∈F:=fun a ha=>by
   rcases ha with ha| ha
   ·rcases tight_mem ha with z| ⟨kk,e⟩
    ·rw [z];exact hF.1
    ·exact hF.2 (x,d1) (by simp) kk _ e
   ·rcases tight_mem ha with z| ⟨kk,e⟩
    ·rw [z];exact hF.1
    ·exact hF.2 (y,d2) (by simp) kk _ e
  have tfr:∀a,a∈tight env x\/a∈tight env y->a∈fr:=fun a ha=>by
   rcases ha with ha| ha
   ·rcases tight_mem ha with z| ⟨kk,e⟩
    ·rw [z];exact hi.1
    ·exact hi.2 _ (mem_of_lookup e)
   ·rcases tight_mem ha with z| ⟨kk,e⟩
    ·rw [z];exact hi.1
    ·exact hi.2 _ (mem_of_lookup e)
  refine store_two (F:=tight env x++tight env y) (s:={s with heap:=h1}) hh ok1 fm1 (k1 _ _ hTz hp) (V.move sy1 ls _ _ w1) (V.move sy1 ls _ _ w2) (hkind (x,d1) (by simp)) (hkind (y,d2) (by simp)) (fun a ha=>by simpa [List.mem_append] using ha) fun h2 tk2 fm2 ok2 p2=> ?_
  have kw:∀b∈[z,TI,TO,i1,i2],∀o,h1.get? b=some o->h2.get? b=some o:=fun b hb o g=>by
   obtain ⟨sl,e1,r1⟩:=p2.slots b o (List.mem_append_left _ hb) (fun q=>nfw b (tfr b (by simpa [List.mem_append] using q)) hb) g
   have:=r1 (st1.nd b hb o g)
   subst this;exact e1
  refine hQ h2 tk2 (st1.move p2.stay kw p2.less) fm2 ok2 ?_
  have pa:Post ([z,TI,TO,i1,i2]++F) ([z,TI,TO,i1,i2]++fr) σ s {s with heap:=h1,toks:=s.toks} σ:=Post.ow ow
  exact pa.trans (p2.wide fun a ha=>List.mem_append_right _ (tin a (by simpa [List.mem_append] using ha)))
 done:=fun σ fr s Q E ok st inv hQ=>by
  obtain ⟨a1,a2,⟨p,q,a3⟩,a4,a5,a6,a7⟩:=id st
  obtain ⟨vs1,sq1,hv1⟩:=a6.get ok inv.1
  obtain ⟨vs2,sq2,hv2⟩:=a7.get ok inv.2
  have hend:vs1.toArray[((sd1.ds.zip sd2.ds).map fun p=>[(y,p.2),(x,p.1)]).length]? =none\/vs2.toArray[((sd1.ds.zip sd2.ds).map fun p=>[(y,p.2),(x,p.1)]).length]? =none:=by
   simp only [List.length_map,List.length_zip,List.getElem?_toArray,List.getElem?_eq_none_iff,hv1.length,hv2.length]
   exact z603
  exact pyNext_zip_end hh D a1 a2 a3 a4 a5 sq1 sq2 hend fun h' hk=>hQ h' s.toks fun b o nb e=>hk b o (fun q=>nb (by rw [q];simp)) (fun q=>nb (by rw [q];simp)) (fun q=>nb (by rw [q];simp)) (fun q=>nb (by rw [q];simp)) e
 self:=fun i K s Q E st hQ=>wpAny_pyIter_zip st.1 hQ
theorem WIt.zip (g:c.Good)(hh:A.handled=none){f:Str}{fp pos px py tp:Pos}{k:Nat}{e1 e2:Expr}{x y:Str}{Q:List Vars->(Sto->Prop)->Sto->Prop}(hk:env.kindOf f=some .globalImplicit)(hg:c.mg f=none)(hb:c.mb f=some (.type "zip"))
  (h:WE c A fr env m σ e1 (fun d1 σ1=>WE c A fr env m σ1 e2 (fun d2 σ2=>∃sd1 sd2:SD,d1=sd1.d/\d2=sd2.d/\sd1.inv σ2/\sd2.inv σ2/\Q ((sd1.ds.zip sd2.ds).map fun p=>[(y,p.2),(x,p.1)]) (fun σ'=>sd1.inv σ'/\sd2.inv σ') σ2) X) X) (hp:plainArgs [e1,e2]=true:=by rfl) (hdb:(f==("__debug__":Str))=false:=by decide):
  WIt c A fr env m σ (.Call (.Name f fp) [e1,e2] [] pos) (.Tuple [.Name x px,.Name y py] k tp) Q X:=by
 refine WIt.callT g hk hg hb (WA.cons (h.mono (fun d1 σ1 q=>WA.cons (q.mono (fun d2 σ2 q=>WA.nil ?_) fun _ _ y=>y) (starEach_cons (env:=env) hp).2) fun _ _ y=>y) hp) hp hdb
 intro s vals E ok fm hv
 obtain ⟨sd1,sd2,rfl,rfl,inv1,inv2,q⟩:=q
 obtain ⟨v1,r,rfl,hv1,hr⟩:=hv
 obtain ⟨v2,r,rfl,hv2,hr⟩:=hr
 subst hr
 obtain ⟨l1,rfl,z1⟩:=SD.of_v hv1
 obtain ⟨l2,rfl,z2⟩:=SD.of_v hv2
 obtain ⟨vs1,sq1,_⟩:=z1.get ok inv1
 obtain ⟨vs2,sq2,_⟩:=z2.get ok inv2
 refine call_zip sq1 sq2 fun h' hz hTI hTO hi1 hi2 hkp=> ?_
 refine wpAny_pyIter_zip hz ?_
 have D:=zipApart_new sq1.lt sq2.lt
 have fresh:∀a∈[s.heap.objs.size+4,s.heap.objs.size+2,s.heap.objs.size+3,s.heap.objs.size,s.heap.objs.size+1],s.heap.get? a=none:=fun a ha=>by
  simp only [List.mem_cons,List.not_mem_nil,or_false] at ha
  refine none_of_ge ?_
  rcases ha with rfl| rfl| rfl| rfl| rfl
  ·exact Nat.le_add_right ..
  ·exact Nat.le_add_right ..
  ·exact Nat.le_add_right ..
  ·exact Nat.le_refl _
  ·exact Nat.le_add_right ..
 have ls:=less_add (σ:=σ2) (fr:=fr) fresh
 have st:ZipSt sd1 sd2 (s.heap.objs.size+4) (s.heap.objs.size+2) (s.heap.objs.size+3) s.heap.objs.size (s.heap.objs.size+1) l1 l2 .none 0 (keys σ2++([s.heap.objs.size+4,s.heap.objs.size+2,s.heap.objs.size+3,s.heap.objs.size,s.heap.objs.size+1]++fr)) h':=
  ⟨hz,hTI,⟨_,_,hTO⟩,hi1,hi2,z1.move (fun b o _ e=>hkp b o e) ls,z2.move (fun b o _ e=>hkp b o e) ls⟩
 refine ⟨_,_,_,_,_,_,rfl,⟨h',s.toks,rfl⟩,hkp,fresh,st.live,?_,Src.zip hh D,st,⟨inv1,inv2⟩,q⟩
 simp only [List.nodup_cons,List.mem_cons,List.not_mem_nil,or_false,not_or,List.nodup_nil,and_true,not_false_eq_true]
 exact ⟨⟨D.TIz.symm,D.TOz.symm,D.i1z.symm,D.i2z.symm⟩,⟨D.TITO,D.TIi1,D.TIi2⟩,⟨D.TOi1,D.TOi2⟩,D.i12⟩
end
end Mine
namespace Mine
open PySem PySem.Calls PyProof.Rows
theorem V.ofInt {K:List Addr}{h:Heap}{i:Int}{t:Tok}:V K h (.int i) (.int i t):=by unfold V;exact ⟨t,rfl⟩
theorem V.ofBool {K:List Addr}{h:Heap}{b:Bool}:V K h (.bool b) (.bool b):=by unfold V;rfl
theorem V.toInt {K:List Addr}{h:Heap}{i:Int}{v:Value}(x:V K h (.int i) v):∃t,v=.int i t:=by unfold V at x;exact x
theorem V.toBool {K:List Addr}{h:Heap}{b:Bool}{v:Value}(x:V K h (.bool b) v):v=.bool b:=by unfold V at x;exact x
theorem V.toStr {K:List Addr}{h:Heap}{x:Str}{v:Value}(y:V K h (.str x) v):∃t,v=.str x t:=by unfold V at y;exact y
theorem V.toNone {K:List Addr}{h:Heap}{v:Value}(y:V K h .none v):v=.none:=by unfold V at y;exact y
section
variable {c:Cx} {A:Around} {fr:List Addr} {σ:Sto} {X:Addr->Sto->Prop} {env:Env} {m:Vars} {Q:D->Sto->Prop} {a b:Int}
theorem WB.add (h:Q (.int (a+b)) σ):WB c A fr σ (binaryOp .Add) (.int a) (.int b) Q X:=fun v1 v2 s ok x1 x2=>by
 obtain ⟨t,rfl⟩:=x1.toInt;obtain ⟨u,rfl⟩:=x2.toInt
 exact add_int ⟨_,σ,Post.tok ..,ok,V.ofInt,h⟩
theorem WB.sub (h:Q (.int (a-b)) σ):WB c A fr σ (binaryOp .Sub) (.int a) (.int b) Q X:=fun v1 v2 s ok x1 x2=>by
 obtain ⟨t,rfl⟩:=x1.toInt;obtain ⟨u,rfl⟩:=x2.toInt
 exact sub_int ⟨_,σ,Post.tok ..,ok,V.ofInt,h⟩
theorem WB.mul (hm:IntMulOk a b)(h:Q (.int (a*b)) σ):WB c A fr σ (binaryOp .Mult) (.int a) (.int b) Q X:=fun v1 v2 s ok x1 x2=>by
 obtain ⟨t,rfl⟩:=x1.toInt;obtain ⟨u,rfl⟩:=x2.toInt
 exact PyProof.Rows.mul_int ⟨_,σ,Post.tok ..,ok,V.ofInt,h⟩ hm
theorem log2_small {n:Nat}(h0:n≠0)(h:n<2^64):n.log2<9000:=by
 have:n.log2<64:=(Nat.log2_lt h0).mpr h
 exact z604 this
theorem WB.fdiv (hb:b≠0)(hs:b.natAbs<2^64)(h:Q (.int (a.fdiv b)) σ):WB c A fr σ (binaryOp .FloorDiv) (.int a) (.int b) Q X:=fun v1 v2 s ok x1 x2=>by
 obtain ⟨t,rfl⟩:=x1.toInt;obtain ⟨u,rfl⟩:=x2.toInt
 exact floordiv_int hb ⟨_,σ,Post.tok ..,ok,V.ofInt,h⟩ (.inl (PyProof.noPylong_of_log2 (log2_small (z605 hb) hs)))
theorem WB.mod (hb:b≠0)(hs:b.natAbs<2^64)(h:Q (.int (a.fmod b)) σ):WB c A fr σ (binaryOp .Mod) (.int a) (.int b) Q X:=fun v1 v2 s ok x1 x2=>by
 obtain ⟨t,rfl⟩:=x1.toInt;obtain ⟨u,rfl⟩:=x2.toInt
 exact PyProof.Rows.mod_int hb ⟨_,σ,Post.tok ..,ok,V.ofInt,h⟩
theorem WB.lt (h:Q (.bool (decide (a<b))) σ):WB c A fr σ (compareOp .Lt) (.int a) (.int b) Q X:=fun v1 v2 s ok x1 x2=>by
 obtain ⟨t,rfl⟩:=x1.toInt;obtain ⟨u,rfl⟩:=x2.toInt
 exact PyProof.Rows.lt_int ⟨_,σ,Post.refl ..,ok,V.ofBool,h⟩
theorem WB.le (h:Q (.bool (decide (a<=b))) σ):WB c A fr σ (compareOp .LtE) (.int a) (.int b) Q X:=fun v1 v2 s ok x1 x2=>by
 obtain ⟨t,rfl⟩:=x1.toInt;obtain ⟨u,rfl⟩:=x2.toInt
 exact PyProof.Rows.le_int ⟨_,σ,Post.refl ..,ok,V.ofBool,h⟩
theorem WB.gt (h:Q (.bool (decide (b<a))) σ):WB c A fr σ (compareOp .Gt) (.int a) (.int b) Q X:=fun v1 v2 s ok x1 x2=>by
 obtain ⟨t,rfl⟩:=x1.toInt;obtain ⟨u,rfl⟩:=x2.toInt
 exact PyProof.Rows.gt_int ⟨_,σ,Post.refl ..,ok,V.ofBool,h⟩
theorem WB.ge (h:Q (.bool (decide (b<=a))) σ):WB c A fr σ (compareOp .GtE) (.int a) (.int b) Q X:=fun v1 v2 s ok x1 x2=>by
 obtain ⟨t,rfl⟩:=x1.toInt;obtain ⟨u,rfl⟩:=x2.toInt
 exact PyProof.Rows.ge_int ⟨_,σ,Post.refl ..,ok,V.ofBool,h⟩
theorem WB.eqI (h:Q (.bool (a==b)) σ):WB c A fr σ (compareOp .Eq) (.int a) (.int b) Q X:=fun v1 v2 s ok x1 x2=>by
 obtain ⟨t,rfl⟩:=x1.toInt;obtain ⟨u,rfl⟩:=x2.toInt
 exact PyProof.Rows.eq_int ⟨_,σ,Post.refl ..,ok,V.ofBool,h⟩
theorem WB.neI (h:Q (.bool (a !=b)) σ):WB c A fr σ (compareOp .NotEq) (.int a) (.int b) Q X:=fun v1 v2 s ok x1 x2=>by
 obtain ⟨t,rfl⟩:=x1.toInt;obtain ⟨u,rfl⟩:=x2.toInt
 exact PyProof.Rows.ne_int ⟨_,σ,Post.refl ..,ok,V.ofBool,h⟩
theorem WU.neg (h:Q (.int (-a)) σ):WU c A fr σ (unaryOp .USub) (.int a) Q X:=fun v1 s ok x1=>by
 obtain ⟨t,rfl⟩:=x1.toInt
 exact PyProof.Rows.neg_int ⟨_,σ,Post.tok ..,ok,V.ofInt,h⟩
theorem WE.nType (g:c.Good){f:Str}{fp:Pos}{T:String}(hk:env.kindOf f=some .globalImplicit)(hg:c.mg f=Option.none)(hb:c.mb f=some (.type T))(h:Q (.typ T) σ)(hdb:(f==("__debug__":Str))=false:=by decide):WE c A fr env m σ (.Name f fp) Q X:=fun s ok fm=>
 Name_function_global fm.kind hk (loadGlobal_builtin (by rw [fm.glob];exact g.g.keeps ok.base) hg (by rw [fm.bui];exact g.b.keeps ok.base) hb ⟨_,σ,Post.refl ..,ok,by rfl,h⟩) hdb
theorem WE.nInt (g:c.Good){f:Str}{fp:Pos}{i:Int}{t:Tok}(hk:env.kindOf f=some .globalImplicit)(hg:c.mg f=some (.int i t))(h:Q (.int i) σ)(hdb:(f==("__debug__":Str))=false:=by decide):WE c A fr env m σ (.Name f fp) Q X:=fun s ok fm=>
 Name_function_global fm.kind hk (loadGlobal_global (by exact fm.glob▸g.g.keeps ok.base) hg ⟨_,σ,Post.refl ..,ok,V.ofInt,h⟩) hdb
end
noncomputable def tyOf (σ:Sto):D->Option String
 | .none=>some "NoneType"
 | .bool _=>some "bool"
 | .int _=>some "int"
 | .str _=>some "str"
 | .tup _=>some "tuple"
 | .lst _=>some "list"
 | .ref a=>match σ.lookup a with| some (.lst _)=>some "list"| _=>none
 | _=>none
noncomputable def isT (σ:Sto)(T:String)(d:D):Option Bool:=(tyOf σ d).map fun t=>t==T|| (t=="bool"&&T=="int")
theorem mem_of_lookup' {a:Addr}{o:O}:∀{σ:Sto},σ.lookup a=some o->(a,o)∈σ
 | [],h=>by contradiction
 | (b,o')::r,h=>by
  dsimp only [List.lookup_cons] at h
  by_cases q:(a==b)=true
  ·simp only [q] at h;obtain rfl:=Option.some.inj h;exact (beq_iff_eq.mp q)▸List.mem_cons_self
  ·simp only [q] at h;exact List.mem_cons_of_mem _ (mem_of_lookup' h)
theorem V.typeIs {c:Cx}{A:Around}{fr:List Addr}{σ:Sto}{s:Shared}{d:D}{v:Value}{t:String}(ok:Ok c A fr σ s.heap)(x:V (keys σ++fr) s.heap d v)(e:tyOf σ d=some t):s.TypeIs v t:=by
 cases d with
 | none=>obtain rfl:=Option.some.inj e;rw [x.toNone];rfl
 | bool b=>injection e with e;subst e;rw [x.toBool];rfl
 | int i=>injection e with e;subst e;obtain ⟨t,rfl⟩:=x.toInt;rfl
 | str y=>injection e with e;subst e;obtain ⟨t,rfl⟩:=x.toStr;rfl
 | tup ds=>cases e;obtain ⟨a,vs,n,rfl,_,g,_⟩:=x;exact ⟨_,g,rfl⟩
 | lst ds=>cases e;obtain ⟨a,vs,n,rfl,_,g,_⟩:=x;exact ⟨_,g,rfl⟩
 | ref a=>
  subst x
  dsimp only [tyOf] at e
  split at e
  ·rename_i ds hl
   obtain rfl:=Option.some.inj e
   obtain ⟨vs,n,g,_⟩:=ok.sto _ (mem_of_lookup' hl)
   exact ⟨_,g,rfl⟩
  ·contradiction
 | _=>contradiction
noncomputable def isiTypes:List String:=["int","bool","list","tuple","str"]
noncomputable def isiFrom:List String:=["NoneType","bool","int","str","tuple","list"]
theorem isi_meta {T:String}(h:T∈isiTypes):typeOf (.type T)=pure (.type "type"):=by
 simp only [isiTypes,List.mem_cons,List.not_mem_nil,or_false] at h
 rcases h with rfl| rfl| rfl| rfl| rfl<;>kernel_rfl
theorem isi_sub {t T:String}(ht:t∈isiFrom)(hT:T∈isiTypes):isSubtype (.type t) (.type T)=pure (t==T|| (t=="bool"&&T=="int")):=by
 simp only [isiTypes,isiFrom,List.mem_cons,List.not_mem_nil,or_false] at ht hT
 rcases ht with rfl| rfl| rfl| rfl| rfl| rfl<;>rcases hT with rfl| rfl| rfl| rfl| rfl<;>(kernel_rfl)
theorem tyOf_mem {σ:Sto}{d:D}{t:String}(h:tyOf σ d=some t):t∈isiFrom:=by
 cases d<;>dsimp only [tyOf] at h
 all_goals first| (contradiction;done)| (obtain rfl:=Option.some.inj h;decide)| (split at h;(obtain rfl:=Option.some.inj h;decide);contradiction)
section
variable {c:Cx} {A:Around} {fr:List Addr} {σ:Sto} {X:Addr->Sto->Prop} {env:Env} {m:Vars} {Q:D->Sto->Prop}
theorem call_isi {d:D}{T:String}{b:Bool}{s:Shared}{v:Value}(hT:T∈isiTypes)(hb:isT σ T d=some b)(ok:Ok c A fr σ s.heap)(hv:V (keys σ++fr) s.heap d v)(h:Q (.bool b) σ):W c A none fr σ (call (.builtin "isinstance") [v,.type T]) V Q X s:=by
 unfold isT at hb
 cases ht:tyOf σ d with
 | none=>rw [ht] at hb;contradiction
 | some t=>
  rw [ht] at hb
  have hb':(t==T|| (t=="bool"&&T=="int"))=b:=Option.some.inj hb
  have hty:=hv.typeIs ok ht
  have hm:=isi_meta hT
  have hsub:=isi_sub (tyOf_mem ht) hT
  rw [hb'] at hsub
  cases b with
  | true=>exact call_isinstance (isinstance_true hm hsub) ⟨hty,⟨_,σ,Post.refl ..,ok,V.ofBool,h⟩⟩
  | false=>
   have hne:(Value.type t==Value.type T)=false:=by
    rw [Bool.or_eq_false_iff] at hb'
    have:=hb'.1
    simp only [beq_eq_false_iff_ne,ne_eq] at this⊢
    intro z;exact this (by injection z)
   have hq:Po c A none fr σ s V Q (.bool false) {s with toks:=s.toks+1}:=⟨_,σ,Post.tok ..,ok,V.ofBool,h⟩
   cases d with
   | none=>obtain rfl:=Option.some.inj ht;exact hv.toNone▸call_isinstance (isinstance_false_none hne hm hsub) hq
   | bool b=>injection ht with ht;subst ht;exact hv.toBool▸call_isinstance (isinstance_false_bool hne hm hsub) hq
   | int i=>injection ht with ht;subst ht;obtain ⟨t,rfl⟩:=hv.toInt;exact call_isinstance (isinstance_false_int hne hm hsub) hq
   | str y=>injection ht with ht;subst ht;obtain ⟨t,rfl⟩:=hv.toStr;exact call_isinstance (isinstance_false_str hne hm hsub) hq
   | tup ds=>cases ht;obtain ⟨a,vs,n,rfl,_,g,_⟩:=hv;exact call_isinstance (isinstance_false_tuple hne hm hsub) ⟨⟨_,g,rfl⟩,hq⟩
   | lst ds=>cases ht;obtain ⟨a,vs,n,rfl,_,g,_⟩:=hv;exact call_isinstance (isinstance_false_list hne hm hsub) ⟨⟨_,g,rfl⟩,hq⟩
   | ref a=>
    subst hv
    obtain ⟨o,g,hc⟩:=hty
    dsimp only [tyOf] at ht
    split at ht
    ·obtain rfl:=Option.some.inj ht;exact call_isinstance (isinstance_false_list hne hm hsub) ⟨⟨_,g,hc⟩,hq⟩
    ·contradiction
   | _=>contradiction
end
end Mine
namespace Mine
open PySem PySem.Calls PyProof.Rows
section
variable {c:Cx} {A:Around} {fr:List Addr} {σ:Sto} {X:Addr->Sto->Prop} {env:Env} {m:Vars} {Q:D->Sto->Prop}
theorem sd_walk {sd:SD}{v:Value}{s:Shared}{B:Around}(hh:B.handled=none)(ok:Ok c A fr σ s.heap)(hv:V (keys σ++fr) s.heap sd.d v)(inv:sd.inv σ){Qi:Value->Shared->Prop}{E:Value->Shared->Prop}
  (h:∀(l I:Addr) (vs:List Value) (St:Nat->Heap->Prop) (h':Heap),v=.ref l->Walks c.prog c.w B I [I,l] [I] vs.length (fun i v=>vs[i]? =some v) St->St 0 h'->(∀b∈[I,l],b<h'.objs.size)->(∀b o,s.heap.get? b=some o->h'.get? b=some o)->s.heap.get? I=none->Vs (keys σ++fr) s.heap sd.ds vs->Qi (.ref I) {s with heap:=h'}):
  wpAny (model c.prog c.w) B (pyIter v) Qi E s:=by
 obtain ⟨l,rfl,z⟩:=SD.of_v hv
 obtain ⟨vs,sq,hvs⟩:=z.get ok inv
 refine pyIter_sq sq ?_
 have hlt:=sq.lt
 have hne:=Nat.ne_of_lt hlt
 have hb:∀b∈[s.heap.objs.size,l],b<(s.heap.push (sqObj sd.isL l)).objs.size:=fun b hb=>by
  rw [Heap.size_push]
  simp only [List.mem_cons,List.not_mem_nil,or_false] at hb
  rcases hb with rfl| rfl
  ·exact Nat.lt_succ_self _
  ·exact Nat.lt_succ_of_lt hlt
 have hk:∀b o,s.heap.get? b=some o->(s.heap.push (sqObj sd.isL l)).get? b=some o:=fun b o e=>Heap.get?_push_of_some _ e
 have hI:s.heap.get? s.heap.objs.size=none:=none_of_ge (Nat.le_refl _)
 have hit:SqIt sd.isL (s.heap.push (sqObj sd.isL l)) s.heap.objs.size l 0:=sqObj_it (Heap.get?_push_size _ rfl)
 have hsq:SqOf sd.isL (s.heap.push (sqObj sd.isL l)) l vs.toArray:=sq.push _
 cases hL:sd.isL with
 | true=>
  rw [hL] at hit hsq hb hk
  have W:=Walks.list (prog:=c.prog) (w:=c.w) hh s.heap.objs.size l hne vs.toArray
  simp only [List.size_toArray,List.getElem?_toArray] at W
  exact h l _ vs _ _ rfl W ⟨hit,hsq⟩ hb hk hI hvs
 | false=>
  rw [hL] at hit hsq hb hk
  have W:=Walks.tuple (prog:=c.prog) (w:=c.w) hh s.heap.objs.size l hne vs.toArray
  simp only [List.size_toArray,List.getElem?_toArray] at W
  exact h l _ vs _ _ rfl W ⟨hit,hsq⟩ hb hk hI hvs
theorem walk_end {s:Shared}{h1 h':Heap}{I:Addr}{tk:Nat}{v:Value}{d:D}(ok:Ok c A fr σ s.heap)(k1:∀b o,s.heap.get? b=some o->h1.get? b=some o)(hI:s.heap.get? I=none)(k2:∀b o,b∉[I]->h1.get? b=some o->h'.get? b=some o)
  (hv:V (keys σ++fr) h' d v) (h:Q d σ):Po c A none fr σ s V Q v {s with heap:=h',toks:=tk}:=by
 have k:=fun b o e=>k2 b o (fun z=>by simp only [List.mem_singleton.mp z,hI] at e;contradiction) (k1 b o e)
 exact ⟨d,σ,Post.keeps k,ok.keeps k,hv,h⟩
theorem ints_get {K:List Addr}{h:Heap}{is:List Int}{vs:List Value}(hv:Vs K h (is.map D.int) vs){i:Nat}{v:Value}(e:vs[i]? =some v):∃t,v=.int (is[i]?.getD 0) t:=by
 obtain ⟨d,hd,hV⟩:=hv.get e
 replace hd:=(List.getElem?_map ..).symm.trans hd
 cases hi:is[i]? with
 | none=>rw [hi] at hd;contradiction
 | some n=>rw [hi] at hd;obtain rfl:=Option.some.inj hd;exact hV.toInt
theorem bools_get {K:List Addr}{h:Heap}{bs:List Bool}{vs:List Value}(hv:Vs K h (bs.map D.bool) vs){i:Nat}{v:Value}(e:vs[i]? =some v):v=.bool (bs[i]?.getD false):=by
 obtain ⟨d,hd,hV⟩:=hv.get e
 replace hd:=(List.getElem?_map ..).symm.trans hd
 cases hi:bs[i]? with
 | none=>rw [hi] at hd;contradiction
 | some n=>rw [hi] at hd;obtain rfl:=Option.some.inj hd;exact hV.toBool
theorem range_all (bs:List Bool):(List.range bs.length).all (fun i=>bs[i]?.getD false)=bs.all id:=by
 rw [Bool.eq_iff_iff,List.all_eq_true,List.all_eq_true]
 constructor
 ·intro h b hb
  obtain ⟨i,hi,e⟩:=List.mem_iff_getElem.mp hb
  have:=h i (List.mem_range.mpr hi)
  simp only [List.getElem?_eq_getElem hi,e] at this
  exact this
 ·intro h i hi
  have hi:=List.mem_range.mp hi
  simp only [List.getElem?_eq_getElem hi,Option.getD_some]
  exact h _ (List.getElem_mem hi)
theorem range_any (bs:List Bool):(List.range bs.length).any (fun i=>bs[i]?.getD false)=bs.any id:=by
 rw [Bool.eq_iff_iff,List.any_eq_true,List.any_eq_true]
 constructor
 ·rintro ⟨i,hi,h⟩
  have hi:=List.mem_range.mp hi
  rw [List.getElem?_eq_getElem hi] at h
  exact ⟨_,List.getElem_mem hi,h⟩
 ·rintro ⟨b,hb,h⟩
  obtain ⟨i,hi,e⟩:=List.mem_iff_getElem.mp hb
  refine ⟨i,List.mem_range.mpr hi,?_⟩
  rw [List.getElem?_eq_getElem hi,e]
  exact h
theorem call_all {sd:SD}{bs:List Bool}{s:Shared}{v:Value}(hh:A.handled=none)(hd:sd.ds=bs.map D.bool)(inv:sd.inv σ)(ok:Ok c A fr σ s.heap)(hv:V (keys σ++fr) s.heap sd.d v)(h:Q (.bool (bs.all id)) σ):W c A none fr σ (call (.builtin "all") [v]) V Q X s:=by
 refine call_all_walk (sd_walk (B:=A.in1) hh ok hv inv fun l I vs St h1 e W st hb k1 hI hvs=> ?_)
 simp only [hd] at hvs
 refine ⟨I,_,_,_,_,_,fun i=>bs[i]?.getD false,rfl,W,st,fun i v s Q E hp hq=> ?_,fun h' tk hk=> ?_⟩
 ·exact (bools_get hvs hp)▸wpAny_truthy_bool hq
 ·refine walk_end ok k1 hI hk V.ofBool ?_
  rw [(by rw [hvs.length];simp:vs.length=bs.length),range_all];exact h
theorem call_any {sd:SD}{bs:List Bool}{s:Shared}{v:Value}(hh:A.handled=none)(hd:sd.ds=bs.map D.bool)(inv:sd.inv σ)(ok:Ok c A fr σ s.heap)(hv:V (keys σ++fr) s.heap sd.d v)(h:Q (.bool (bs.any id)) σ):W c A none fr σ (call (.builtin "any") [v]) V Q X s:=by
 refine call_any_walk (sd_walk (B:=A.in1) hh ok hv inv fun l I vs St h1 e W st hb k1 hI hvs=> ?_)
 simp only [hd] at hvs
 refine ⟨I,_,_,_,_,_,fun i=>bs[i]?.getD false,rfl,W,st,fun i v s Q E hp hq=> ?_,fun h' tk hk=> ?_⟩
 ·exact (bools_get hvs hp)▸wpAny_truthy_bool hq
 ·refine walk_end ok k1 hI hk V.ofBool ?_
  rw [(by rw [hvs.length];simp:vs.length=bs.length),range_any];exact h
end
end Mine
namespace Mine
open PySem PySem.Calls PyProof.Rows
theorem preSum_get (is:List Int):∀n,n<=is.length->preSum (fun i=>is[i]?.getD 0) n=(is.take n).sum
 | 0,_=>by simp [preSum]
 | n+1,h=>by
  have hn:n<is.length:=h
  simp only [preSum,preSum_get is n (Nat.le_of_lt hn),List.take_succ_eq_append_getElem hn,List.sum_append]
  simp [List.getElem?_eq_getElem hn]
noncomputable def minL:List Int->Int
 | []=>0
 | a::r=>r.foldl min a
theorem argBest_min (a:Int)(r:List Int):∀n,n<(a::r).length->((a::r)[argBest (fun i j=>decide ((a::r)[i]?.getD 0<(a::r)[j]?.getD 0)) n]?.getD 0)=minL ((a::r).take (n+1))/\argBest (fun i j=>decide ((a::r)[i]?.getD 0<(a::r)[j]?.getD 0)) n<=n
 | 0,_=>by simp [argBest,minL]
 | n+1,h=>by
  obtain ⟨ih,ih2⟩:=argBest_min a r n (z606 h)
  have e2:minL ((a::r).take (n+2))=min (minL ((a::r).take (n+1))) ((a::r)[n+1]):=by
   rw [(List.take_succ_eq_append_getElem h)]
   simp only [List.take_succ_cons,minL,List.cons_append,List.foldl_append,List.foldl_cons,List.foldl_nil]
  simp only [e2,argBest]
  by_cases q:decide ((a::r)[n+1]?.getD 0<(a::r)[argBest (fun i j=>decide ((a::r)[i]?.getD 0<(a::r)[j]?.getD 0)) n]?.getD 0)=true
  ·rw [if_pos q]
   refine ⟨?_,Nat.le_refl _⟩
   have q':=of_decide_eq_true q
   rw [ih] at q'
   simp only [List.getElem?_eq_getElem h,Option.getD_some] at q'⊢
   exact z607 q'
  ·rw [if_neg q]
   refine ⟨?_,Nat.le_succ_of_le ih2⟩
   have q':¬_:=fun z=>q (decide_eq_true z)
   rw [ih] at q'
   simp only [ih]
   simp only [List.getElem?_eq_getElem h,Option.getD_some] at q'
   exact z608 q'
section
variable {c:Cx} {A:Around} {fr:List Addr} {σ:Sto} {X:Addr->Sto->Prop} {env:Env} {m:Vars} {Q:D->Sto->Prop}
theorem call_sum {sd:SD}{is:List Int}{s:Shared}{v:Value}(hh:A.handled=none)(hd:sd.ds=is.map D.int)(inv:sd.inv σ)(ok:Ok c A fr σ s.heap)(hv:V (keys σ++fr) s.heap sd.d v)(h:Q (.int is.sum) σ):W c A none fr σ (call (.builtin "sum") [v]) V Q X s:=by
 refine call_sum_walkAnyS (sd_walk (B:=A.in1) hh ok hv inv fun l I vs St h1 e W st hb k1 hI hvs=> ?_)
 simp only [hd] at hvs
 refine ⟨I,_,_,_,_,_,_,fun i=>is[i]?.getD 0,rfl,W.toS,st,hb,fun i v hp=>ints_get hvs hp,fun s' t' mv=> ?_⟩
 obtain ⟨h2,g2,d2,tk2,os2⟩:=s'
 obtain ⟨a1,a2,a3,a4,a5⟩:=mv
 simp only at a1 a2 a3 a4 a5
 subst a2 a3 a4
 exact (walk_end (Q:=Q) (tk:=tk2) (d:=.int is.sum) (v:=.int (preSum (fun i=>is[i]?.getD 0) vs.length) t') ok k1 hI a1 (by simp only [(by rw [hvs.length];simp:vs.length=is.length),preSum_get is _ (Nat.le_refl _),List.take_length];exact V.ofInt) h)
theorem call_min {sd:SD}{is:List Int}{s:Shared}{v:Value}(hh:A.handled=none)(hd:sd.ds=is.map D.int)(hne:is≠[])(inv:sd.inv σ)(ok:Ok c A fr σ s.heap)(hv:V (keys σ++fr) s.heap sd.d v)(h:Q (.int (minL is)) σ):W c A none fr σ (call (.builtin "min") [v]) V Q X s:=by
 refine call_min_walk (sd_walk (B:=A.in1) hh ok hv inv fun l I vs St h1 e W st hb k1 hI hvs=> ?_)
 simp only [hd] at hvs
 have hl:vs.length=is.length:=by rw [hvs.length];simp
 cases is with
 | nil=>exact absurd rfl hne
 | cons a r=>
  refine ⟨I,_,_,_,_,_,fun i j=>decide ((a::r)[i]?.getD 0<(a::r)[j]?.getD 0),rfl,W,st,hb,by rw [hl];simp,fun i j vi vj s Q E h1 h2 hq=> ?_,fun v h' tk hp hk=> ?_⟩
  ·obtain ⟨t,rfl⟩:=ints_get hvs h1;obtain ⟨u,rfl⟩:=ints_get hvs h2
   exact PyProof.Rows.lt_int hq
  ·obtain ⟨t,rfl⟩:=ints_get hvs hp
   refine walk_end ok k1 hI hk V.ofInt ?_
   rw [(by rw [hl];rfl:vs.length-1=r.length),((argBest_min a r r.length (by simp)).1)]
   rw [(by simp:(a::r).take (r.length+1)=a::r)];exact h
theorem call_len {sd:SD}{s:Shared}{v:Value}(inv:sd.inv σ)(ok:Ok c A fr σ s.heap)(hv:V (keys σ++fr) s.heap sd.d v)(hfit:sd.ds.length<2^62)(h:Q (.int sd.ds.length) σ):W c A none fr σ (call (.builtin "len") [v]) V Q X s:=by
 obtain ⟨l,rfl,z⟩:=SD.of_v hv
 obtain ⟨vs,sq,hvs⟩:=z.get ok inv
 have hl:=hvs.length
 have hq:Po c A none fr σ s V Q (.int vs.toArray.size (s.toks+1)) {s with toks:=s.toks+1+1}:=⟨.int sd.ds.length,σ,Post.tok ..,ok,by simp only [List.size_toArray,hl];exact V.ofInt,h⟩
 have hfit':(vs.toArray.size:Int)<2^63:=by rw [List.size_toArray,hl];exact z611 hfit
 cases hL:sd.isL with
 | true=>rw [hL] at sq;exact Calls.call_len_list sq hfit' hq
 | false=>rw [hL] at sq;exact PyProof.Rows.len_tuple sq hfit' hq
noncomputable def idx (k:Int)(n:Nat):Nat:=if k<0 then (k+n).toNat else k.toNat
noncomputable def WSb (c:Cx)(A:Around)(fr:List Addr)(σ:Sto)(value slice:Expr)(d1 d2:D)(Q:D->Sto->Prop)(X:Addr->Sto->Prop):Prop:=
 ∀v1 v2 s,Ok c A fr σ s.heap->V (keys σ++fr) s.heap d1 v1->V (keys σ++fr) s.heap d2 v2->W c A none fr σ (subscriptTail value slice v1 v2) V Q X s
theorem WE.sub {value slice:Expr}{pos:Pos}(h:WE c A fr env m σ value (fun d1 σ1=>WE c A fr env m σ1 slice (fun d2 σ2=>WSb c A fr σ2 value slice d1 d2 Q X) X) X):WE c A fr env m σ (.Subscript value slice pos) Q X:=fun s ok fm=>by
 refine Subscript_ (wpAny_mono (h s ok fm) (fun v1 s1 hz=> ?_) fun _ _ x=>x)
 obtain ⟨d1,σ1,p1,ok1,x1,q1⟩:=hz
 refine wpAny_mono (q1 s1 ok1 (fm.move p1)) (fun v2 s2 hz=> ?_) fun _ _ x=>Ex.back p1 x fun _ _ y=>y
 obtain ⟨d2,σ2,p2,ok2,x2,q2⟩:=hz
 exact wpAny_mono (q2 v1 v2 s2 ok2 (p2.v x1) x2) (fun _ _ z=>z.back (p1.trans p2)) fun _ _ x=>Ex.back (p1.trans p2) x fun _ _ y=>y
theorem WSb.item {value slice:Expr}{sd:SD}{k:Int}{d:D}(inv:sd.inv σ)(h0: -(2^63)<=k)(h1:k<2^63)(hk: -(sd.ds.length:Int)<=k)(hi:sd.ds[idx k sd.ds.length]? =some d)(h:Q d σ)
  (hs:∀l u,subscripted slice false (.ref l) (.int k u)=operate [.ref l,.int k u] (getItem (.ref l) (.int k u)):=by intro _ _;with_unfolding_all rfl):WSb c A fr σ value slice sd.d (.int k) Q X:=fun v1 v2 s ok x1 x2=>by
 obtain ⟨l,rfl,z⟩:=SD.of_v x1
 obtain ⟨u,rfl⟩:=x2.toInt
 obtain ⟨vs,sq,hvs⟩:=z.get ok inv
 have hl:=hvs.length
 obtain ⟨v,e,hV⟩:=hvs.got hi
 have hq:Po c A none fr σ s V Q v s:=⟨d,σ,Post.refl ..,ok,hV,h⟩
 unfold idx at e
 cases hL:sd.isL with
 | true=>
  rw [hL] at sq
  refine tail_any sq.typeIs slot_list_getitem.lookup ?_ (hs l u)
  by_cases hneg:k<0
  ·rw [if_pos hneg] at e
   exact wpAny_getItem_list_neg sq hneg (by rw [List.size_toArray,hl];exact hk) h0 (by rw [List.size_toArray,hl];simpa using e) hq
  ·rw [if_neg hneg] at e
   exact wpAny_getItem_list sq (z21 hneg) h1 (by simpa using e) hq
 | false=>
  rw [hL] at sq
  have hj:seqIndex? k vs.length=some (if k<0 then (k+sd.ds.length).toNat else k.toNat):=by
   rw [hl]
   by_cases hneg:k<0
   ·rw [if_pos hneg];exact seqIndex_neg hneg hk
   ·rw [if_neg hneg]
    have hlt:k.toNat<sd.ds.length:=by
     unfold idx at hi;rw [if_neg hneg] at hi
     exact (List.getElem?_eq_some_iff.mp hi).1
    have hc:(0<=k/\k<(sd.ds.length:Int)):=⟨z21 hneg,z612 hlt⟩
    simp [seqIndex?,hneg,hc.1,hc.2]
  exact item_tupleT (l:=vs) sq h0 h1 hj e hq (hs l u)
theorem WE.list {elts:List Expr}{pos:Pos}(h:WA c A fr env m σ elts (fun ds σ1=>ds.length<=sizeLine/\QL Q ds σ1) X):WE c A fr env m σ (.List elts pos) Q X:=fun s ok fm=>by
 refine wpAny_List_spliced (wpAny_mono (h pos s ok fm) (fun vs s1 ⟨ds,σ1,p1,ok1,x1,hl,q1⟩=>⟨by rw [x1.length];exact hl,?_⟩) fun _ _ x=>x)
 have hn:∀a∈[s1.heap.objs.size],s1.heap.get? a=none:=fun a ha=>by rw [List.mem_singleton.mp ha];exact none_of_ge (Nat.le_refl _)
 have k1:∀b o,s1.heap.get? b=some o->(s1.heap.push {cls:=.type "list",data:=.seq vs.toArray}).get? b=some o:=fun b o e=>Heap.get?_push_of_some _ e
 have g:(s1.heap.push {cls:=.type "list",data:=.seq vs.toArray}).get? s1.heap.objs.size=some (lstObj vs 0):=Heap.get?_push_size _ rfl
 have oka:Ok c A ([s1.heap.objs.size]++fr) σ1 (s1.heap.push {cls:=.type "list",data:=.seq vs.toArray}):=ok1.more k1 hn (fun a ha=>by exact (List.mem_singleton.mp ha)▸⟨_,g⟩) (by simp)
 have pf:Post [] fr σ s {s1 with heap:=s1.heap.push {cls:=.type "list",data:=.seq vs.toArray},toks:=s1.toks} σ1:=p1.trans (Post.keeps k1)
 exact QL.use (G:=none) (s':={s1 with heap:=s1.heap.push {cls:=.type "list",data:=.seq vs.toArray},toks:=s1.toks}) q1 pf oka ok1.frames_in g (Vs.move (K:=keys σ1++fr) (fun b o _ e=>k1 b o e) (less_add hn) _ _ x1) (none_back p1 (hn _ (by exact .head _)))
theorem WE.tuple {elts:List Expr}{k:Nat}{pos:Pos}(h:WA c A fr env m σ elts (fun ds σ1=>ds.length<=sizeLine/\Q (.tup ds) σ1) X):WE c A fr env m σ (.Tuple elts k pos) Q X:=fun s ok fm=>by
 refine wpAny_Tuple_spliced (wpAny_mono (h pos s ok fm) (fun vs s1 ⟨ds,σ1,p1,ok1,x1,hl,q1⟩=>⟨by rw [x1.length];exact hl,?_⟩) fun _ _ x=>x)
 have k1:∀b o,s1.heap.get? b=some o->(s1.heap.push {cls:=.type "tuple",data:=.seq vs.toArray}).get? b=some o:=fun b o e=>Heap.get?_push_of_some _ e
 refine ⟨.tup ds,σ1,p1.trans (Post.keeps (tk:=s1.toks) k1),ok1.keeps k1,?_,q1⟩
 refine ⟨_,vs,0,rfl,fun z=> ?_,Heap.get?_push_size _ rfl,Vs.move (K:=keys σ1++fr) (fun b o _ e=>k1 b o e) (fun a ha=>.inl ha) _ _ x1⟩
 exact Nat.lt_irrefl _ (ok1.lt z)
theorem call_tuple {sd:SD}{s:Shared}{v:Value}(inv:sd.inv σ)(ok:Ok c A fr σ s.heap)(hv:V (keys σ++fr) s.heap sd.d v)(hsz:sd.ds.length<=sizeLine)(h:Q (.tup sd.ds) σ):W c A none fr σ (call (.type "tuple") [v]) V Q X s:=by
 obtain ⟨l,rfl,z⟩:=SD.of_v hv
 cases hL:sd.isL with
 | true=>
  obtain ⟨vs,sq,hvs⟩:=z.get ok inv
  rw [hL] at sq
  refine call_tuple_list sq (fun h' hk=> ?_) (by simpa [hvs.length] using hsz)
  have k1:∀b o,s.heap.get? b=some o->(h'.push {cls:=.type "tuple",data:=.seq vs.toArray}).get? b=some o:=fun b o e=>Heap.get?_push_of_some _ (hk b o e)
  refine ⟨.tup sd.ds,σ,Post.keeps (tk:=s.toks) k1,ok.keeps k1,?_,h⟩
  refine ⟨_,vs,0,rfl,fun z=> ?_,Heap.get?_push_size _ rfl,Vs.move (K:=keys σ++fr) (fun b o _ e=>k1 b o e) (fun a ha=>.inl ha) _ _ hvs⟩
  obtain ⟨o,e⟩:=ok.there z
  exact Nat.lt_irrefl _ (Heap.lt_size (hk _ _ e))
 | false=>
  cases sd with
  | tup ds=>
   simp only [SD.d] at hv
   have hv':=hv
   obtain ⟨a,vs,n,e,hk,g,r⟩:=hv'
   injection e with e;subst e
   exact call_tuple_same ⟨_,g,rfl,n,rfl⟩ ⟨_,σ,Post.refl ..,ok,hv,h⟩
  | lst ds=>contradiction
  | ref a ds=>contradiction
theorem call_list {sd:SD}{s:Shared}{v:Value}(inv:sd.inv σ)(ok:Ok c A fr σ s.heap)(hv:V (keys σ++fr) s.heap sd.d v)(hsz:sd.ds.length<=sizeLine)(h:QL Q sd.ds σ):W c A none fr σ (call (.type "list") [v]) V Q X s:=by
 obtain ⟨l,rfl,z⟩:=SD.of_v hv
 obtain ⟨vs,sq,hvs⟩:=z.get ok inv
 have hn:∀a∈[s.heap.objs.size],s.heap.get? a=none:=fun a ha=>by exact (congrArg _ (List.mem_singleton.mp ha ..)).trans (none_of_ge (Nat.le_refl _))
 have fin:∀h' c',(∀b o',s.heap.get? b=some o'->h'.get? b=some o')->h'.get? s.heap.objs.size=some {cls:=.type "list",dict:=none,data:=.seq vs.toArray c',slots:= #[]}->
   Po c A none fr σ s V Q (.ref s.heap.objs.size) {s with heap:=h'}:=fun h' c' k1 g=>by
  exact QL.use (G:=none) (s':={s with heap:=h',toks:=s.toks}) h (Post.keeps k1) (ok.more k1 hn (fun a ha=>by exact (List.mem_singleton.mp ha)▸⟨_,g⟩) (by simp):Ok c A ([s.heap.objs.size]++fr) σ h') ok.frames_in g (Vs.move (K:=keys σ++fr) (fun b o _ e=>k1 b o e) (less_add hn) _ _ hvs) (hn _ (by exact .head _))
 have hsz':vs.toArray.size<=sizeLine:=by simpa [hvs.length] using hsz
 cases hL:sd.isL with
 | true=>rw [hL] at sq;obtain ⟨o,g,hc,n,hd⟩:=sq;exact call_list_seq l (.inl rfl) g hc hd fin hsz'
 | false=>rw [hL] at sq;obtain ⟨o,g,hc,n,hd⟩:=sq;exact call_list_seq l (.inr rfl) g hc hd fin hsz'
end
end Mine
namespace Mine
open PySem PySem.Calls PyProof.Rows
theorem Room.mono {n k:Nat}{A:Around}(r:Room n A)(h:k<=n):Room k A:=by
 obtain ⟨j,rfl⟩:=Nat.exists_eq_add_of_le h
 exact r.less
theorem kindOf_of {env:Env}{sc:Scope}{x:Str}{k:NameKind}(h:env.scope=sc)(e:sc.names.lookup x=some k):env.kindOf x=some k:=by
 unfold Env.kindOf;exact h▸e
noncomputable def recOf:Stmt->Option PySem.DefRec
 | .FunctionDef name params body _ _ _ scope _ _ pos=>some ⟨name,params,body,scope,pos⟩
 | _=>none
structure Tp (c:Cx)(B:List Stmt)(bs:List (Str × Value)):Prop where
 good:c.Good
 nolimit:c.h0.NoLimit
 fn:∀d∈B.filterMap recOf,∃a o pm code doc,c.mg d.name=some (.ref a)/\c.h0.get? a=some o/\o.data=.func (docDef d.name d.params d.body d.scope pm code doc)/\c.h0.CodeRec code d.name
 bn:∀x v,bs.lookup x=some v->c.mg x=none/\c.mb x=some v
noncomputable def WF (c:Cx)(P:Around->Prop)(f:Str)(ds:List D)(σ:Sto)(Q:D->Sto->Prop)(X:Addr->Sto->Prop):Prop:=
 ∀a,c.mg f=some (.ref a)->WC c P (.ref a) ds σ Q X
noncomputable def Dfn (c:Cx)(f:Str):Prop:=∃a o fd,c.mg f=some (.ref a)/\c.h0.get? a=some o/\o.data=.func fd
noncomputable def fnOk (scope:Scope)(ps:List Str):Bool:=
 decide ps.Nodup&&ps.all (fun x=>scope.names.lookup x==some .local|| scope.names.lookup x==some .cell)&&decide ((cellsFrom 0 scope.names []).map (·.1)).Nodup&&
  scope.names.all (fun y=>y.2 !=.free)&&scope.kind==.function&& !scope.isCoroutine&& !scope.isGenerator
theorem lookup_mem' {x:Str}{k:NameKind}:∀{l:List (Str × NameKind)},l.lookup x=some k->∃y,(y,k)∈l
 | [],h=>by contradiction
 | (y,j)::r,h=>by
  simp only [List.lookup_cons] at h
  split at h
  ·injection h with h;subst h;exact ⟨y,.head _⟩
  ·obtain ⟨z,hz⟩:=lookup_mem' h;exact ⟨z,.tail _ hz⟩
section
variable {c:Cx} {A:Around} {fr:List Addr} {σ:Sto} {X:Addr->Sto->Prop} {Q:D->Sto->Prop} {env:Env} {m:Vars} {B:List Stmt} {bs:List (Str × Value)}
theorem WF.of {d:PySem.DefRec}{ps:List Str}{n:Nat}{f:Str}{ds:List D}(T:Tp c B bs)(hd:d∈B.filterMap recOf)(hf:d.name=f)
  (hb:∀pm code doc vals,vals.length=ps.length->bindArgs (docDef d.name d.params d.body d.scope pm code doc) ⟨vals,[]⟩=pure (ps.zip vals)) (hok:fnOk d.scope ps=true) (hl:ds.length=ps.length)
  (h:∀A fr env,Room n A->env.scope=d.scope->Fe A env d.scope->WS c A (Fa env++fr) env (ps.zip ds) σ d.body (fun _ σ'=>Q .none σ') Q X):WF c (Room (n+1)) f ds σ Q X:=fun a ha=>by
 subst hf
 obtain ⟨a',o,pm,code,doc,h1,h2,h3,h4⟩:=T.fn d hd
 obtain rfl:a'=a:=by rw [h1] at ha;injection ha with ha;injection ha
 simp only [fnOk,Bool.and_eq_true,decide_eq_true_eq,List.all_eq_true,Bool.or_eq_true,beq_iff_eq,bne_iff_ne,Bool.not_eq_true'] at hok
 obtain ⟨⟨⟨⟨⟨⟨k1,k2⟩,k3⟩,k4⟩,k5⟩,k6⟩,k7⟩:=hok
 refine WC.of (P':=Room n) (ps:=ps) (body:=d.body) (scope:=d.scope) ⟨⟨o,_,h2,h3,rfl,rfl,rfl,rfl,rfl,h4,hb pm code doc⟩,T.nolimit,k1,k2,k3,fun x e=> ?_,k5,k6,k7⟩ (fun A env r=>⟨?_,r.deeper⟩) hl fun A fr env r fe=>h A fr env r fe.scope fe
 ·obtain ⟨y,hy⟩:=lookup_mem' e
  exact k4 _ hy rfl
 ·exact z870 (r.1.1) (rfl)
theorem rec_mem {B:List Stmt}{i:Nat}{d:PySem.DefRec}(h:(B[i]?).bind recOf=some d):d∈B.filterMap recOf:=by
 obtain ⟨st,h1,h2⟩:=Option.bind_eq_some_iff.mp h
 exact List.mem_filterMap.mpr ⟨st,List.mem_of_getElem? h1,h2⟩
theorem bind1 {name x:Str}{params:Arguments}{body:List Stmt}{scope:Scope}(h:∀pm code doc a,bindArgs (docDef name params body scope pm code doc) ⟨[a],[]⟩=pure ([x].zip [a])):∀pm code doc vals,vals.length=[x].length->bindArgs (docDef name params body scope pm code doc) ⟨vals,[]⟩=pure ([x].zip vals):=fun pm code doc vals e=>by
 obtain ⟨a,rfl⟩:=List.length_eq_one_iff.mp e
 exact h pm code doc a
theorem bind2 {name x y:Str}{params:Arguments}{body:List Stmt}{scope:Scope}(h:∀pm code doc a b,bindArgs (docDef name params body scope pm code doc) ⟨[a,b],[]⟩=pure ([x,y].zip [a,b])):∀pm code doc vals,vals.length=[x,y].length->bindArgs (docDef name params body scope pm code doc) ⟨vals,[]⟩=pure ([x,y].zip vals):=fun pm code doc vals e=>by
 obtain ⟨a,b,rfl⟩:=len2 e
 exact h pm code doc a b
theorem bind3 {name x y z:Str}{params:Arguments}{body:List Stmt}{scope:Scope}(h:∀pm code doc a b e,bindArgs (docDef name params body scope pm code doc) ⟨[a,b,e],[]⟩=pure ([x,y,z].zip [a,b,e])):∀pm code doc vals,vals.length=[x,y,z].length->bindArgs (docDef name params body scope pm code doc) ⟨vals,[]⟩=pure ([x,y,z].zip vals):=fun pm code doc vals e=>by
 obtain ⟨a,b,w,rfl⟩:=len3 e
 exact h pm code doc a b w
theorem bind4 {name x y z u:Str}{params:Arguments}{body:List Stmt}{scope:Scope}(h:∀pm code doc a b e d,bindArgs (docDef name params body scope pm code doc) ⟨[a,b,e,d],[]⟩=pure ([x,y,z,u].zip [a,b,e,d])):∀pm code doc vals,vals.length=[x,y,z,u].length->bindArgs (docDef name params body scope pm code doc) ⟨vals,[]⟩=pure ([x,y,z,u].zip vals):=fun pm code doc vals e=>by
 obtain ⟨a,b,w,d,rfl⟩:=len4 e
 exact h pm code doc a b w d
theorem Dfn.of {d:PySem.DefRec}{f:Str}(T:Tp c B bs)(hd:d∈B.filterMap recOf)(hf:d.name=f):Dfn c f:=by
 subst hf
 obtain ⟨a,o,pm,code,doc,h1,h2,h3,h4⟩:=T.fn d hd
 exact ⟨a,o,_,h1,h2,h3⟩
theorem WF.at {k n:Nat}{f:Str}{ds:List D}(h:WF c (Room k) f ds σ Q X)(hk:k<=n):WF c (Room n) f ds σ Q X:=fun a ha A fr s vals hA ok hv=>h a ha A fr s vals (hA.mono hk) ok hv
theorem WE.callN (T:Tp c B bs){f:Str}{fp pos:Pos}{args:List Expr}{n:Nat}(r:Room n A)(hk:env.kindOf f=some .globalImplicit)(hf:Dfn c f)
  (h:WA c A fr env m σ args (fun ds σ1=>WF c (Room n) f ds σ1 Q X) X) (hp:plainArgs args=true:=by rfl) (hdb:(f==("__debug__":Str))=false:=by decide):WE c A fr env m σ (.Call (.Name f fp) args [] pos) Q X:=by
 obtain ⟨a,o,fd,h1,h2,h3⟩:=hf
 exact WE.callF T.good (P:=Room n) r hk h1 h2 h3 (fun p s ok fm=>(h p s ok fm).mono (fun ds σ1 w=>w a h1) fun _ _ x=>x) hp hdb
noncomputable def At1 (c:Cx)(A:Around)(fr:List Addr)(σ:Sto)(f:Value)(ds:List D)(Q:D->Sto->Prop)(X:Addr->Sto->Prop):Prop:=
 ∀s vals,Ok c A fr σ s.heap->Vs (keys σ++fr) s.heap ds vals->W c A none fr σ (call f vals) V Q X s
theorem WE.callI (T:Tp c B bs){f:Str}{fp pos:Pos}{args:List Expr}{id:String}(hk:env.kindOf f=some .globalImplicit)(hb:bs.lookup f=some (.builtin id))
  (h:WA c A fr env m σ args (fun ds σ1=>At1 c A fr σ1 (.builtin id) ds Q X) X) (hp:plainArgs args=true:=by rfl) (hdb:(f==("__debug__":Str))=false:=by decide):WE c A fr env m σ (.Call (.Name f fp) args [] pos) Q X:=
 WE.callB T.good hk (T.bn _ _ hb).1 (T.bn _ _ hb).2 h hp hdb
theorem WE.callY (T:Tp c B bs){f:Str}{fp pos:Pos}{args:List Expr}{id:String}(hk:env.kindOf f=some .globalImplicit)(hb:bs.lookup f=some (.type id))
  (h:WA c A fr env m σ args (fun ds σ1=>At1 c A fr σ1 (.type id) ds Q X) X) (hp:plainArgs args=true:=by rfl) (hdb:(f==("__debug__":Str))=false:=by decide):WE c A fr env m σ (.Call (.Name f fp) args [] pos) Q X:=
 WE.callT T.good hk (T.bn _ _ hb).1 (T.bn _ _ hb).2 h hp hdb
theorem At1.one {f:Value}{d:D}(h:∀s v,Ok c A fr σ s.heap->V (keys σ++fr) s.heap d v->W c A none fr σ (call f [v]) V Q X s):At1 c A fr σ f [d] Q X:=fun s vals ok hv=>by
 obtain ⟨v,vs,rfl,h1,h2⟩:=hv
 subst h2
 exact h s v ok h1
theorem At1.two {f:Value}{d e:D}(h:∀s v u,Ok c A fr σ s.heap->V (keys σ++fr) s.heap d v->V (keys σ++fr) s.heap e u->W c A none fr σ (call f [v,u]) V Q X s):At1 c A fr σ f [d,e] Q X:=fun s vals ok hv=>by
 obtain ⟨v,vs,rfl,h1,h2⟩:=hv
 obtain ⟨u,us,rfl,h3,h4⟩:=h2
 subst h4
 exact h s v u ok h1 h3
theorem At1.all {sd:SD}{l:List Bool}(hh:A.handled=none)(hd:sd.ds=l.map D.bool)(inv:sd.inv σ)(h:Q (.bool (l.all id)) σ):At1 c A fr σ (.builtin "all") [sd.d] Q X:=.one fun s v ok hv=>call_all hh hd inv ok hv h
theorem At1.any {sd:SD}{l:List Bool}(hh:A.handled=none)(hd:sd.ds=l.map D.bool)(inv:sd.inv σ)(h:Q (.bool (l.any id)) σ):At1 c A fr σ (.builtin "any") [sd.d] Q X:=.one fun s v ok hv=>call_any hh hd inv ok hv h
theorem At1.sum {sd:SD}{l:List Int}(hh:A.handled=none)(hd:sd.ds=l.map D.int)(inv:sd.inv σ)(h:Q (.int l.sum) σ):At1 c A fr σ (.builtin "sum") [sd.d] Q X:=.one fun s v ok hv=>call_sum hh hd inv ok hv h
theorem At1.min {sd:SD}{l:List Int}(hh:A.handled=none)(hd:sd.ds=l.map D.int)(hne:l≠[])(inv:sd.inv σ)(h:Q (.int (minL l)) σ):At1 c A fr σ (.builtin "min") [sd.d] Q X:=.one fun s v ok hv=>call_min hh hd hne inv ok hv h
theorem At1.len {sd:SD}(inv:sd.inv σ)(hfit:sd.ds.length<2^62)(h:Q (.int sd.ds.length) σ):At1 c A fr σ (.builtin "len") [sd.d] Q X:=.one fun s v ok hv=>call_len inv ok hv hfit h
theorem At1.tuple {sd:SD}(inv:sd.inv σ)(hsz:sd.ds.length<=sizeLine)(h:Q (.tup sd.ds) σ):At1 c A fr σ (.type "tuple") [sd.d] Q X:=.one fun s v ok hv=>call_tuple inv ok hv hsz h
theorem At1.list {sd:SD}(inv:sd.inv σ)(hsz:sd.ds.length<=sizeLine)(h:QL Q sd.ds σ):At1 c A fr σ (.type "list") [sd.d] Q X:=.one fun s v ok hv=>call_list inv ok hv hsz h
theorem At1.isi {d:D}{T:String}{b:Bool}(hT:T∈isiTypes)(hb:isT σ T d=some b)(h:Q (.bool b) σ):At1 c A fr σ (.builtin "isinstance") [d,.typ T] Q X:=.two fun s v u ok hv hu=>by
 subst hu
 exact call_isi hT hb ok hv h
end
end Mine
namespace Mine
open PySem PySem.Calls PyProof.Rows
section
variable {c:Cx} {A:Around} {fr:List Addr} {σ:Sto} {X:Addr->Sto->Prop} {Q:D->Sto->Prop} {env:Env} {m:Vars} {B:List Stmt} {bs:List (Str × Value)}
theorem filterMap_take_succ {α β:Type}{F:α->Option β}{l:List α}{k:Nat}{x:α}(h:l[k]? =some x):(l.take (k+1)).filterMap F=(l.take k).filterMap F++(F x).toList:=by
 obtain ⟨hk,rfl⟩:=List.getElem?_eq_some_iff.mp h
 simp only [List.take_succ_eq_append_getElem hk,List.filterMap_append]
 cases hF:F l[k]<;>simp [hF]
theorem Turns.of {α:Type}{l:List α}{g:α->Vars}{Inv:Sto->Prop}{scope:Scope}{ifs:List Expr}{elt:Expr}{Z:List D->Sto->Prop}(F:α->Option D)(hloc:∀x∈l,∀y∈g x,scope.names.lookup y.1=some .local)(hinv:Inv σ)(hsz:l.length<=sizeLine)
  (step:∀x∈l,∀fr' cenv,cenv.scope=relab scope env.scope->WIfs c A fr' cenv (g x++capt scope m) σ ifs (fun b σ2=>if b=true then WE c A fr' cenv (g x++capt scope m) σ2 elt (fun d σ3=>σ3=σ/\F x=some d) NoX else σ2=σ/\F x=none) NoX)
  (h:Z (l.filterMap F) σ):Turns c A env m scope ifs elt Z (l.map g) Inv σ:=by
 refine ⟨fun x hx y hy=> ?_,fun k ds σ'=>σ'=σ/\ds=(l.take k).filterMap F,⟨rfl,by rfl⟩,fun k ds σ' hL=> ?_,fun k x ds σ' hk hL fr' cenv hc=> ?_,fun ds σ' hL=> ?_⟩
 ·obtain ⟨z,hz,rfl⟩:=List.mem_map.mp hx
  exact hloc z hz y hy
 ·obtain ⟨rfl,rfl⟩:=hL
  refine ⟨hinv,Nat.le_trans (List.length_filterMap_le _ _) (Nat.le_trans ?_ hsz)⟩
  rw [List.length_take];exact Nat.min_le_right _ _
 ·obtain ⟨rfl,rfl⟩:=hL
  rw [List.getElem?_map] at hk
  obtain ⟨z,hz,rfl⟩:=Option.map_eq_some_iff.mp hk
  refine fun s ok fm=>((step z (List.mem_of_getElem? hz) fr' cenv hc) s ok fm).mono (fun b σ2 hb=> ?_) fun _ _ x=>x
  cases b with
  | true=>
   exact hb.mono (fun d σ3 ⟨e1,e2⟩=>⟨e1,by rw [filterMap_take_succ hz,e2];rfl⟩) fun _ _ x=>x
  | false=>
   exact ⟨hb.1,by rw [filterMap_take_succ hz,hb.2];simp⟩
 ·obtain ⟨rfl,rfl⟩:=hL
  rw [List.length_map,List.take_length]
  exact h
theorem loc1 {scope:Scope}{x:Str}{d:D}(h:scope.names.lookup x=some .local):∀y∈[(x,d)],scope.names.lookup y.1=some .local:=fun y hy=>by
 rw [List.mem_singleton] at hy;subst hy;exact h
theorem loc2 {scope:Scope}{x z:Str}{d e:D}(h:scope.names.lookup x=some .local)(h2:scope.names.lookup z=some .local):∀y∈[(x,d),(z,e)],scope.names.lookup y.1=some .local:=fun y hy=>by
 rcases List.mem_cons.mp hy with rfl| hy
 ·exact h
 ·exact loc1 h2 y hy
theorem Turns.map {α:Type}{l:List α}{g:α->Vars}{Inv:Sto->Prop}{scope:Scope}{elt:Expr}{Z:List D->Sto->Prop}(F:α->D)(hloc:∀x∈l,∀y∈g x,scope.names.lookup y.1=some .local)(hinv:Inv σ)(hsz:l.length<=sizeLine)
  (step:∀x∈l,∀fr' cenv,cenv.scope=relab scope env.scope->WE c A fr' cenv (g x++capt scope m) σ elt (fun d σ3=>σ3=σ/\d=F x) NoX)
  (h:Z (l.map F) σ):Turns c A env m scope [] elt Z (l.map g) Inv σ:=by
 refine Turns.of (fun x=>some (F x)) hloc hinv hsz (fun x hx fr' cenv hc=>WIfs.nil ?_) ?_
 ·exact (step x hx fr' cenv hc).mono (fun d σ3 ⟨e1,e2⟩=>⟨e1,by rw [e2]⟩) fun _ _ x=>x
 ·rw [(List.filterMap_eq_map (f:=F)▸rfl:l.filterMap (fun x=>some (F x))=l.map F)];exact h
theorem WIt.range (T:Tp c B bs)(hh:A.handled=none){f:Str}{fp pos px:Pos}{e:Expr}{x:Str}{Q:List Vars->(Sto->Prop)->Sto->Prop}(hk:env.kindOf f=some .globalImplicit)(hb:bs.lookup f=some (.type "range"))
  (h:WE c A fr env m σ e (fun d σ1=>∃n:Int,d=.int n/\-(2^62)<=n/\n<2^62/\Q ((List.range n.toNat).map fun (i:Nat)=>[(x,D.int (i:Int))]) (fun _=>True) σ1) X) (hp:plainArgs [e]=true:=by rfl) (hdb:(f==("__debug__":Str))=false:=by decide):
  WIt c A fr env m σ (.Call (.Name f fp) [e] [] pos) (.Name x px) Q X:=WIt.range1 T.good hh hk (T.bn _ _ hb).1 (T.bn _ _ hb).2 h hp hdb
theorem WIv.seq {α:Type}{sd:SD}{l:List α}{x:Str}{px:Pos}{Q:List Vars->(Sto->Prop)->Sto->Prop}(F:α->D)(hh:A.handled=none)(hd:sd.ds=l.map F)(hi:sd.inv σ)(h:Q (l.map fun i=>[(x,F i)]) sd.inv σ):WIv c A fr env m σ sd.d (.Name x px) Q:=by
 have e:sd.ds.map (fun d=>[(x,d)])=l.map fun i=>[(x,F i)]:=by simp only [hd,List.map_map];rfl
 cases sd with
 | lst ds=>exact WIv.lst hh (by have e':ds.map (fun d=>[(x,d)])=_:=e;rw [e'];exact h)
 | tup ds=>exact WIv.tup hh (by have e':ds.map (fun d=>[(x,d)])=_:=e;rw [e'];exact h)
 | ref a ds=>exact WIv.ref hh hi (by have e':ds.map (fun d=>[(x,d)])=_:=e;rw [e'];exact h)
end
end Mine
namespace Mine
open PySem PySem.Calls PyProof.Rows
mutual
noncomputable def D.py:D->Option PyData
 | .none=>some .none
 | .bool b=>some (.bool b)
 | .int i=>some (.int i)
 | .str x=>some (.str x)
 | .tup ds=>(pyAll ds).map .tuple
 | .lst ds=>(pyAll ds).map .list
 | _=>none
noncomputable def pyAll:List D->Option (List PyData)
 | []=>some []
 | d::r=>(D.py d).bind fun p=>(pyAll r).map fun q=>p::q
end
mutual
theorem V.reads {K:List Addr}{h:Heap}:∀(d:D) (v:Value) (p:PyData),V K h d v->d.py=some p->∃as,Reads h v p as
 | .none,v,p,x,e=>by simp only [D.py,Option.some.injEq] at e;unfold V at x;subst x;subst e;exact ⟨_,.none⟩
 | .bool b,v,p,x,e=>by simp only [D.py,Option.some.injEq] at e;unfold V at x;subst x;subst e;exact ⟨_,.bool b⟩
 | .int i,v,p,x,e=>by simp only [D.py,Option.some.injEq] at e;unfold V at x;obtain ⟨t,rfl⟩:=x;subst e;exact ⟨_,.int i t⟩
 | .str y,v,p,x,e=>by simp only [D.py,Option.some.injEq] at e;unfold V at x;obtain ⟨t,rfl⟩:=x;subst e;exact ⟨_,.str y t⟩
 | .tup ds,v,p,x,e=>by
  simp only [D.py] at e
  obtain ⟨ps,hp,rfl⟩:=Option.map_eq_some_iff.mp e
  unfold V at x
  obtain ⟨a,vs,n,rfl,nk,g,r⟩:=x
  obtain ⟨as,ra⟩:=Vs.reads ds vs ps r hp
  exact ⟨as,.tuple g rfl rfl (by rw [List.toList_toArray];exact ra)⟩
 | .lst ds,v,p,x,e=>by
  simp only [D.py] at e
  obtain ⟨ps,hp,rfl⟩:=Option.map_eq_some_iff.mp e
  unfold V at x
  obtain ⟨a,vs,n,rfl,nk,g,r⟩:=x
  obtain ⟨as,ra⟩:=Vs.reads ds vs ps r hp
  exact ⟨a::as,.list g rfl rfl (by rw [List.toList_toArray];exact ra)⟩
 | .sys C sz ru,v,p,x,e=>by simp [D.py] at e
 | .own C dx,v,p,x,e=>by simp [D.py] at e
 | .exc C,v,p,x,e=>by simp [D.py] at e
 | .typ T,v,p,x,e=>by simp [D.py] at e
 | .ref a,v,p,x,e=>by simp [D.py] at e
theorem Vs.reads {K:List Addr}{h:Heap}:∀(ds:List D) (vs:List Value) (ps:List PyData),Vs K h ds vs->pyAll ds=some ps->∃as,ReadsAll h vs ps as
 | [],vs,ps,x,e=>by simp only [pyAll,Option.some.injEq] at e;unfold Vs at x;subst x;subst e;exact ⟨_,.nil⟩
 | d::ds,vs,ps,x,e=>by
  simp only [pyAll] at e
  obtain ⟨p,hp,e⟩:=Option.bind_eq_some_iff.mp e
  obtain ⟨q,hq,rfl⟩:=Option.map_eq_some_iff.mp e
  unfold Vs at x
  obtain ⟨v,r,rfl,x1,x2⟩:=x
  obtain ⟨a1,r1⟩:=V.reads d v p x1 hp
  obtain ⟨a2,r2⟩:=Vs.reads ds r q x2 hq
  exact ⟨_,.cons r1 r2⟩
end
structure Py (n:Nat)(d:D)(p:PyData):Prop where
 py:d.py=some p
 can:p.canLay0=true
 dep:p.depth<=n
structure PyAll (n:Nat)(ds:List D)(ps:List PyData):Prop where
 py:pyAll ds=some ps
 can:PyData.canLayAll0 ps=true
 dep:PyData.depthAll ps<=n
theorem Py.int {n:Nat}{i:Int}:Py (n+1) (.int i) (.int i):=⟨rfl,rfl,by simp [PyData.depth]⟩
theorem Py.tup {n:Nat}{ds:List D}{ps:List PyData}(x:PyAll n ds ps):Py (n+1) (.tup ds) (.tuple ps):=⟨by simp [D.py,x.py],x.can,by exact Nat.succ_le_succ x.dep⟩
theorem Py.lst {n:Nat}{ds:List D}{ps:List PyData}(x:PyAll n ds ps):Py (n+1) (.lst ds) (.list ps):=⟨by simp [D.py,x.py],x.can,by exact Nat.succ_le_succ x.dep⟩
theorem PyAll.nil {n:Nat}:PyAll n [] []:=⟨rfl,rfl,by simp [PyData.depthAll]⟩
theorem PyAll.cons {n:Nat}{d:D}{p:PyData}{ds:List D}{ps:List PyData}(x:Py n d p)(y:PyAll n ds ps):PyAll n (d::ds) (p::ps):=⟨by simp [pyAll,x.py,y.py],by simp [PyData.canLayAll0,x.can,y.can],by exact Nat.max_le.mpr ⟨x.dep,y.dep⟩⟩
theorem PyAll.map {α:Type}{n:Nat}{F:α->D}{G:α->PyData}:∀{l:List α},(∀x∈l,Py n (F x) (G x))->PyAll n (l.map F) (l.map G)
 | [],_=>.nil
 | a::r,h=>.cons (h a (.head _)) (PyAll.map fun x hx=>h x (.tail _ hx))
inductive PyT (σ:Sto):Nat->D->PyData->Prop
 | of {n:Nat} {d:D} {p:PyData} (x:Py n d p):PyT σ n d p
 | ref {n:Nat} {a:Addr} {ds:List D} {ps:List PyData} (m:(a,O.lst ds)∈σ) (x:PyAll n ds ps):PyT σ (n+1) (.ref a) (.list ps)
theorem PyT.reads {c:Cx}{A:Around}{fr:List Addr}{σ:Sto}{n:Nat}{d:D}{p:PyData}{h:Heap}{v:Value}(x:PyT σ n d p)(ok:Ok c A fr σ h)(hv:V (keys σ++fr) h d v):(∃as,Reads h v p as)/\p.canLay0=true/\p.depth<=n:=by
 cases x with
 | of x=>exact ⟨V.reads d v p hv x.py,x.can,x.dep⟩
 | ref m x=>
  subst hv
  obtain ⟨vs,k,g,r⟩:=ok.sto _ m
  obtain ⟨as,ra⟩:=Vs.reads _ vs _ r x.py
  exact ⟨⟨_,.list g rfl rfl (by exact ra)⟩,x.can,by exact Nat.succ_le_succ x.dep⟩
section
variable {c:Cx} {A:Around} {fr:List Addr} {σ:Sto} {X:Addr->Sto->Prop} {Q:D->Sto->Prop} {env:Env} {m:Vars}
theorem Room.units {n k:Nat}(r:Room n A)(h:k<=90):A.units+1+k<cLine:=by
 exact z871 (r.1.2) (rfl) h
theorem WB.eqD {n k j:Nat}{d e:D}{p q:PyData}(r:Room j A)(x:PyT σ n d p)(y:PyT σ k e q)(h:Q (.bool (PyData.eqv p q)) σ)(hn:n<=90:=by first| decide| assumption):WB c A fr σ (compareOp .Eq) d e Q X:=fun v1 v2 s ok x1 x2=>by
 obtain ⟨⟨as,ra⟩,c1,d1⟩:=x.reads ok x1
 obtain ⟨⟨bs,rb⟩,c2,d2⟩:=y.reads ok x2
 exact SeqAt.compareEq_reads ra rb c1 c2 (by have:=r.units hn;exact z872 ‹_› d1) ⟨_,σ,Post.refl ..,ok,V.ofBool,h⟩
theorem WB.neD {n k j:Nat}{d e:D}{p q:PyData}(r:Room j A)(x:PyT σ n d p)(y:PyT σ k e q)(h:Q (.bool (!PyData.eqv p q)) σ)(hn:n<=90:=by first| decide| assumption):WB c A fr σ (compareOp .NotEq) d e Q X:=fun v1 v2 s ok x1 x2=>by
 obtain ⟨⟨as,ra⟩,c1,d1⟩:=x.reads ok x1
 obtain ⟨⟨bs,rb⟩,c2,d2⟩:=y.reads ok x2
 exact SeqAt.compareNe_reads ra rb c1 c2 (by have:=r.units hn;exact z872 ‹_› d1) ⟨_,σ,Post.refl ..,ok,V.ofBool,h⟩
theorem At1.intB {b:Bool}(h:Q (.int (if b then 1 else 0)) σ):At1 c A fr σ (.type "int") [.bool b] Q X:=.one fun s v ok hv=>by
 subst hv
 exact call_int_bool ⟨_,σ,Post.tok ..,ok,V.ofInt,h⟩
end
end Mine
namespace Mine
open PySem PySem.Calls PyProof.Rows
section
variable {c:Cx} {A:Around} {fr:List Addr} {σ σ1 σ2:Sto} {X:Addr->Sto->Prop} {Q:D->Sto->Prop} {env:Env} {m:Vars}
theorem Ok.put {a:Addr}{o o':O}{h h':Heap}(ok:Ok c A fr (σ1++(a,o)::σ2) h)(k:∀b ob,b≠a->h.get? b=some ob->h'.get? b=some ob)(x:IsO c.prog c.w (keys (σ1++(a,o)::σ2)++fr) h' a o'):Ok c A fr (σ1++(a,o')::σ2) h':=by
 have ek:keys (σ1++(a,o')::σ2)=keys (σ1++(a,o)::σ2):=by simp [keys]
 have ha:a∈keys (σ1++(a,o)::σ2):=by simp [keys]
 have nd:=ok.nd
 rw [List.nodup_append] at nd
 have nfr:∀b∈fr,b≠a:=fun b hb e=>nd.2.2 a ha b hb e.symm
 refine ⟨fun b ob e=>k b ob (fun z=>by subst z;replace e:=(ok.new b (List.mem_append_left _ ha) ..).symm.trans e;contradiction) (ok.base b ob e),fun p hp=> ?_,by rw [ek];exact ok.nd,by exact ek▸ok.new,fun b hb=> ?_,?_⟩
 ·rw [ek]
  have mv:=fun q hq hne=>
   IsO.move (fun b ob n e=>k b ob (fun z=>by cases z;exact n (List.mem_append_left _ ha)) e) (fun _ m=>.inl m) (fun ob e=>k _ _ hne e) (ok.sto q hq)
  have hnd':(σ1.map (·.1)).Nodup/\(a::σ2.map (·.1)).Nodup/\∀y∈σ1.map (·.1),∀z∈a::σ2.map (·.1),y≠z:=by
   have:(σ1.map (·.1)++a::σ2.map (·.1)).Nodup:=by simpa [keys] using (nd.1)
   exact List.nodup_append.mp this
  rcases List.mem_append.mp hp with hp| hp
  ·exact mv p (List.mem_append_left _ hp) fun e=>hnd'.2.2 p.1 (List.mem_map_of_mem hp) a (.head _) e
  ·rcases List.mem_cons.mp hp with rfl| hp
   ·exact x
   ·exact mv p (List.mem_append_right _ (.tail _ hp)) fun e=>(List.nodup_cons.mp hnd'.2.1).1 (e▸List.mem_map_of_mem hp)
 ·obtain ⟨ob,e⟩:=ok.live b hb
  exact ⟨ob,k b ob (nfr b hb) e⟩
 ·obtain ⟨l,hl,b,d,f⟩:=ok.stack
  have nw:=fun x hx=>nfr x (d x hx)
  refine ⟨l,hl,?_,d,fun x hx=> ?_⟩
  ·exact FunFrames.turn (fr:=l.filterMap (·.frame)) (fun x o hx g k'=>⟨o,k _ _ (nw x hx) g,k'⟩) b fun x hx=>hx
  ·obtain ⟨o,es,n,g,r⟩:=f x hx;exact ⟨o,es,n,k _ _ (nw x hx) g,r⟩
theorem Post.put {F:List Addr}{a:Addr}{o o':O}{s:Shared}{h':Heap}{tk:Nat}(hn:a∉fr)(k:∀b ob,b≠a->s.heap.get? b=some ob->h'.get? b=some ob)(l:∃ob,h'.get? a=some ob):Post F fr (σ1++(a,o)::σ2) s {s with heap:=h',toks:=tk} (σ1++(a,o')::σ2):=by
 exact {
  shape:=⟨h',tk,rfl⟩
  kept:=fun b ob n e=>k b ob (fun z=>n (by exact z▸List.mem_append_left _ (by simp [keys]))) e
  slots:=fun b ob m n e=>⟨ob.slots,k b ob (fun z=>hn (z▸m)) e,fun _=>rfl⟩
  alive:=fun b ob e=>by
   by_cases z:b=a
   ·subst z;exact l
   ·exact ⟨ob,k _ _ z e⟩
  grow:=fun _ m=>.inl ((by simp [keys]:keys (σ1++(a,o')::σ2)=keys (σ1++(a,o)::σ2))▸m)}
theorem newL {ds:List D}{vs:List Value}{s:Shared}{tk:Nat}(ok:Ok c A fr σ s.heap)(hvs:Vs (keys σ++fr) s.heap ds vs)(q:QL Q ds σ):Po c A none fr σ s V Q (.ref s.heap.objs.size) {s with heap:=s.heap.push (lstObj vs 0),toks:=tk}:=by
 have hn:∀a∈[s.heap.objs.size],s.heap.get? a=none:=fun a ha=>by rw [List.mem_singleton.mp ha];exact none_of_ge (Nat.le_refl _)
 have k1:∀b o,s.heap.get? b=some o->(s.heap.push (lstObj vs 0)).get? b=some o:=fun b o e=>Heap.get?_push_of_some _ e
 have g:(s.heap.push (lstObj vs 0)).get? s.heap.objs.size=some (lstObj vs 0):=Heap.get?_push_size _ rfl
 have oka:=ok.more k1 hn (fun a ha=>by rw [List.mem_singleton.mp ha];exact ⟨_,g⟩) (by simp)
 exact QL.use (G:=none) (s':={s with heap:=s.heap.push (lstObj vs 0),toks:=tk}) q (Post.keeps k1) oka ok.frames_in g (Vs.move (K:=keys σ++fr) (fun b o _ e=>k1 b o e) (less_add hn) _ _ hvs) (hn _ (by exact .head _))
theorem newT {ds:List D}{vs:List Value}{s:Shared}{tk:Nat}(ok:Ok c A fr σ s.heap)(hvs:Vs (keys σ++fr) s.heap ds vs)(q:Q (.tup ds) σ):Po c A none fr σ s V Q (.ref s.heap.objs.size) {s with heap:=s.heap.push (tupObj vs 0),toks:=tk}:=by
 have k1:∀b o,s.heap.get? b=some o->(s.heap.push (tupObj vs 0)).get? b=some o:=fun b o e=>Heap.get?_push_of_some _ e
 refine ⟨.tup ds,σ,Post.keeps (tk:=tk) k1,ok.keeps k1,?_,q⟩
 refine ⟨_,vs,0,rfl,fun z=> ?_,Heap.get?_push_size _ rfl,Vs.move (K:=keys σ++fr) (fun b o _ e=>k1 b o e) (fun a ha=>.inl ha) _ _ hvs⟩
 exact Nat.lt_irrefl _ (ok.lt z)
theorem SD.Fz.list {sd:SD}{h:Heap}{l:Addr}(x:sd.Fz (keys σ++fr) h l)(ok:Ok c A fr σ h)(inv:sd.inv σ)(hL:sd.isL=true):∃vs n,h.get? l=some (lstObj vs n)/\Vs (keys σ++fr) h sd.ds vs:=by
 cases sd with
 | lst ds=>obtain ⟨a,vs,n,g,r⟩:=x;exact ⟨vs,n,g,r⟩
 | tup ds=>contradiction
 | ref a ds=>
  obtain ⟨vs,n,g,r⟩:=ok.sto _ inv
  obtain rfl:l=a:=x
  exact ⟨vs,n,g,r⟩
theorem SD.Fz.tuple {sd:SD}{h:Heap}{l:Addr}(x:sd.Fz (keys σ++fr) h l)(hL:sd.isL=false):∃vs n,h.get? l=some (tupObj vs n)/\Vs (keys σ++fr) h sd.ds vs:=by
 cases sd with
 | lst ds=>contradiction
 | tup ds=>obtain ⟨a,vs,n,g,r⟩:=x;exact ⟨vs,n,g,r⟩
 | ref a ds=>contradiction
theorem WB.addL {sd1 sd2:SD}(h1:sd1.isL=true)(h2:sd2.isL=true)(i1:sd1.inv σ)(i2:sd2.inv σ)(hsz:sd1.ds.length+sd2.ds.length<=sizeLine)(h:QL Q (sd1.ds++sd2.ds) σ):WB c A fr σ (binaryOp .Add) sd1.d sd2.d Q X:=fun v1 v2 s ok x1 x2=>by
 obtain ⟨l,rfl,z⟩:=SD.of_v x1
 obtain ⟨b,rfl,y⟩:=SD.of_v x2
 obtain ⟨vs,n,g,r⟩:=z.list ok i1 h1
 obtain ⟨us,k,g',r'⟩:=y.list ok i2 h2
 refine P.add_list g g' ?_ (by simp [r.length,r'.length];exact hsz)
 exact (by simp:(vs.toArray++us.toArray)=(vs++us).toArray)▸newL (tk:=s.toks) ok (r.append r') h
theorem WB.addT {ds es:List D}(h1:ds≠[])(h2:es≠[])(hsz:ds.length+es.length<=sizeLine)(h:Q (.tup (ds++es)) σ):WB c A fr σ (binaryOp .Add) (.tup ds) (.tup es) Q X:=fun v1 v2 s ok x1 x2=>by
 obtain ⟨l,rfl,z⟩:=SD.of_v (sd:=.tup ds) x1
 obtain ⟨b,rfl,y⟩:=SD.of_v (sd:=.tup es) x2
 obtain ⟨vs,n,g,r⟩:=z.tuple rfl
 obtain ⟨us,k,g',r'⟩:=y.tuple rfl
 have e1:vs≠[]:=fun e=>h1 (by have:=r.length;subst e;exact List.eq_nil_of_length_eq_zero this.symm)
 refine P.add_tuple g g' (by simpa using e1) (by simpa using (fun e=>h2 (by subst e;exact List.eq_nil_of_length_eq_zero (r'.length).symm))) ?_ (by simp [r.length,r'.length];exact hsz)
 exact (by simp:(vs.toArray++us.toArray)=(vs++us).toArray)▸newT (tk:=s.toks) ok (r.append r') h
theorem foldl_rep (x:List Value):∀(n:Nat) (acc:Array Value),List.foldl (fun x1 x2=>x1++x2) acc (List.replicate n x.toArray)=acc++(List.replicate n x).flatten.toArray
 | 0,acc=>by rfl
 | n+1,acc=>by simp only [List.replicate_succ,List.foldl_cons,foldl_rep x n];simp
theorem Vs.rep {K:List Addr}{h:Heap}{ds:List D}{vs:List Value}(x:Vs K h ds vs):∀n,Vs K h (List.replicate n ds).flatten (List.replicate n vs).flatten
 | 0=>Vs.nil
 | n+1=>by exact x.append (Vs.rep x n)
theorem WB.mulL {sd:SD}{k:Int}(h1:sd.isL=true)(i1:sd.inv σ)(hlo: -(2^63)<=k)(hhi:k<2^63)(hsz:sd.ds.length*k.toNat<=2^24)(h:QL Q (List.replicate k.toNat sd.ds).flatten σ):WB c A fr σ (binaryOp .Mult) sd.d (.int k) Q X:=fun v1 v2 s ok x1 x2=>by
 obtain ⟨l,rfl,z⟩:=SD.of_v x1
 obtain ⟨u,rfl⟩:=x2.toInt
 obtain ⟨vs,n,hl,r⟩:=z.list ok i1 h1
 have hz:vs.toArray.size*k.toNat<=2^24:=by rw [List.size_toArray,r.length];exact hsz
 refine wpAny_binaryOp_repeat_ref (T:="list") (U:="int") (by decide) ⟨_,hl,rfl⟩ (fun s'=>typeIs_int s' k u) noFill_list_mul F.fills_int_mul F.slot_int_rmul repeat_list F.slot_int_index.lookup
  (call_meets F.slot_int_rmul (typeIs_int s k u) F.entry_int_rmul (F.args_int_rmul_2 _ _) (int___rmul___int_list k u l vs.toArray n)
   ⟨hl,rfl,⟨_,hl,rfl⟩,call_meets F.slot_list_mul ⟨_,hl,rfl⟩ F.entry_list_mul (F.args_list_mul_2 _ _)
    (AutoListH.list___mul___list_int_3 l vs.toArray n k u (by simp [Builtin.List.listFitsIndex];exact z875 hlo hhi) (z876 hz) (by simp [Builtin.List.listTooLong];exact z874 (by trivial)))
    ⟨hl,?_⟩⟩)
 have e:List.foldl (fun x1 x2=>x1++x2) #[] (List.replicate (if vs.toArray.isEmpty=true then 0 else k.toNat) vs.toArray)=(List.replicate k.toNat vs).flatten.toArray:=by
  rw [foldl_rep]
  by_cases hv:vs=[]
  ·subst hv;simp
  ·simp [hv]
 rw [e]
 exact newL (tk:=s.toks) ok (r.rep _) h
theorem WE.methL {o:Expr}{name:Str}{id:String}{apos pos:Pos}{args:List Expr}(slot:Slot "list" name id)(hty:typeOf (.builtin id)=pure (.type "method_descriptor"))
  (h:WE c A fr env m σ o (fun d σ1=>∃sd:SD,d=sd.d/\sd.isL=true/\sd.inv σ1/\WA c A fr env m σ1 args (fun ds σ2=>At1 c A fr σ2 (.builtin id) (d::ds) Q X) X) X)
  (hp:plainArgs args=true:=by rfl) (hb:∀w,attributeBase o name env w=w:=by intro _;rfl) (hl:(apos.endLine==pos.line)=true:=by rfl) (hn:decide (args.length<30)=true:=by rfl):
  WE c A fr env m σ (.Call (.Attribute o name apos) args [] pos) Q X:=fun s ok fm=>by
 have hst:=plainArgs_starEach (env:=env) (pos:=pos) hp
 show wpAny _ A (do let ov<-attributeBase o name env (eval o env);standAt apos.atName;methodCall o name apos pos env ov (args.length+([]:List Keyword).length) (backTo pos (starEach args env)) (backToKw pos (keywordEach [] env))) _ _ s
 rw [hb]
 refine wpAny_bind (wpAny_mono (h s ok fm) (fun ov s1 hz=> ?_) fun _ _ x=>x)
 obtain ⟨d,σ1,p1,ok1,x1,sd,hsd,hL,inv,q1⟩:=hz
 subst hsd
 refine wpAny_bind (wpAny_standAt ?_)
 obtain ⟨l,rfl,z⟩:=SD.of_v x1
 obtain ⟨vs,n,g,r⟩:=z.list ok1 inv hL
 have few:methodCallForm (args.length+([]:List Keyword).length) (backTo pos (starEach args env)) (backToKw pos (keywordEach [] env))=true:=by
  unfold methodCallForm
  have a3:backToKw pos (keywordEach [] env)=[]:=rfl
  rw [(List.all_eq_true.mpr fun x hx=>by rw [hst x hx];rfl),a3]
  trivial
 unfold methodCall
 rw [few]
 refine wpAny_bind (wpAny_holding ?_)
 unfold calleeOf
 refine getMethod_builtin ⟨_,g,rfl⟩ F.plainAttrs_list slot hty (fun a e=>by injection e with e;subst e;exact ⟨_,g,rfl⟩) ?_
 rw [show methodCallPos true o env apos pos=pure pos from if_pos (by rw [hl];rfl)]
 refine wpAny_bind (wpAny_pure ?_)
 refine callWith_builtin (by rw [List.any_eq_false];intro x hx;simp [hst x hx]) (wpAny_evalArgs hst (wpAny_mono (q1 pos s1 ok1 (fm.move p1)) (fun us s2 hz=> ?_) fun _ _ x=>Ex.back p1 x fun _ _ y=>y))
 obtain ⟨ds,σ2,p2,ok2,x2,q2⟩:=hz
 refine wpAny_mono (q2 s2 _ ok2 (Vs.cons (p2.v x1) x2)) (fun _ _ z=>z.back (p1.trans p2)) fun _ _ x=>Ex.back (p1.trans p2) x fun _ _ y=>y
end
end Mine
namespace Mine
open PySem PySem.Calls PyProof.Rows
section
variable {c:Cx} {A:Around} {fr:List Addr} {σ σ1 σ2:Sto} {X:Addr->Sto->Prop} {Q:D->Sto->Prop} {env:Env} {m:Vars} {N:Vars->Sto->Prop} {R:D->Sto->Prop}
theorem At1.append {a:Addr}{ds:List D}{d:D}(hsz:ds.length<=sizeLine)(h:Q .none (σ1++(a,.lst (ds++[d]))::σ2)):At1 c A fr (σ1++(a,.lst ds)::σ2) (.builtin "list.append") [.ref a,d] Q X:=.two fun s v u ok hv hu=>by
 subst hv
 obtain ⟨vs,n,g,r⟩:=ok.sto _ (by simp:(a,O.lst ds)∈σ1++(a,.lst ds)::σ2)
 have ha:a∈keys (σ1++(a,O.lst ds)::σ2):=by simp [keys]
 refine call_meets F.slot_list_append ⟨_,g,rfl⟩ F.entry_list_append (F.args_list_append_2 _ _) (list_append a vs.toArray n u (by simpa [r.length] using hsz)) ⟨g,?_⟩
 have k1:∀b ob,b≠a->s.heap.get? b=some ob->(s.heap.update a (Obj.mapSeq fun xs=>xs.push u)).get? b=some ob:=fun b ob hne e=>by exact (Heap.get?_update_ne _ _ _ _ hne ..).trans (e)
 obtain ⟨n',g'⟩:∃n',(s.heap.update a (Obj.mapSeq fun xs=>xs.push u)).get? a=some (lstObj (vs++[u]) n'):=by
  have e:=IsL.update (h:=s.heap) (l:=a) (items:=vs.toArray) (n:=n) g fun xs=>xs.push u
  exact ⟨_,((by simp:vs.toArray.push u=(vs++[u]).toArray)▸e)⟩
 refine ⟨.none,_,Post.put (tk:=s.toks) (o':=.lst (ds++[d])) (fun z=>(List.nodup_append.mp ok.nd).2.2 a ha a z rfl) k1 ⟨_,g'⟩,Ok.put ok k1 ⟨vs++[u],n',g',?_⟩,by rfl,h⟩
 exact Vs.move (fun b ob nb e=>k1 b ob (fun z=>nb (by simp only [z];exact List.mem_append_left _ ha)) e) (fun _ m=>.inl m) _ _ (r.snoc hu)
theorem W1.expr {e:Expr}{pos:Pos}(h:WE c A fr env m σ e (fun _ σ'=>N m σ') X)(hs:swapsWith e none pos.line env=pure false):W1 c A fr env m σ (.Expr e pos) N R X:=fun s ok fm=>by
 refine wpAny_Expr_any (wpAny_mono (h s ok fm) (fun v s1 hz=> ?_) fun _ _ x=>x.wide fm) (by unfold interactive;rw [fm.kind];rfl) hs
 obtain ⟨d,σ1,p1,ok1,x1,q1⟩:=hz
 exact ⟨.next m,σ1,p1.wide (by exact List.nil_subset _),ok1,⟨rfl,fm.move p1⟩,q1⟩
end
end Mine
namespace Mine
open PySem PySem.Calls PyProof.Rows
section
variable {c:Cx} {A:Around} {fr:List Addr} {σ σ1 σ2:Sto} {X:Addr->Sto->Prop} {Q:D->Sto->Prop} {env:Env} {m:Vars} {N:Vars->Sto->Prop} {R:D->Sto->Prop}
noncomputable def WPt (c:Cx)(A:Around)(fr:List Addr)(env:Env)(m:Vars)(σ:Sto)(e:Option Expr)(Q:Option Int->Sto->Prop)(X:Addr->Sto->Prop):Prop:=
 match e with
 | none=>Q none σ
 | some e=>WE c A fr env m σ e (fun d σ1=>∃i,d=.int i/\Q (some i) σ1) X
theorem WPt.run {e:Option Expr}{Q:Option Int->Sto->Prop}(h:WPt c A fr env m σ e Q X){s:Shared}(ok:Ok c A fr σ s.heap)(fm:Fm env m fr (keys σ++fr) s.heap):wpAny (model c.prog c.w) A (evalPart e env) (fun v s'=>∃i σ',IsPart v i/\Post [] fr σ s s' σ'/\Ok c A fr σ' s'.heap/\Q i σ') (Ex c A none fr σ s false X) s:=by
 cases e with
 | none=>exact wpAny_pure ⟨none,σ,.none,Post.refl ..,ok,h⟩
 | some e=>
  refine wpAny_mono (h s ok fm) (fun v s1 hz=> ?_) fun _ _ x=>x
  obtain ⟨d,σ1,p1,ok1,x1,i,e1,q1⟩:=hz
  subst e1
  obtain ⟨t,rfl⟩:=x1.toInt
  exact ⟨some i,σ1,.int i t,p1,ok1,q1⟩
noncomputable def pick (ds:List D)(lo hi:Option Int):List D:=(ds.drop (lo.elim 0 (clipAt ds.length))).take (hi.elim ds.length (clipAt ds.length)-lo.elim 0 (clipAt ds.length))
end
end Mine
namespace Mine
open PySem PySem.Calls PyProof.Rows PySem.W
noncomputable def kRun {α:Type}(lt:Nat->Nat->Bool):KasT α->α
 | .ret a=>a
 | .ask i j k=>kRun lt (k (lt i j))
theorem kRun_bind {α β:Type}{lt:Nat->Nat->Bool}{f:α->KasT β}:∀t:KasT α,kRun lt (t.bind f)=kRun lt (f (kRun lt t))
 | .ret a=>rfl
 | .ask i j k=>by
  show kRun lt ((k (lt i j)).bind f)=_
  simp only [kRun_bind (k (lt i j))];rfl
section
variable (rk:Nat->Int)
noncomputable def kk (p:Array Nat)(i:Nat):Int:=rk (p.getD i 0)
noncomputable def Up (p:Array Nat)(n:Nat):Prop:=∀i j,i<=j->j<n->kk rk p i<=kk rk p j
noncomputable def Dn (p:Array Nat)(n:Nat):Prop:=∀i j,i<=j->j<n->kk rk p j<=kk rk p i
noncomputable abbrev ltR:Nat->Nat->Bool:=fun i j=>decide (rk i<rk j)
end
section
variable {rk:Nat->Int}
theorem kk_congr {p q:Array Nat}{i j:Nat}(h:p[i]? =q[j]?):kk rk p i=kk rk q j:=by
 unfold kk;simp only [Array.getD_eq_getD_getElem?,h]
theorem kk_rev {p:Array Nat}{i j:Nat}(hj:j<=p.size)(k:Nat):kk rk (kas_rev p i j) k=if i<=k/\k<j then kk rk p (i+j-1-k) else kk rk p k:=by
 have e:=getElem?_mirror_all (i:=i) hj k
 split
 ·rename_i h;rw [if_pos h] at e;exact kk_congr e
 ·rename_i h;rw [if_neg h] at e;exact kk_congr e
theorem kk_rev_same {p:Array Nat}{i j:Nat}(hj:j<=p.size)(he:∀k,i<=k->k<j->kk rk p k=kk rk p (j-1))(k:Nat):kk rk (kas_rev p i j) k=kk rk p k:=by
 rw [kk_rev hj]
 split
 ·rename_i h;exact (he _ (z879 h.2) (z880 h.2 h.1) ..).trans (he k h.1 h.2 ..).symm
 ·rfl
theorem kk_bubble {p:Array Nat}{src d:Nat}(hs:src<p.size)(hd:d<=src)(k:Nat):kk rk (bubble p src d) k=if k=src-d then kk rk p src else if src-d<k/\k<=src then kk rk p (k-1) else kk rk p k:=by
 have e:=getElem?_bubble hs d hd k
 split
 ·rename_i h;rw [if_pos h] at e;exact kk_congr e
 ·rename_i h
  rw [if_neg h] at e
  split
  ·rename_i h2;rw [if_pos h2] at e;exact kk_congr e
  ·rename_i h2;rw [if_neg h2] at e;exact kk_congr e
theorem rev_perm (p:Array Nat)(i j:Nat):(kas_rev p i j).Perm p:=mirror_perm _ _ _ _
theorem asc_spec {p:Array Nat}:∀(f n:Nat),1<=n->Up rk p n->n<=kRun (ltR rk) (kas_asc p f n)/\kRun (ltR rk) (kas_asc p f n)<=n+f/\Up rk p (kRun (ltR rk) (kas_asc p f n))/\(kRun (ltR rk) (kas_asc p f n)=n+f\/kk rk p (kRun (ltR rk) (kas_asc p f n))<kk rk p (kRun (ltR rk) (kas_asc p f n)-1))
 | 0,n,h1,hs=>⟨Nat.le_refl _,Nat.le_refl _,hs,.inl rfl⟩
 | f+1,n,h1,hs=>by
  have hr:kRun (ltR rk) (kas_asc p (f+1) n)=kRun (ltR rk) (if ltR rk (p.getD n 0) (p.getD (n-1) 0)=true then KasT.ret n else kas_asc p f (n+1)):=rfl
  rw [hr]
  by_cases hc:ltR rk (p.getD n 0) (p.getD (n-1) 0)=true
  ·rw [if_pos hc]
   exact ⟨Nat.le_refl _,Nat.le_add_right _ _,hs,.inr (of_decide_eq_true hc)⟩
  ·rw [if_neg hc]
   have hc':kk rk p (n-1)<=kk rk p n:=by
    have:¬(rk (p.getD n 0)<rk (p.getD (n-1) 0)):=fun z=>hc (decide_eq_true z)
    exact z21 this
   obtain ⟨a1,a2,a3,a4⟩:=asc_spec (p:=p) f (n+1) z235 (fun i j hij hj=>by
    by_cases hj':j<n
    ·exact hs i j hij hj'
    ·obtain rfl:j=n:=z26 hj hj'
     by_cases hi:i=j
     ·subst hi;exact Int.le_refl _
     ·exact Int.le_trans (hs i (j-1) (z881 hij hi) (z882 h1)) hc')
   exact ⟨z32 a1,z883 a2,a3,a4.imp (fun e=>z884 e) id⟩
theorem desc_spec:∀(f:Nat) (p:Array Nat) (n q:Nat),1<=n->n+f<=p.size->Dn rk p n->q+1<=n->(∀i,n-(q+1)<=i->i<n->kk rk p i=kk rk p (n-1))->
  let r:=kRun (ltR rk) (kas_desc f p n q)
  r.1.Perm p/\n<=r.2.1/\r.2.1<=n+f/\Dn rk r.1 r.2.1/\r.2.2+1<=r.2.1/\(∀i,r.2.1-(r.2.2+1)<=i->i<r.2.1->kk rk r.1 i=kk rk r.1 (r.2.1-1))
 | 0,p,n,q,h1,hz,hs,hq,he=>⟨.refl _,Nat.le_refl _,Nat.le_refl _,hs,hq,he⟩
 | f+1,p,n,q,h1,hz,hs,hq,he=>by
  intro r
  have hr:r=kRun (ltR rk) (kas_desc (f+1) p n q):=rfl
  unfold kas_desc at hr
  simp only [kRun] at hr
  by_cases hc:ltR rk (p.getD n 0) (p.getD (n-1) 0)=true
  ·rw [if_pos hc] at hr
   have hlt:kk rk p n<kk rk p (n-1):=of_decide_eq_true hc
   have step:∀p':Array Nat,(∀k,kk rk p' k=kk rk p k)->Dn rk p' (n+1):=fun p' hk i j hij hj=>by
    simp only [hk,hk]
    by_cases hj':j<n
    ·exact hs i j hij hj'
    ·obtain rfl:j=n:=z26 hj hj'
     by_cases hi:i=j
     ·subst hi;exact Int.le_refl _
     ·exact Int.le_trans (Int.le_of_lt hlt) (hs i (j-1) (z881 hij hi) (z882 h1))
   by_cases hq0:q>0
   ·rw [if_pos hq0] at hr
    obtain ⟨a1,a2,a3,a4,a5,a6⟩:=desc_spec f (kas_rev p (n-(q+1)) n) (n+1) 0 z235 (z885 hz ((rev_perm p _ _).size_eq)) (step _ (kk_rev_same (z32 hz) he)) z886 (fun i h1 h2=>by congr 1;exact z887 h1 h2)
    rw [hr]
    exact ⟨a1.trans (rev_perm _ _ _),z32 a2,z883 a3,a4,a5,a6⟩
   ·rw [if_neg hq0] at hr
    obtain ⟨a1,a2,a3,a4,a5,a6⟩:=desc_spec f p (n+1) 0 z235 (z888 hz) (step _ fun _=>rfl) z886 (fun i h1 h2=>by congr 1;exact z887 h1 h2)
    rw [hr]
    exact ⟨a1,z32 a2,z883 a3,a4,a5,a6⟩
  ·rw [if_neg hc] at hr
   simp only [kRun] at hr
   have hge:kk rk p (n-1)<=kk rk p n:=by
    have:¬(rk (p.getD n 0)<rk (p.getD (n-1) 0)):=fun z=>hc (decide_eq_true z)
    exact z21 this
   by_cases hd:ltR rk (p.getD (n-1) 0) (p.getD n 0)=true
   ·rw [if_pos hd] at hr
    rw [hr]
    exact ⟨.refl _,Nat.le_refl _,Nat.le_add_right _ _,hs,hq,he⟩
   ·rw [if_neg hd] at hr
    have hle:kk rk p n<=kk rk p (n-1):=by
     have:¬(rk (p.getD (n-1) 0)<rk (p.getD n 0)):=fun z=>hd (decide_eq_true z)
     exact z21 this
    have heq:=Int.le_antisymm hle hge
    obtain ⟨a1,a2,a3,a4,a5,a6⟩:=desc_spec f p (n+1) (q+1) z235 (z888 hz) (fun i j hij hj=>by
     by_cases hj':j<n
     ·exact hs i j hij hj'
     ·obtain rfl:j=n:=z26 hj hj'
      by_cases hi:i=j
      ·subst hi;exact Int.le_refl _
      ·rw [heq];exact hs i (j-1) (z881 hij hi) (z882 h1)) (z687 hq) (fun i h1 h2=>by
     rw [show n+1-1=n by exact z889]
     by_cases hi:i=n
     ·cases hi;rfl
     ·simp only [heq];exact he i (z890 h1) (z6 h2 hi))
    exact hr▸⟨a1,z32 a2,z883 a3,a4,a5,a6⟩
theorem tail3_spec {p:Array Nat}{n nrem:Nat}(h1:1<=n)(hn:n<=nrem)(hz:nrem<=p.size)(hs:Dn rk p n):
  let r:=kRun (ltR rk) (kas_tail3 n nrem p)
  r.2.Perm p/\1<=r.1/\r.1<=nrem/\Up rk r.2 r.1:=by
 intro r
 have hr:r=kRun (ltR rk) (kas_tail3 n nrem p):=rfl
 unfold kas_tail3 at hr
 rw [kRun_bind] at hr
 obtain ⟨a1,a2,a3,a4⟩:=asc_spec (p:=kas_rev p 0 n) (nrem-n) n h1 (fun i j hij hj=>by
  rw [kk_rev (z891 hn hz),kk_rev (z891 hn hz),if_pos (z892 hj hij),if_pos (z893 hj)]
  exact hs _ _ (z894 hij) (z895 h1))
 rw [hr]
 exact ⟨rev_perm _ _ _,by exact z891 h1 a1,by exact z896 hn a2,a3⟩
theorem descPart_spec {p:Array Nat}{n nrem:Nat}(hn:n+1<=nrem)(hz:nrem<=p.size)(hs:Dn rk p (n+1)):
  let r:=kRun (ltR rk) (kas_descPart n nrem p)
  r.2.Perm p/\1<=r.1/\r.1<=nrem/\Up rk r.2 r.1:=by
 intro r
 have hr:r=kRun (ltR rk) (kas_descPart n nrem p):=rfl
 unfold kas_descPart at hr
 rw [kRun_bind] at hr
 obtain ⟨a1,a2,a3,a4,a5,a6⟩:=desc_spec (rk:=rk) (nrem-(n+1)) p (n+1) 0 z235 (z897 hn hz) hs z886 (fun i h1 h2=>by congr 1;exact z887 h1 h2)
 revert hr a1 a2 a3 a4 a5 a6
 generalize kRun (ltR rk) (kas_desc (nrem-(n+1)) p (n+1) 0)=t
 intro hr a1 a2 a3 a4 a5 a6
 have hts:=a1.size_eq
 by_cases hq:t.2.2>0
 ·rw [if_pos hq] at hr
  obtain ⟨b1,b2,b3,b4⟩:=tail3_spec (rk:=rk) (nrem:=nrem) (z899 a2) (z896 hn a3) (z900 hts ((rev_perm _ _ _).size_eq) hz) (fun i j hij hj=>by
   rw [kk_rev_same (z898 hts hn hz a3) a6,kk_rev_same (z898 hts hn hz a3) a6]
   exact a4 i j hij hj)
  rw [hr]
  exact ⟨b1.trans ((rev_perm _ _ _).trans a1),b2,b3,b4⟩
 ·rw [if_neg hq] at hr
  obtain ⟨b1,b2,b3,b4⟩:=tail3_spec (rk:=rk) (nrem:=nrem) (z899 a2) (z896 hn a3) (z878 hts hz) a4
  rw [hr]
  exact ⟨b1.trans a1,b2,b3,b4⟩
theorem count_spec {p:Array Nat}{nrem:Nat}(h1:1<=nrem)(hz:nrem<=p.size):
  let r:=kRun (ltR rk) (kas_count nrem p)
  r.2.Perm p/\1<=r.1/\r.1<=nrem/\Up rk r.2 r.1:=by
 intro r
 have hr:r=kRun (ltR rk) (kas_count nrem p):=rfl
 unfold kas_count at hr
 replace hr:=hr.trans (kRun_bind ..)
 obtain ⟨a1, a2, a3, a4⟩ := asc_spec (rk := rk) (p := p) (nrem - 1) 1 (Nat.le_refl _) (fun i j hij hj => by obtain rfl : i = j := z901 hj hij
                                                                                                            exact Int.le_refl _)
 revert hr a1 a2 a3 a4
 generalize kRun (ltR rk) (kas_asc p (nrem-1) 1)=n
 intro hr a1 a2 a3 a4
 by_cases hn:n=nrem
 ·rw [if_pos (by simpa using hn)] at hr
  exact hr▸⟨.refl _,a1,by exact z28 hn,a3⟩
 ·rw [if_neg (by simpa using hn)] at hr
  have hlt:=a4.resolve_left (z902 h1 hn)
  by_cases hg:n>1
  ·rw [if_pos hg] at hr
   simp only [kRun] at hr
   by_cases hc:ltR rk (p.getD 0 0) (p.getD (n-1) 0)=true
   ·rw [if_pos hc] at hr
    exact hr▸⟨.refl _,a1,by exact z896 h1 a2,a3⟩
   ·rw [if_neg hc] at hr
    have hle:kk rk p (n-1)<=kk rk p 0:=by
     have:¬(rk (p.getD 0 0)<rk (p.getD (n-1) 0)):=fun z=>hc (decide_eq_true z)
     exact z21 this
    have hall:∀k,0<=k->k<n->kk rk p k=kk rk p (n-1):=fun k _ hk=>by
     have:=a3 0 k z597 hk
     exact z904 hle ‹_› (a3 k (n-1) (z903 hk) (z882 a1))
    obtain ⟨b1,b2,b3,b4⟩:=descPart_spec (rk:=rk) (p:=kas_rev p 0 n) (n:=n) (nrem:=nrem) (z905 h1 a2 hn) (z878 ((rev_perm _ _ _).size_eq) hz) (fun i j hij hj=>by
     simp only [kk_rev_same (z906 h1 hz a2) hall]
     by_cases hj':j<n
     ·simp only [hall i z597 (z907 hj' hij),hall j z597 hj'];exact Int.le_refl _
     ·obtain rfl:j=n:=z26 hj hj'
      by_cases hi:i=j
      ·subst hi;exact Int.le_refl _
      ·simp only [hall i z597 (z908 hij hi)];exact Int.le_of_lt hlt)
    exact hr▸⟨b1.trans (rev_perm _ _ _),b2,b3,b4⟩
  ·rw [if_neg hg] at hr
   obtain rfl:n=1:=z909 a1 hg
   obtain ⟨b1,b2,b3,b4⟩:=descPart_spec (rk:=rk) (p:=p) (n:=1) (nrem:=nrem) (z910 h1 hn) hz (fun i j hij hj=>by
    by_cases hi:i=j
    ·subst hi;exact Int.le_refl _
    ·obtain rfl:i=0:=z911 hj hij hi
     obtain rfl:j=1:=z912 hj hi
     exact Int.le_of_lt hlt)
   exact hr▸⟨b1,b2,b3,b4⟩
theorem place_spec {p:Array Nat}{k:Nat}(hs:Up rk p k):∀(f l r:Nat),l<=r->r<=k->r-l<=f->(∀i,i<l->kk rk p i<=kk rk p k)->(∀i,r<=i->i<k->kk rk p k<kk rk p i)->
  kRun (ltR rk) (kas_place p k f l r)<=k/\(∀i,i<kRun (ltR rk) (kas_place p k f l r)->kk rk p i<=kk rk p k)/\(∀i,kRun (ltR rk) (kas_place p k f l r)<=i->i<k->kk rk p k<kk rk p i)
 | 0,l,r,h1,h2,h3,hlo,hhi=>by
  obtain rfl:l=r:=z913 h3 h1
  exact ⟨h2,hlo,hhi⟩
 | f+1,l,r,h1,h2,h3,hlo,hhi=>by
  rw [show kas_place p k (f+1) l r=(if l>=r then .ret l else .ask (p.getD k 0) (p.getD ((l+r)/2) 0) fun c=>if c=true then kas_place p k f l ((l+r)/2) else kas_place p k f ((l+r)/2+1) r) from rfl]
  by_cases hge:l>=r
  ·rw [if_pos hge]
   obtain rfl:l=r:=z914 h1 hge
   exact ⟨h2,hlo,hhi⟩
  ·rw [if_neg hge]
   simp only [kRun]
   by_cases hc:ltR rk (p.getD k 0) (p.getD ((l+r)/2) 0)=true
   ·rw [if_pos hc]
    exact place_spec hs f l ((l+r)/2) (z915 h1) (z916 h1 h2) (z917 h3) hlo fun i i1 i2=>Int.lt_of_lt_of_le (of_decide_eq_true hc) (hs _ _ i1 i2)
   ·rw [if_neg hc]
    have hle:kk rk p ((l+r)/2)<=kk rk p k:=by
     have:¬(rk (p.getD k 0)<rk (p.getD ((l+r)/2) 0)):=fun z=>hc (decide_eq_true z)
     exact z21 this
    exact place_spec hs f ((l+r)/2+1) r (z918 hge) h2 (z919 h3) (fun i i1=>Int.le_trans (hs i ((l+r)/2) (z371 i1) (z920 h2 hge)) hle) hhi
theorem bin_spec:∀(f:Nat) (p:Array Nat) (k:Nat),k+f<=p.size->Up rk p k->(kRun (ltR rk) (kas_bin f p k)).Perm p/\Up rk (kRun (ltR rk) (kas_bin f p k)) (k+f)
 | 0,p,k,hz,hs=>⟨.refl _,hs⟩
 | f+1,p,k,hz,hs=>by
  rw [show kas_bin (f+1) p k=(kas_place p k k 0 k).bind fun l=>kas_bin f (bubble p k (k-l)) (k+1) from rfl]
  rw [kRun_bind]
  obtain ⟨a1,a2,a3⟩:=place_spec hs k 0 k z597 z27 z921 (fun i hi=>(z4 hi).elim) (fun i h1 h2=>(z74 h2 h1).elim)
  revert a1 a2 a3
  generalize kRun (ltR rk) (kas_place p k k 0 k)=l
  intro a1 a2 a3
  have hks:=z922 hz
  obtain ⟨b1,b2⟩:=bin_spec f (bubble p k (k-l)) (k+1) (by rw [bubble_size];exact z888 hz) (fun i j hij hj=>by
   rw [kk_bubble hks z921,kk_bubble hks (by exact z921),show k-(k-l)=l by exact z42 a1]
   repeat' split
   all_goals first
    | (exfalso;lia)
    | exact Int.le_refl _
    | exact a2 _ (by lia)
    | exact Int.le_of_lt (a3 _ (by exact z923 ‹_› hij ‹_›) (by exact z924 hj a1 ‹_›))
    | exact hs _ _ (by lia) (by lia))
  exact ⟨b1.trans (bubble_perm _ _ _),by simp only [show k+(f+1)=k+1+f by exact z930];exact b2⟩
theorem sort_spec {n:Nat}(h2:2<=n):(kRun (ltR rk) (kas_sort n)).Perm (List.range n).toArray/\Up rk (kRun (ltR rk) (kas_sort n)) n:=by
 unfold kas_sort
 rw [kRun_bind]
 obtain ⟨a1,a2,a3,a4⟩:=count_spec (rk:=rk) (p:=(List.range n).toArray) (nrem:=n) (z931 h2) (by simp)
 revert a1 a2 a3 a4
 generalize kRun (ltR rk) (kas_count n (List.range n).toArray)=r
 intro a1 a2 a3 a4
 by_cases hl:r.1<n
 ·rw [if_pos hl]
  refine And.elim (fun b1 b2=> ?_) (bin_spec (rk:=rk) (n-max r.1 1) r.2 (max r.1 1) (z932 hl (by rw [a1.size_eq];simp)) (by rw [show max r.1 1=r.1 by exact z933 a2];exact a4))
  exact ⟨b1.trans a1,by simp only [show max r.1 1+(n-max r.1 1)=n by exact z934 hl] at b2;exact b2⟩
 ·rw [if_neg hl]
  exact ⟨a1,by rw [show r.1=n by exact z599 a3 hl] at a4;exact a4⟩
end
end Mine
namespace Mine
open PySem PySem.Calls PyProof.Rows PySem.SeqAt PySem.MeetsSeq PySem.MeetsSeq2 PySem.MeetsSeq3 PySem.SeqRoads2
noncomputable def OpAt (A:Around)(s:Shared)(op:CmpOp)(y x r:Value):Prop:=
 ∀(prog:Program) (w:World) (E:Value->Shared->Prop) (Q:Value->Shared->Prop),Q r s->wpAny (model prog w) A (richCompare op y x) Q E s
theorem tuple_ltAt (l b:Addr)(items items2:Array Value)(n n2:Nat)(e:Nat->Bool)(r:Value):
  Meets (Builtin.«tuple.__lt__» ⟨[.ref l,.ref b],[]⟩)
   (fun A R s=>s.heap.get? l=some {cls:=.type "tuple",dict:=none,data:=.seq items n,slots:= #[]}/\s.heap.get? b=some {cls:=.type "tuple",dict:=none,data:=.seq items2 n2,slots:= #[]}/\
    (∀j (h1:j<items.size) (h2:j<items2.size),SeqAt.EqAt A.in1 s items[j] items2[j] (e j))/\
    (∀j (h1:j<items.size) (h2:j<items2.size),e j=false->(∀i,i<j->e i=true)->OpAt A.in1 s .Lt items[j] items2[j] r)/\
    ((∀i,i<min items.size items2.size->e i=true)->Builtin.Tuple.tupleCompareSizes .Lt items.size items2.size=r)/\
    R (.ok (.ret r)) s):=
 .of_wp fun prog w A R s h=>by
  obtain ⟨hp,g,d,tk,os⟩:=s;obtain ⟨hl,hb,he,ho,hz0,h⟩:=h
  have f2:=AutoSeq1.sub_tuple_tuple
  have hZ:(items.toList.zip items2.toList).length=min items.size items2.size:=by simp
  wp_walk using AutoSeq1.wpAny_loadPart' hl,AutoSeq1.wpAny_loadPart' hb,wpAny_forIn_list _ (fun rest b s'=>b.1=none/\s'=⟨hp,g,d,tk,os⟩/\∃i,rest=(items.toList.zip items2.toList).drop i/\∀j,j<i->e j=true) _
  case turn=>
   rintro ⟨y,x⟩ rest b s' ⟨hb',rfl,i,hz,hR⟩
   have hlt:i<(items.toList.zip items2.toList).length:=by
    rcases Nat.lt_or_ge i (items.toList.zip items2.toList).length with h'| h'
    ·exact h'
    ·rw [List.drop_of_length_le h'] at hz;cases hz
   have hm:i<min items.size items2.size:=hZ▸hlt
   have h1:i<items.size:=Nat.lt_of_lt_of_le hm (Nat.min_le_left _ _)
   have h2:i<items2.size:=Nat.lt_of_lt_of_le hm (Nat.min_le_right _ _)
   rw [List.drop_eq_getElem_cons hlt] at hz
   injection hz with hyx hrest
   have hy:y=items[i]:=by have:=congrArg Prod.fst hyx;simpa using this
   have hx:x=items2[i]:=by have:=congrArg Prod.snd hyx;simpa using this
   subst hy hx
   refine wpAny_bind (he i h1 h2 prog w _ _ ?_)
   cases hy:e i with
   | true=>
    wp_walk
    exact ⟨rfl,rfl,i+1,hrest,fun j hj=>by
     by_cases hji:j=i
     ·subst hji;exact hy
     ·exact hR j (z6 hj hji)⟩
   | false=>
    refine wpAny_bind (wpAny_rule ?_)
    refine wpAny_bind (ho i h1 h2 hy hR prog w _ _ ?_)
    wp_walk
    exact ⟨_,rfl,h⟩
  case fin=>
   rintro ⟨b1,b2⟩ s' ⟨hb',rfl,i,hz,hR⟩
   simp only at hb'
   subst hb'
   have hge:min items.size items2.size<=i:=by
    rcases Nat.lt_or_ge i (items.toList.zip items2.toList).length with h'| h'
    ·rw [List.drop_eq_getElem_cons h'] at hz;cases hz
    ·exact hZ▸h'
   have e2:=hz0 fun j hj=>hR j (z935 hj hge)
   wp_walk
   exact ⟨_,rfl,by rw [e2];exact h⟩
  case h=>
   exact ⟨rfl,rfl,0,rfl,fun j hj=>by lia⟩
theorem OpAt.tuple_lt {A:Around}{s:Shared}{l b:Addr}{vs us:List Value}{n n2:Nat}{e:Nat->Bool}{r:Bool}(hl:s.heap.get? l=some (tupObj vs n))(hb:s.heap.get? b=some (tupObj us n2))(hu:A.units<cLine)
  (he:∀j (h1:j<vs.toArray.size) (h2:j<us.toArray.size),SeqAt.EqAt A.in1 s vs.toArray[j] us.toArray[j] (e j))
  (ho:∀j (h1:j<vs.toArray.size) (h2:j<us.toArray.size),e j=false->(∀i,i<j->e i=true)->OpAt A.in1 s .Lt vs.toArray[j] us.toArray[j] (.bool r))
  (hz:(∀i,i<min vs.toArray.size us.toArray.size->e i=true)->Builtin.Tuple.tupleCompareSizes .Lt vs.toArray.size us.toArray.size=.bool r):OpAt A s .Lt (.ref l) (.ref b) (.bool r):=fun prog w E Q h=>
 richCompare_meets_room (op:=.Lt) ⟨_,hl,rfl⟩ ⟨_,hb,rfl⟩ F.slot_tuple_lt F.entry_tuple_lt (F.args_tuple_lt_2 _ _) (tuple_ltAt l b vs.toArray us.toArray n n2 e (.bool r))
  ⟨hl,hb,he,ho,hz,show Value.bool r≠Value.notImplemented/\Q (.bool r) s from ⟨(fun x=>nomatch x),h⟩⟩ hu
end Mine
namespace Mine
open PySem PySem.Calls PyProof.Rows PySem.W
noncomputable def kAll {α:Type}(n:Nat)(R:α->Prop):KasT α->Prop
 | .ret a=>R a
 | .ask i j k=>i<n/\j<n/\∀b,kAll n R (k b)
theorem kAll_bind {α β:Type}{n:Nat}{R:α->Prop}{S:β->Prop}{f:α->KasT β}(hf:∀a,R a->kAll n S (f a)):∀t:KasT α,kAll n R t->kAll n S (t.bind f)
 | .ret a,h=>hf a h
 | .ask i j k,h=>⟨h.1,h.2.1,fun b=>kAll_bind hf (k b) (h.2.2 b)⟩
theorem kasWp_all {α:Type}{cmp:Nat->Nat->(Bool->Shared->Prop)->Shared->Prop}{lt:Nat->Nat->Bool}{s:Shared}{n:Nat}{R:α->Prop}(hc:∀i j C,i<n->j<n->C (lt i j) s->cmp i j C s):∀(t:KasT α) {G:α->Shared->Prop},kAll n R t->G (kRun lt t) s->t.kasWp cmp G s
 | .ret a,G,_,h=>h
 | .ask i j k,G,a,h=>hc i j _ a.1 a.2.1 (kasWp_all hc (k (lt i j)) (a.2.2 _) h)
noncomputable def Low (n:Nat)(p:Array Nat):Prop:=∀i,p.getD i 0<n
theorem Low.perm {n:Nat}{p q:Array Nat}(hn:0<n)(h:Low n p)(e:q.Perm p):Low n q:=fun i=>by
 by_cases hi:i<q.size
 ·obtain ⟨j,hj,he⟩:=Array.mem_iff_getElem.mp (e.mem_iff.mp (Array.getElem_mem hi))
  have:=h j
  simp only [hi,hj,dif_pos] at this⊢
  simpa [(he.symm)] using this
 ·simp [Array.getD,hi];exact hn
section
variable {n:Nat} (hn:0<n)
include hn
theorem asc_all {p:Array Nat}(hp:Low n p):∀(f k:Nat),kAll n (fun _=>True) (kas_asc p f k)
 | 0,k=>trivial
 | f+1,k=>⟨hp _,hp _,fun b=>by
  cases b
  ·exact asc_all hp f (k+1)
  ·trivial⟩
theorem desc_all:∀(f:Nat) (p:Array Nat) (k q:Nat),Low n p->kAll n (fun r=>Low n r.1) (kas_desc f p k q)
 | 0,p,k,q,hp=>hp
 | f+1,p,k,q,hp=>⟨hp _,hp _,fun b=>by
  cases b
  ·refine ⟨hp _,hp _,fun d=> ?_⟩
   cases d
   ·exact desc_all f p (k+1) (q+1) hp
   ·exact hp
  ·split
   ·exact desc_all f _ (k+1) 0 (hp.perm hn (rev_perm _ _ _))
   ·exact desc_all f p (k+1) 0 hp⟩
theorem tail3_all {p:Array Nat}{k nrem:Nat}(hp:Low n p):kAll n (fun r=>Low n r.2) (kas_tail3 k nrem p):=by
 refine kAll_bind (R:=fun _=>True) (fun m _=> ?_) _ (asc_all hn (hp.perm hn (rev_perm _ _ _)) _ _)
 exact hp.perm hn (rev_perm _ _ _)
theorem descPart_all {p:Array Nat}{k nrem:Nat}(hp:Low n p):kAll n (fun r=>Low n r.2) (kas_descPart k nrem p):=
 kAll_bind (R:=fun r=>Low n r.1) (fun r hr=>by
  split
  ·exact tail3_all hn (hr.perm hn (rev_perm _ _ _))
  ·exact tail3_all hn hr) _ (desc_all hn _ _ _ _ hp)
theorem count_all {p:Array Nat}{nrem:Nat}(hp:Low n p):kAll n (fun r=>Low n r.2) (kas_count nrem p):=
 kAll_bind (R:=fun _=>True) (fun m _=>by
  split
  ·exact hp
  ·split
   ·refine ⟨hp _,hp _,fun b=> ?_⟩
    cases b
    ·exact descPart_all hn (hp.perm hn (rev_perm _ _ _))
    ·exact hp
   ·exact descPart_all hn hp) _ (asc_all hn hp _ _)
theorem place_all {p:Array Nat}{k:Nat}(hp:Low n p):∀(f l r:Nat),kAll n (fun _=>True) (kas_place p k f l r)
 | 0,l,r=>trivial
 | f+1,l,r=>by
  rw [show kas_place p k (f+1) l r=(if l>=r then .ret l else .ask (p.getD k 0) (p.getD ((l+r)/2) 0) fun c=>if c=true then kas_place p k f l ((l+r)/2) else kas_place p k f ((l+r)/2+1) r) from rfl]
  split
  ·trivial
  ·refine ⟨hp _,hp _,fun b=> ?_⟩
   cases b
   ·exact place_all hp f _ _
   ·exact place_all hp f _ _
theorem bin_all:∀(f:Nat) (p:Array Nat) (k:Nat),Low n p->kAll n (fun r=>Low n r) (kas_bin f p k)
 | 0,p,k,hp=>hp
 | f+1,p,k,hp=>kAll_bind (R:=fun _=>True) (fun l _=>bin_all f _ (k+1) (hp.perm hn (bubble_perm _ _ _))) _ (place_all hn hp _ _ _)
theorem sort_all:kAll n (fun r=>Low n r) (kas_sort n):=by
 refine kAll_bind (R:=fun r=>Low n r.2) (fun r hr=> ?_) _ (count_all hn (fun i=>by
  by_cases hi:i<n
  ·simp [Array.getD,hi]
  ·simp [Array.getD,hi];exact hn))
 split
 ·exact bin_all hn _ _ _ hr
 ·exact hr
end
noncomputable def lexLt:List Int->List Int->Bool
 | [],[]=>false
 | [],_::_=>true
 | _::_,[]=>false
 | a::r,b::t=>decide (a<b)|| (a==b&&lexLt r t)
theorem lexLt_irrefl:∀a,lexLt a a=false
 | []=>rfl
 | a::r=>by simp [lexLt,lexLt_irrefl r]
theorem lexLt_trans:∀{a b c:List Int},lexLt a b=true->lexLt b c=true->lexLt a c=true
 | [],[],_,h,_=>by simp [lexLt] at h
 | [],_::_,[],_,h=>by simp [lexLt] at h
 | [],_::_,_::_,_,_=>rfl
 | _::_,[],_,h,_=>by simp [lexLt] at h
 | _::_,_::_,[],_,h=>by simp [lexLt] at h
 | a::r,b::t,c::u,h1,h2=>by
  simp only [lexLt,Bool.or_eq_true,decide_eq_true_eq,Bool.and_eq_true,beq_iff_eq] at h1 h2⊢
  rcases h1 with h1| ⟨rfl,h1⟩
  ·rcases h2 with h2| ⟨rfl,h2⟩
   ·exact .inl (z936 h1 h2)
   ·exact .inl h1
  ·rcases h2 with h2| ⟨rfl,h2⟩
   ·exact .inl h2
   ·exact .inr ⟨rfl,lexLt_trans h1 h2⟩
theorem lexLt_total:∀{a b:List Int},lexLt a b=false->lexLt b a=false->a=b
 | [],[],_,_=>rfl
 | [],_::_,h,_=>by simp [lexLt] at h
 | _::_,[],_,h=>by simp [lexLt] at h
 | a::r,b::t,h1,h2=>by
  simp only [lexLt,Bool.or_eq_false_iff,decide_eq_false_iff_not,Bool.and_eq_false_iff] at h1 h2
  obtain rfl:a=b:=z937 h1.1 h2.1
  exact congrArg _ (lexLt_total (h1.2.resolve_left (by simp)) (h2.2.resolve_left (by simp)) ..)
theorem lexLt_first:∀{xs ys:List Int} {j:Nat} {a b:Int},(∀i,i<j->xs[i]? =ys[i]?)->xs[j]? =some a->ys[j]? =some b->a≠b->lexLt xs ys=decide (a<b)
 | [],_,j,a,b,_,h,_,_=>by contradiction
 | _::_,[],j,a,b,_,_,h,_=>by contradiction
 | x::xs,y::ys,0,a,b,_,hx,hy,hne=>by
  simp only [List.getElem?_cons_zero,Option.some.injEq] at hx hy
  subst hx;subst hy
  simp [lexLt,hne]
 | x::xs,y::ys,j+1,a,b,h,hx,hy,hne=>by
  have e:x=y:=by simpa using h 0 z446
  subst e
  simp [lexLt,(lexLt_first (xs:=xs) (ys:=ys) (j:=j) (fun i hi=>by simpa using h (i+1) (z938 hi)) (by simpa using hx) (by simpa using hy) hne)]
theorem lexLt_all:∀{xs ys:List Int},(∀i,i<min xs.length ys.length->xs[i]? =ys[i]?)->lexLt xs ys=decide (xs.length<ys.length)
 | [],[],_=>rfl
 | [],_::_,_=>by rfl
 | _::_,[],_=>by rfl
 | x::xs,y::ys,h=>by
  have e:x=y:=by simpa using h 0 (by simp)
  subst e
  simp [lexLt,(lexLt_all (xs:=xs) (ys:=ys) fun i hi=>by simpa using h (i+1) (by simp;exact hi))]
noncomputable def keyLt (a b:List Int):Bool:=decide (a.sum<b.sum)|| (a.sum==b.sum&&lexLt a b)
theorem keyLt_irrefl (a:List Int):keyLt a a=false:=by simp [keyLt,lexLt_irrefl]
theorem keyLt_trans {a b c:List Int}(h1:keyLt a b=true)(h2:keyLt b c=true):keyLt a c=true:=by
 simp only [keyLt,Bool.or_eq_true,decide_eq_true_eq,Bool.and_eq_true,beq_iff_eq] at h1 h2⊢
 rcases h1 with h1| ⟨e1,h1⟩
 ·rcases h2 with h2| ⟨e2,h2⟩<;>exact .inl (by lia)
 ·rcases h2 with h2| ⟨e2,h2⟩
  ·exact .inl (z940 h2 e1)
  ·exact .inr ⟨z941 e1 e2,lexLt_trans h1 h2⟩
theorem keyLt_total {a b:List Int}(h1:keyLt a b=false)(h2:keyLt b a=false):a=b:=by
 simp only [keyLt,Bool.or_eq_false_iff,decide_eq_false_iff_not,Bool.and_eq_false_iff] at h1 h2
 have e:=z937 h1.1 h2.1
 exact lexLt_total (h1.2.resolve_left (by simp [e])) (h2.2.resolve_left (by simp [e]))
noncomputable def keyLe (a b:List Int):Prop:=keyLt b a=false
theorem countP_lt {α:Type}{p q:α->Bool}:∀{l:List α} {x:α},x∈l->q x=true->p x=false->(∀y∈l,p y=true->q y=true)->l.countP p<l.countP q
 | [],x,hx,_,_,_=>by cases hx
 | a::r,x,hx,hq,hp,h=>by
  rcases List.mem_cons.mp hx with rfl| hx
  ·simp [hq,hp];exact z942 (List.countP_mono_left fun y hy e=>h y (.tail _ hy) e)
  ·have:=countP_lt hx hq hp fun y hy=>h y (.tail _ hy)
   have h0:=h a (.head _)
   cases hpa:p a<;>cases hqa:q a<;>simp [hpa,hqa] at h0⊢<;>lia
noncomputable def rank (rows:List (List Int))(i:Nat):Int:=(rows.countP fun r=>keyLt r (rows.getD i []):Nat)
theorem rank_lt {rows:List (List Int)}{i j:Nat}(hi:i<rows.length)(hj:j<rows.length):decide (rank rows i<rank rows j)=keyLt (rows.getD i []) (rows.getD j []):=by
 cases h:keyLt (rows.getD i []) (rows.getD j []) with
 | true=>
  have:rank rows i<rank rows j:=by
   have:=countP_lt (p:=fun r=>keyLt r (rows.getD i [])) (q:=fun r=>keyLt r (rows.getD j [])) (by rw [List.getD_eq_getElem?_getD,List.getElem?_eq_getElem hi];exact List.getElem_mem hi) h (keyLt_irrefl _) fun y _ e=>keyLt_trans e h
   exact z943 this
  simp [this]
 | false=>
  have:rank rows j<=rank rows i:=by
   have:rows.countP (fun r=>keyLt r (rows.getD j []))<=rows.countP (fun r=>keyLt r (rows.getD i [])):=List.countP_mono_left fun y _ e=>by
    cases h2:keyLt (rows.getD j []) (rows.getD i []) with
    | true=>exact keyLt_trans e h2
    | false=>rw [keyLt_total h h2];exact e
   exact z944 this
  simp;exact this
end Mine
namespace Mine
open PySem PySem.Calls PyProof.Rows PySem.W PySem.SeqAt
noncomputable abbrev row (is:List Int):D:=.tup (is.map .int)
noncomputable abbrev keyD (is:List Int):D:=.tup [.int is.sum,row is]
theorem Vs.int {K:List Addr}{h:Heap}{is:List Int}{vs:List Value}(x:Vs K h (is.map .int) vs){j:Nat}{v:Value}(e:vs[j]? =some v):∃i t,is[j]? =some i/\v=.int i t:=by
 obtain ⟨d,e1,e2⟩:=x.get e
 replace e1:=(List.getElem?_map ..).symm.trans e1
 obtain ⟨i,hi,rfl⟩:=Option.map_eq_some_iff.mp e1
 obtain ⟨t,rfl⟩:=e2.toInt
 exact ⟨i,t,hi,rfl⟩
theorem EqAt.ints {A:Around}{s:Shared}{i j:Int}{t u:Tok}(hu:A.units+5<cLine):EqAt A s (.int i t) (.int j u) (i==j):=
 eqAt_reads (.int i) (.int j) A s _ _ [] [] (.int i t) (.int j u) rfl rfl (by exact z606 hu)
theorem toArr {vs:List Value}{j:Nat}(h:j<vs.toArray.size):vs[j]? =some (vs.toArray[j]):=by
 simp
theorem OpAt.rowLt {A:Around}{s:Shared}{K:List Addr}{xs ys:List Int}{v u:Value}(hu:A.units+8<cLine)(x:V K s.heap (row xs) v)(y:V K s.heap (row ys) u):OpAt A s .Lt v u (.bool (lexLt xs ys)):=by
 obtain ⟨a,vs,n,rfl,_,g,r⟩:=x
 obtain ⟨b,us,k,rfl,_,g',r'⟩:=y
 have l1:vs.length=xs.length:=by simpa using r.length
 have l2:us.length=ys.length:=by simpa using r'.length
 refine OpAt.tuple_lt (e:=fun j=>xs[j]? ==ys[j]?) g g' (z606 hu) (fun j h1 h2=> ?_) (fun j h1 h2 hne hall=> ?_) fun hall=> ?_
 ·obtain ⟨i,t,e1,e2⟩:=r.int (toArr h1)
  obtain ⟨i',t',e1',e2'⟩:=r'.int (toArr h2)
  simp only [e2,e2',e1,e1']
  have e:(some i==some i')=(i==i'):=rfl
  exact EqAt.ints (by exact z945 hu)
 ·obtain ⟨i,t,e1,e2⟩:=r.int (toArr h1)
  obtain ⟨i',t',e1',e2'⟩:=r'.int (toArr h2)
  simp only [e2,e2']
  exact (lexLt_first (fun i hi=>by simpa using hall i hi) e1 e1' (fun e=>by simp [e1,e1',e] at hne))▸fun prog w E Q h=>PyProof.Rows.lt_int h
 ·rw [lexLt_all fun i hi=>by simpa using hall i (by simpa [l1,l2] using hi)]
  simp [Builtin.Tuple.tupleCompareSizes,l1,l2]
theorem V.key {K:List Addr}{h:Heap}{xs:List Int}{v:Value}(x:V K h (keyD xs) v):∃a n t w,v=.ref a/\h.get? a=some (tupObj [.int xs.sum t,w] n)/\V K h (row xs) w:=by
 obtain ⟨a,vs,n,rfl,_,g,r⟩:=x
 obtain ⟨v1,r1,rfl,x1,r⟩:=r
 obtain ⟨v2,r2,rfl,x2,r⟩:=r
 subst r
 obtain ⟨t,rfl⟩:=x1.toInt
 exact ⟨a,n,t,v2,rfl,g,x2⟩
theorem EqAt.rows {A:Around}{s:Shared}{K:List Addr}{xs ys:List Int}{v u:Value}(hu:A.units+8<cLine)(x:V K s.heap (row xs) v)(y:V K s.heap (row ys) u):EqAt A s v u (decide (xs=ys)):=by
 have p1:Py 2 (row xs) (.tuple (xs.map PyData.int)):=.tup (.map fun _ _=>.int)
 have p2:Py 2 (row ys) (.tuple (ys.map PyData.int)):=.tup (.map fun _ _=>.int)
 obtain ⟨as,ra⟩:=V.reads _ _ _ x p1.py
 obtain ⟨bs,rb⟩:=V.reads _ _ _ y p2.py
 exact ((ked_eqvAll xs ys)▸(eqAt_reads _ _ A s _ _ as bs ra rb p1.can p2.can (by exact z946 hu (p1.dep))))
theorem keyLt_asked {prog:Program}{w:World}{A:Around}{E:Value->Shared->Prop}{s:Shared}{K:List Addr}{xs ys:List Int}{v u:Value}{Q:Bool->Shared->Prop}(hu:A.units+12<cLine)(x:V K s.heap (keyD xs) v)(y:V K s.heap (keyD ys) u)(h:Q (keyLt xs ys) s):
  wpAny (model prog w) A (keyLt' (tuples' true) v u) Q E s:=by
 obtain ⟨a,n,t,p,rfl,g,xp⟩:=x.key
 obtain ⟨b,k,t',q,rfl,g',xq⟩:=y.key
 refine kat_lt g rfl g' rfl ?_
 refine kat_cons (EqAt.ints (z950 hu) prog w _ _ ?_)
 by_cases e:xs.sum=ys.sum
 ·have e1:(xs.sum==ys.sum)=true:=by simpa using e
  rw [e1]
  refine kat_yes (kat_cons (EqAt.rows (z951 hu) xp xq prog w _ _ ?_))
  by_cases e2:xs=ys
  ·subst e2
   simp only
   refine kat_yes (kat_nil ?_)
   rw [keyLt_irrefl] at h
   trivial
  ·simp only [decide_eq_false e2]
   refine kat_no (kat_one _ _ (OpAt.rowLt (z951 hu) xp xq prog w _ _ ?_))
   have e3:keyLt xs ys=lexLt xs ys:=by simp [keyLt,e]
   rw [e3] at h
   exact h
 ·have e1:(xs.sum==ys.sum)=false:=by simpa using e
  rw [e1]
  refine kat_no ?_
  refine oneLt_int ?_
  rw [(by simp [keyLt,e]:keyLt xs ys=decide (xs.sum<ys.sum))] at h
  exact h
end Mine
set_option maxHeartbeats 1000000
namespace Mine
open PySem PySem.Calls PyProof.Rows PySem.W PySem.SeqAt
theorem Ok.around {c:Cx}{A B:Around}{fr:List Addr}{σ:Sto}{h:Heap}(ok:Ok c A fr σ h)(e:B.frames=A.frames):Ok c B fr σ h:=⟨ok.base,ok.sto,ok.nd,ok.new,ok.live,by exact e▸ok.stack⟩
theorem Vs.at {K:List Addr}{h:Heap}{rows:List (List Int)}{F:List Int->D}{vs:List Value}(x:Vs K h (rows.map F) vs){i:Nat}(hi:i<rows.length):V K h (F (rows.getD i [])) (vs.getD i .none):=by
 obtain ⟨v,e,hV⟩:=x.got (i:=i) (d:=F (rows.getD i [])) (by simp [List.getElem?_eq_getElem hi])
 exact (by simp [e]:vs.getD i .none=v)▸hV
theorem Vs.picked {K:List Addr}{h:Heap}{rows:List (List Int)}{F:List Int->D}{vs:List Value}(x:Vs K h (rows.map F) vs):∀l:List Nat,(∀i∈l,i<rows.length)->Vs K h ((l.map fun i=>rows.getD i []).map F) (l.map fun i=>vs.getD i .none)
 | [],_=>Vs.nil
 | i::r,hl=>by
  exact Vs.cons (x.at (hl i (.head _))) (x.picked r fun j hj=>hl j (.tail _ hj))
theorem range_getD (rows:List (List Int)):(List.range rows.length).map (fun i=>rows.getD i [])=rows:=by
 refine List.ext_getElem (by simp) fun i h1 h2=> ?_
 simp [h2]
theorem KatTups.of {K:List Addr}{h:Heap}:∀{rows:List (List Int)} {ks:List Value},Vs K h (rows.map keyD) ks->∃fs,KatTups h ks fs/\fs.length=rows.length/\∀v∈fs,∃i t,v=.int i t
 | [],ks,x=>by
  simp only [List.map_nil] at x
  subst x
  exact ⟨[],trivial,rfl,fun v hv=>by contradiction⟩
 | r::rs,ks,x=>by
  obtain ⟨v,us,rfl,x1,x2⟩:=x
  obtain ⟨fs,h1,h2,h3⟩:=KatTups.of x2
  obtain ⟨a,n,t,w,rfl,g,_⟩:=x1.key
  refine ⟨.int r.sum t::fs,PySem.W.KatTups.cons g rfl rfl rfl h1,by simp [h2],fun v hv=> ?_⟩
  rcases List.mem_cons.mp hv with rfl| hv
  ·exact ⟨_,_,rfl⟩
  ·exact h3 v hv
section
variable {c:Cx} {A:Around} {fr:List Addr} {σ:Sto} {X:Addr->Sto->Prop} {Q:D->Sto->Prop}
theorem pw_small:∀{l:List (List Int)},l.length<2->l.Pairwise keyLe
 | [],_=>.nil
 | [_],_=>List.pairwise_singleton _ _
theorem sort_end {rows:List (List Int)}{ks vs:List Value}{K:List Addr}{a kS:Addr}{e1:Nat}{s:Shared}{P:PySem.Fin->Shared->Prop}{E:Value->Shared->Prop}(hu:A.units+12<cLine)(h64:rows.length<64)(hk:Vs K s.heap (rows.map keyD) ks)(hv:vs.length=rows.length)
  (h:∀st:SortSt,failedOf st=none->(∃l:List Nat,(∀i∈l,i<rows.length)/\l.length=rows.length/\(arrOf st).map (·.2)=(l.map fun i=>vs.getD i .none).toArray/\(l.map fun i=>rows.getD i []).Perm rows/\(l.map fun i=>rows.getD i []).Pairwise keyLe)->wpAny (model c.prog c.w) A (ksk_tail a false e1 (.ref kS) st) P E s):
  wpAny (model c.prog c.w) A (ksk_end a false vs.toArray e1 (.ref kS) ks.toArray) P E s:=by
 have hl:ks.length=vs.length:=by have:=hk.length;simp at this;exact z954 hv this
 unfold ksk_end
 simp only [Bool.false_eq_true,if_false]
 by_cases h2:vs.toArray.size<2
 ·rw [if_pos h2,if_pos h2]
  refine wpAny_bind (wpAny_pure ?_)
  refine wpAny_bind (Q:=_) (m:=(pure ():StateT SortSt Sem Unit).run _) ?_
  refine wpAny_pure ?_
  have h2':rows.length<2:=by simpa [hv] using h2
  refine h _ rfl ⟨List.range rows.length,fun i hi=>List.mem_range.mp hi,by simp,?_,by rw [range_getD],?_⟩
  ·apply Array.toList_inj.mp
   rw [Array.toList_map,ksk_zip]
   refine List.ext_getElem (by simp [hl,hv]) fun i i1 i2=> ?_
   simp [(by simp [hl] at i1;exact i1)]
  ·rw [range_getD]
   exact pw_small h2'
 ·rw [if_neg h2,if_neg h2]
  have h2':2<=rows.length:=by simp [hv] at h2;exact h2
  obtain ⟨fs,t1,t2,t3⟩:=KatTups.of hk
  refine wpAny_bind (kat_kind (T:=.type "int") t1 (z955 h2' t2) (fun v hv'=>by obtain ⟨i,t,rfl⟩:=t3 v hv';exact Looks.of_pure rfl) rfl ?_)
  refine wpAny_bind (wpAny_mono (kat_run (Q:=fun st' s'=>s'=s/\∃p:Array Nat,p.Perm (List.range rows.length).toArray/\Up (rank rows) p rows.length/\arrOf st'=p.map (kas_item (ks.toArray.zip vs.toArray))/\failedOf st'=none)
   (G:=fun p s'=>s'=s/\p.Perm (List.range rows.length).toArray/\Up (rank rows) p rows.length) hl (z878 hv h2') (z807 h64 hv) (fun p st' s' a1 a2 a3 a4=>⟨a4.1,p,a4.2.1,a4.2.2,a2,a3⟩) ?_) ?_ fun _ _ x=>x)
  ·rw [hv]
   obtain ⟨b1,b2⟩:=sort_spec (rk:=rank rows) h2'
   refine kasWp_all (lt:=ltR (rank rows)) (R:=fun r=>Low rows.length r) (fun i j C hi hj hC=> ?_) _ (sort_all (z956 h2')) ⟨rfl,b1,b2⟩
   refine keyLt_asked hu (hk.at hi) (hk.at hj) ?_
   rw [<-rank_lt hi hj]
   exact hC
  ·rintro ⟨⟨⟩,st'⟩ s' ⟨rfl,p,a1,a2,a3,a4⟩
   have hlow:∀i∈p.toList,i<rows.length:=fun i hi=>by
    have:=(Array.perm_iff_toList_perm.mp a1).mem_iff.mp hi
    simpa using this
   have hlen:p.toList.length=rows.length:=by
    have:=(Array.perm_iff_toList_perm.mp a1).length_eq
    simpa using this
   refine h st' a4 ⟨p.toList,hlow,hlen,kat_snds hl a3,?_,?_⟩
   ·have:=(Array.perm_iff_toList_perm.mp a1).map fun i=>rows.getD i []
    rw [range_getD] at this
    exact this
   ·rw [List.pairwise_iff_getElem]
    intro i j hi hj hij
    simp only [List.length_map] at hi hj
    have:=a2 i j (z24 hij) (z39 hj hlen)
    unfold kk at this
    have ei:p.getD i 0=p.toList[i]:=by
     have:i<p.size:=by simpa using hi
     simp [Array.getD,this]
    have ej:p.getD j 0=p.toList[j]:=by
     have:j<p.size:=by simpa using hj
     simp [Array.getD,this]
    simp only [ei,ej] at this
    simp only [List.getElem_map]
    unfold keyLe
    rw [<-rank_lt (hlow _ (List.getElem_mem hj)) (hlow _ (List.getElem_mem hi))]
    simpa using this
theorem Vs.snocMap {K:List Addr}{h:Heap}{rows:List (List Int)}{F:List Int->D}{i:Nat}{r:List Int}{vs:List Value}{v:Value}(x:Vs K h ((rows.take i).map F) vs)(e:rows[i]? =some r)(y:V K h (F r) v):Vs K h ((rows.take (i+1)).map F) (vs++[v]):=by
 obtain ⟨hi,rfl⟩:=List.getElem?_eq_some_iff.mp e
 rw [List.take_succ_eq_append_getElem hi,List.map_append]
 exact x.append (Vs.cons y Vs.nil)
theorem call_sortedK {sd:SD}{rows:List (List Int)}{f:Addr}{P:Around->Prop}{s:Shared}{v:Value}(hL:sd.isL=true)(hd:sd.ds=rows.map row)(inv:sd.inv σ)(h64:rows.length<64)(hu:A.units+20<cLine)(hP:P A.in1.in1)
  (hf:∀r∈rows,WC c P (.ref f) [row r] σ (fun d σ'=>σ'=σ/\d=keyD r) NoX) (ok:Ok c A fr σ s.heap) (hv:V (keys σ++fr) s.heap sd.d v)
  (h:∀out:List (List Int),out.Perm rows->out.Pairwise keyLe->QL Q (out.map row) σ):W c A none fr σ (call (.builtin "sorted") [v] [(Str.ofString "key",.ref f)]) V Q X s:=by
 obtain ⟨l,rfl,z⟩:=SD.of_v hv
 obtain ⟨vs,n,g,r⟩:=z.list ok inv hL
 simp only [hd] at r
 have hlen:vs.length=rows.length:=by simpa using r.length
 refine call_function_entry_kw kind_sorted plain_sorted entry_sorted (ksk_s1 _ _) ?_
 refine wpAny_bind (m:=checkCount "sorted" 1 1 _) (wpAny_pure ?_)
 refine wpAny_bind (collect_list ⟨_,g,rfl,n,rfl⟩ ?_ (by rw [sizeLine_eq];exact z957 h64 hlen))
 refine wpAny_bind (wpAny_newList ?_ (by rw [sizeLine_eq];exact z957 h64 hlen))
 have hsz:((s.heap.push (seqObj "list" #[] 0)).update s.heap.objs.size (Obj.mapSeq (· ++vs.toArray))).objs.size=s.heap.objs.size+1:=by
  exact (Heap.size_update ..).trans (size_push' ..)
 have hoL:(((s.heap.push (seqObj "list" #[] 0)).update s.heap.objs.size (Obj.mapSeq (· ++vs.toArray))).push (seqObj "list" vs.toArray 0)).get? (s.heap.objs.size+1)=some (seqObj "list" vs.toArray 0):=by
  exact (congrArg _ (hsz ..).symm).trans (Heap.get?_push_size _ rfl)
 have keep:∀b o,s.heap.get? b=some o->(((s.heap.push (seqObj "list" #[] 0)).update s.heap.objs.size (Obj.mapSeq (· ++vs.toArray))).push (seqObj "list" vs.toArray 0)).get? b=some o:=fun b o q=>by
  have hlt:=Heap.lt_size q
  rw [Heap.get?_push_ne _ _ _ (by rw [hsz];exact Nat.ne_of_lt (Nat.lt_succ_of_lt hlt)),Heap.get?_update_ne _ _ _ _ (Nat.ne_of_lt hlt),Heap.get?_push_ne _ _ _ (Nat.ne_of_lt hlt)]
  exact q
 have hsz2:(((s.heap.push (seqObj "list" #[] 0)).update s.heap.objs.size (Obj.mapSeq (· ++vs.toArray))).push (seqObj "list" vs.toArray 0)).objs.size=s.heap.objs.size+2:=by rw [size_push',hsz]
 show wpAny _ _ _ _ _ {s with heap:=((s.heap.push (seqObj "list" #[] 0)).update s.heap.objs.size (Obj.mapSeq (· ++vs.toArray))).push (seqObj "list" vs.toArray 0)}
 rw [hsz]
 revert hoL keep hsz2
 generalize ((s.heap.push (seqObj "list" #[] 0)).update s.heap.objs.size (Obj.mapSeq (· ++vs.toArray))).push (seqObj "list" vs.toArray 0)=H1
 intro hoL keep hsz2
 refine wpAny_bind (wpAny_holding (wpAny_call_entry_kw slot_list_sort ⟨_,hoL,rfl⟩ entry_list_sort ?body (ksk_l1 _ _)))
 show wpAny (model c.prog c.w) A.in1.in1 (Builtin.«list.sort» ⟨[.ref (s.heap.objs.size+1)],[(Str.ofString "key",.ref f)]⟩) _ _ _
 rw [ksk_t1]
 have hnone:∀b,s.heap.objs.size<=b->s.heap.get? b=none:=fun b hb=>none_of_ge hb
 unfold ksk_tree
 refine wpAny_bind (listItems_at hoL rfl ?_)
 obtain ⟨e1,ho1⟩:∃e1,(H1.update (s.heap.objs.size+1) (Obj.mapSeq fun _=>(#[]:Array Value))).get? (s.heap.objs.size+1)=some (seqObj "list" #[] e1):=⟨_,get?_update_seq hoL fun _=> #[]⟩
 refine wpAny_bind (listUpdate_at hoL rfl ?_ (by rw [List.size_toArray,sizeLine_eq];exact z957 h64 hlen) (Nat.zero_le _))
 refine wpAny_bind (seqEpoch_at ho1 rfl ?_)
 refine wpAny_bind (wpAny_newTuple ?_ (by show vs.length<=_;rw [sizeLine_eq];exact z957 h64 hlen))
 refine wpAny_bind (wpAny_newList ?_ (Nat.zero_le _))
 refine wpAny_holding ?_
 have hszk:((H1.update (s.heap.objs.size+1) (Obj.mapSeq fun _=>(#[]:Array Value))).push (seqObj "tuple" vs.toArray 0)).objs.size=s.heap.objs.size+3:=by rw [size_push',Heap.size_update,hsz2]
 show wpAny (model c.prog c.w) A.in1.in1 (ksk_rest (s.heap.objs.size+1) (.ref f) false vs.toArray e1 (.ref ((H1.update (s.heap.objs.size+1) (Obj.mapSeq fun _=>(#[]:Array Value))).push (seqObj "tuple" vs.toArray 0)).objs.size)) _ _ {s with heap:=((H1.update (s.heap.objs.size+1) (Obj.mapSeq fun _=>(#[]:Array Value))).push (seqObj "tuple" vs.toArray 0)).push (seqObj "list" #[] 0)}
 have gk:(((H1.update (s.heap.objs.size+1) (Obj.mapSeq fun _=>(#[]:Array Value))).push (seqObj "tuple" vs.toArray 0)).push (seqObj "list" #[] 0)).get? (s.heap.objs.size+3)=some (lstObj [] 0):=by rw [<-hszk];exact Heap.get?_push_size _ rfl
 have ga:(((H1.update (s.heap.objs.size+1) (Obj.mapSeq fun _=>(#[]:Array Value))).push (seqObj "tuple" vs.toArray 0)).push (seqObj "list" #[] 0)).get? (s.heap.objs.size+1)=some (lstObj [] e1):=Heap.get?_push_of_some _ (Heap.get?_push_of_some _ ho1)
 have keep4:∀b o,s.heap.get? b=some o->(((H1.update (s.heap.objs.size+1) (Obj.mapSeq fun _=>(#[]:Array Value))).push (seqObj "tuple" vs.toArray 0)).push (seqObj "list" #[] 0)).get? b=some o:=fun b o q=>by
  have hlt:b<s.heap.objs.size:=Heap.lt_size q
  refine Heap.get?_push_of_some _ (Heap.get?_push_of_some _ ?_)
  rw [Heap.get?_update_ne _ _ _ _ (Nat.ne_of_lt (Nat.lt_succ_of_lt hlt))]
  exact keep b o q
 rw [hszk]
 revert gk ga keep4
 generalize ((H1.update (s.heap.objs.size+1) (Obj.mapSeq fun _=>(#[]:Array Value))).push (seqObj "tuple" vs.toArray 0)).push (seqObj "list" #[] 0)=H4
 intro gk ga keep4
 have hn:∀b∈[s.heap.objs.size+1,s.heap.objs.size+3],s.heap.get? b=none:=fun b hb=>by
  simp only [List.mem_cons,List.not_mem_nil,or_false] at hb
  rcases hb with rfl| rfl
  ·exact hnone _ (Nat.le_add_right _ _)
  ·exact hnone _ (Nat.le_add_right _ _)
 have hne13:s.heap.objs.size+1≠s.heap.objs.size+3:=fun e=>by
  have:=Nat.add_left_cancel e
  cases this
 have ok4:Ok c A.in1.in1 ([s.heap.objs.size+1,s.heap.objs.size+3]++fr) σ H4:=(ok.more keep4 hn (fun b hb=>by
  simp only [List.mem_cons,List.not_mem_nil,or_false] at hb
  rcases hb with rfl| rfl
  ·exact ⟨_,ga⟩
  ·exact ⟨_,gk⟩) (by simp only [List.nodup_cons,List.mem_singleton,List.not_mem_nil,not_false_eq_true,List.nodup_nil,and_true];exact hne13)).around rfl
 have p4:Post [] fr σ s {s with heap:=H4,toks:=s.toks} σ:=Post.keeps keep4
 have r4:Vs (keys σ++([s.heap.objs.size+1,s.heap.objs.size+3]++fr)) H4 (rows.map row) vs:=Vs.move (K:=keys σ++fr) (fun b o _ e=>keep4 b o e) (less_add hn) _ _ r
 unfold ksk_rest
 refine wpAny_bind (wpAny_rule ?_)
 rw [List.forIn_toArray]
 generalize hA:s.heap.objs.size+1=a at*
 generalize hK:s.heap.objs.size+3=kS at*
 have hin:=ok.frames_in
 have mem_a:a∈[a,kS]++fr:=by simp
 have mem_k:kS∈[a,kS]++fr:=by simp
 let J:Nat->Shared->Prop:=fun i s'=>Post [a,kS] ([a,kS]++fr) σ {s with heap:=H4,toks:=s.toks} s' σ/\Ok c A.in1.in1 ([a,kS]++fr) σ s'.heap/\s'.heap.get? a=some (lstObj [] e1)/\
  (∃ks e,s'.heap.get? kS=some (lstObj ks e)/\Vs (keys σ++([a,kS]++fr)) s'.heap ((rows.take i).map keyD) ks)/\Vs (keys σ++([a,kS]++fr)) s'.heap (rows.map row) vs
 refine wpAny_bind (ksk_fold J vs 0 _ ⟨Post.refl ..,ok4,ga,⟨[],0,gk,Vs.nil⟩,r4⟩ (fun j x s' hx hJ=> ?_) fun s' hJ=> ?_)
 ·obtain ⟨q1,okj,gaj,⟨ks,e,gkj,hks⟩,hvs⟩:=hJ
  rw [Nat.zero_add] at hks⊢
  obtain ⟨d,hd1,hx1⟩:=hvs.get hx
  rw [List.getElem?_map] at hd1
  obtain ⟨rw_,hr1,rfl⟩:=Option.map_eq_some_iff.mp hd1
  have hksl:ks.length<=63:=by have:=hks.length;simp at this;exact z958 h64 this
  refine wpAny_bind (wpAny_attempt ?_)
  refine wpAny_mono (hf rw_ (List.mem_of_getElem? hr1) A.in1.in1 ([a,kS]++fr) s' [x] hP okj (Vs.cons hx1 Vs.nil)) (fun k s'' hz=> ?_) fun _ _ x=>(Ex.no x).elim
  obtain ⟨dk,σ',pk,okk,xk,e2,e3⟩:=hz
  have e2':=e2.symm
  subst e2';subst e3
  obtain ⟨sl,gk2,hs2⟩:=pk.slots kS _ mem_k (by simp) gkj
  have gk3:s''.heap.get? kS=some (lstObj ks e):=by rw [hs2 (by intro es n z;cases z)] at gk2;exact gk2
  obtain ⟨sl',ga2,hs2'⟩:=pk.slots a _ mem_a (by simp) gaj
  have ga3:s''.heap.get? a=some (lstObj [] e1):=by rw [hs2' (by intro es n z;cases z)] at ga2;exact ga2
  dsimp only
  refine wpAny_bind (listUpdate_at gk3 rfl ?_ (by rw [List.size_toArray,sizeLine_eq];exact z959 hksl) (Nat.le_trans (Nat.le_of_eq (Array.size_push ..)) (by rw [List.size_toArray,sizeLine_eq];exact z960 hksl)))
  refine wpAny_pure ⟨rfl,?_⟩
  have ea:ks.toArray.push k=(ks++[k]).toArray:=by simp
  obtain ⟨c2,hc2⟩:∃c2,(s''.heap.update kS (Obj.mapSeq (·.push k))).get? kS=some (lstObj (ks++[k]) c2):=⟨_,by have:=get?_update_seq gk3 (·.push k);rw [ea] at this;exact this⟩
  have kp:∀b o,b≠kS->s''.heap.get? b=some o->(s''.heap.update kS (Obj.mapSeq (·.push k))).get? b=some o:=fun b o hb q=>by rw [Heap.get?_update_ne _ _ _ _ hb];exact q
  have ow:Ow [a,kS] s''.heap (s''.heap.update kS (Obj.mapSeq (·.push k))):=⟨fun b o hb q=>kp b o (fun e=>hb (by rw [e];simp)) q,fun b hb=>by
   simp only [List.mem_cons,List.not_mem_nil,or_false] at hb
   rcases hb with rfl| rfl
   ·exact ⟨_,kp _ _ hne13 ga3⟩
   ·exact ⟨_,hc2⟩⟩
  have pw:Post [a,kS] ([a,kS]++fr) σ s'' {s'' with heap:=s''.heap.update kS (Obj.mapSeq (·.push k)),toks:=s''.toks} σ:=Post.ow (F:=[]) (tk:=s''.toks) ow
  have stw:Stay (keys σ++([a,kS]++fr)) s''.heap (s''.heap.update kS (Obj.mapSeq (·.push k))):=pw.stay
  refine ⟨(q1.trans (pk.wide (by simp))).trans pw,okk.ow (fun b hb o q es n=> ?_) ow,kp _ _ hne13 ga3,⟨_,c2,hc2,?_⟩,pw.vs (pk.vs hvs)⟩
  ·simp only [List.mem_cons,List.not_mem_nil,or_false] at hb
   rcases hb with rfl| rfl
   ·rw [ga3] at q;cases q;exact fun z=>by cases z
   ·rw [gk3] at q;cases q;exact fun z=>by cases z
  ·exact Vs.snocMap (pw.vs (pk.vs hks)) hr1 (pw.v xk)
 ·obtain ⟨q1,okj,gaj,⟨ks,e,gkj,hks⟩,hvs⟩:=hJ
  rw [Nat.zero_add,hlen,List.take_length] at hks
  have hksl:ks.length=rows.length:=by have:=hks.length;simpa using this
  refine wpAny_bind (listItems_at gkj rfl ?_)
  refine sort_end (by show A.units+1+1+12<cLine;exact z961 hu) h64 hks hlen fun st hst ⟨l,l1,l2,l3,l4,l5⟩=> ?_
  unfold ksk_tail
  dsimp only
  rw [l3]
  refine wpAny_bind (listUpdate_at gkj rfl ?_ (by rw [List.size_toArray,sizeLine_eq];exact z957 h64 hksl) (Nat.zero_le _))
  refine wpAny_bind (wpAny_letGo ?_)
  have kp:∀b o,b≠kS->s'.heap.get? b=some o->(s'.heap.update kS (Obj.mapSeq fun _=> #[])).get? b=some o:=fun b o hb q=>by rw [Heap.get?_update_ne _ _ _ _ hb];exact q
  obtain ⟨ck,hck⟩:∃ck,(s'.heap.update kS (Obj.mapSeq fun _=>(#[]:Array Value))).get? kS=some (lstObj [] ck):=⟨_,get?_update_seq gkj fun _=> #[]⟩
  have ga5:=kp _ _ hne13 gaj
  refine wpAny_bind (seqEpoch_at ga5 rfl ?_)
  refine wpAny_bind (listUpdate_at ga5 rfl ?_ (Nat.zero_le _) (Nat.le_trans (Nat.le_of_eq (by simp [l2])) (by rw [sizeLine_eq];exact z962 h64:rows.length<=sizeLine+1)))
  rw [hst]
  simp only [bne_self_eq_false,Bool.false_eq_true,if_false]
  refine wpAny_pure ⟨_,rfl,wpAny_pure ⟨_,rfl,?_⟩⟩
  obtain ⟨cz,hcz⟩:∃cz,((s'.heap.update kS (Obj.mapSeq fun _=>(#[]:Array Value))).update a (Obj.mapSeq fun _=>(l.map fun i=>vs.getD i Value.none).toArray)).get? a=some (lstObj (l.map fun i=>vs.getD i Value.none) cz):=⟨_,get?_update_seq ga5 fun _=>(l.map fun i=>vs.getD i Value.none).toArray⟩
  have kp2:∀b o,b∉[a,kS]->s'.heap.get? b=some o->((s'.heap.update kS (Obj.mapSeq fun _=>(#[]:Array Value))).update a (Obj.mapSeq fun _=>(l.map fun i=>vs.getD i Value.none).toArray)).get? b=some o:=fun b o hb q=>by
   simp only [List.mem_cons,List.not_mem_nil,or_false,not_or] at hb
   rw [Heap.get?_update_ne _ _ _ _ hb.1]
   exact kp b o hb.2 q
  have ow:Ow [a,kS] s'.heap ((s'.heap.update kS (Obj.mapSeq fun _=>(#[]:Array Value))).update a (Obj.mapSeq fun _=>(l.map fun i=>vs.getD i Value.none).toArray)):=⟨kp2,fun b hb=>by
   simp only [List.mem_cons,List.not_mem_nil,or_false] at hb
   rcases hb with rfl| rfl
   ·exact ⟨_,hcz⟩
   ·refine ⟨lstObj [] ck,?_⟩
    rw [Heap.get?_update_ne _ _ _ _ (fun e=>hne13 e.symm)];exact hck⟩
  have pw:Post [a,kS] ([a,kS]++fr) σ s' {s' with heap:=(s'.heap.update kS (Obj.mapSeq fun _=>(#[]:Array Value))).update a (Obj.mapSeq fun _=>(l.map fun i=>vs.getD i Value.none).toArray),toks:=s'.toks} σ:=Post.ow (F:=[]) (tk:=s'.toks) ow
  have okw:Ok c A ([a]++([kS]++fr)) σ ((s'.heap.update kS (Obj.mapSeq fun _=>(#[]:Array Value))).update a (Obj.mapSeq fun _=>(l.map fun i=>vs.getD i Value.none).toArray)):=(okj.ow (fun b hb o q es n=>by
   simp only [List.mem_cons,List.not_mem_nil,or_false] at hb
   rcases hb with rfl| rfl
   ·rw [gaj] at q;cases q;exact fun z=>by cases z
   ·rw [gkj] at q;cases q;exact fun z=>by cases z) ow).around rfl
  have pf:Post (Fo none) fr σ s {s' with heap:=(s'.heap.update kS (Obj.mapSeq fun _=>(#[]:Array Value))).update a (Obj.mapSeq fun _=>(l.map fun i=>vs.getD i Value.none).toArray),toks:=s'.toks} σ:=Post.drop (F:=[]) p4 hn (q1.trans pw)
  have hvz:Vs (keys σ++([a]++fr)) ((s'.heap.update kS (Obj.mapSeq fun _=>(#[]:Array Value))).update a (Obj.mapSeq fun _=>(l.map fun i=>vs.getD i Value.none).toArray)) ((l.map fun i=>rows.getD i []).map row) (l.map fun i=>vs.getD i Value.none):=by
   have:=(pw.vs hvs).picked l l1
   exact Vs.move (K:=keys σ++([a,kS]++fr)) (fun b o _ q=>q) (fun b hb=>.inl (by
    simp only [List.mem_append,List.mem_cons,List.not_mem_nil,or_false] at hb⊢
    rcases hb with hb| hb| hb
    ·exact .inl hb
    ·exact .inr (.inl (.inl hb))
    ·exact .inr (.inr hb))) _ _ this
  exact QL.use (G:=none) (h _ l4 l5) pf (Ok.less (ex:=[a]) okw hin) hin hcz hvz (hn a (by simp))
end
end Mine
set_option maxHeartbeats 1000000
namespace Mine
open PySem PySem.Calls PyProof.Rows PySem.W PySem.SeqAt
theorem Room.in2 {n:Nat}{A:Around}(r:Room (n+1) A):Room n A.in1.in1:=by
 obtain ⟨⟨h1,h2⟩,h3⟩:=r
 refine ⟨⟨?_,?_⟩,h3⟩
 ·exact z963 h1
 ·exact z964 h2
section
variable {c:Cx} {A:Around} {fr:List Addr} {σ:Sto} {X:Addr->Sto->Prop} {Q:D->Sto->Prop} {env:Env} {m:Vars} {B:List Stmt} {bs:List (Str × Value)}
inductive SrtQ (c:Cx)(k:Str)(n:Nat)(Q:D->Sto->Prop)(d:D)(σ1:Sto):Prop
 | mk (sd:SD) (rows:List (List Int)) (e:d=sd.d) (hL:sd.isL=true) (hds:sd.ds=rows.map row) (inv:sd.inv σ1) (h64:rows.length<64) (hf:∀r∈rows,WF c (Room (n+1)) k [row r] σ1 (fun d σ'=>σ'=σ1/\d=keyD r) NoX)
   (hq:∀out:List (List Int),out.Perm rows->out.Pairwise keyLe->QL Q (out.map row) σ1):SrtQ c k n Q d σ1
theorem WE.sorted (T:Tp c B bs){f x k:Str}{fp np kp kpos pos:Pos}{n:Nat}(r:Room (n+2) A)(hk:env.kindOf f=some .globalImplicit)(hb:bs.lookup f=some (.builtin "sorted"))(hk2:env.kindOf k=some .globalImplicit)(hdf:Dfn c k)
  (h:WE c A fr env m σ (.Name x np) (SrtQ c k n Q) X) (hdb:(f==("__debug__":Str))=false:=by decide) (hdb2:(k==("__debug__":Str))=false:=by decide):
  WE c A fr env m σ (.Call (.Name f fp) [.Name x np] [⟨some (Str.ofString "key"),.Name k kp,kpos⟩] pos) Q X:=fun s ok fm=>by
 obtain ⟨a,o,fd,g1,g2,g3⟩:=hdf
 refine wpAny_bind (Name_function_global fm.kind hk (loadGlobal_builtin (by rw [fm.glob];exact T.good.g.keeps ok.base) (T.bn _ _ hb).1 (by rw [fm.bui];exact T.good.b.keeps ok.base) (T.bn _ _ hb).2 ?_) hdb)
 refine callWith_kw ?_
 refine wpAny_mono ((WA.cons (h.mono (fun d σ1 q=>WA.nil ⟨d,rfl,q⟩) fun _ _ y=>y):WA c A fr env m σ [.Name x np] (fun ds σ1=>∃d,ds=[d]/\SrtQ c k n Q d σ1) X) pos s ok fm) (fun vs s1 hz=> ?_) fun _ _ y=>y
 obtain ⟨ds,σ1,p1,ok1,x1,d,e1,sd,rows,e2,hL,hds,inv,h64,hf,hq⟩:=hz
 subst e1;subst e2
 obtain ⟨v,us,rfl,xv,x2⟩:=x1
 subst x2
 show wpAny _ A (evalAll [do let v<-eval (.Name k kp) env;standAt pos;pure v]) _ _ s1
 refine evalAll_cons (wpAny_bind ?_)
 have fm1:=fm.move p1
 refine Name_function_global fm1.kind hk2 (loadGlobal_global (by rw [fm1.glob];exact T.good.g.keeps ok1.base) g1 ?_) hdb2
 refine wpAny_bind (wpAny_standAt (wpAny_pure (evalAll_nil ?_)))
 refine wpAny_mono (call_sortedK (P:=Room (n+1)) hL hds inv h64 (by exact z966 (r.1.2) (rfl)) r.in2 (fun r hr=>hf r hr a g1) ok1 xv hq) (fun _ _ z=>z.back p1) fun _ _ x=>Ex.back p1 x fun _ _ y=>y
end
end Mine
namespace Mine
open PySem PySem.Calls PyProof.Rows PySem.W PySem.SeqAt
theorem freeOk_of {env:Env}{scope sc:Scope}(h:env.scope=sc)(e:freeOk scope sc=true):freeOk scope env.scope=true:=by rw [h];exact e
theorem relab_of {cenv env:Env}{scope sc:Scope}(h:cenv.scope=relab scope env.scope)(e:env.scope=sc):cenv.scope=relab scope sc:=by rw [h,e]
section
variable {c:Cx} {A:Around} {fr:List Addr} {σ:Sto} {X:Addr->Sto->Prop} {Q:D->Sto->Prop} {env:Env} {m:Vars}
theorem WU.notB {b:Bool}(h:Q (.bool (!b)) σ):WU c A fr σ (unaryOp .Not) (.bool b) Q X:=fun v s ok x=>by
 subst x
 exact not_value (wpAny_truthy_bool ⟨_,σ,Post.refl ..,ok,V.ofBool,h⟩)
end
theorem mulOk_left {a b:Int}(h:a.natAbs<2^64):IntMulOk a b:=IntMulOk.of_left (intBits_le h)
theorem mulOk_right {a b:Int}(h:b.natAbs<2^64):IntMulOk a b:=IntMulOk.of_right (intBits_le h)
theorem eqv_all (xs:List Int):∀ys:List Int,PyData.eqvAll (xs.map .int) (ys.map .int)=decide (xs=ys):=by
 induction xs with
 | nil=>intro ys;cases ys<;>rfl
 | cons x xs ih=>
  intro ys
  cases ys with
  | nil=>rfl
  | cons y ys=>
   simp only [List.map_cons,PyData.eqvAll,ih ys,PyData.eqv]
   by_cases h1:x=y<;>by_cases h2:xs=ys<;>simp [h1]
theorem eqv_ints {xs ys:List Int}:PyData.eqv (.list (xs.map .int)) (.list (ys.map .int))=decide (xs=ys):=eqv_all xs ys
theorem Py.row {xs:List Int}{n:Nat}:Py (n+2) (row xs) (.tuple (xs.map .int)):=.tup (.map fun _ _=>.int)
theorem Py.ints {xs:List Int}{n:Nat}:Py (n+2) (.lst (xs.map .int)) (.list (xs.map .int)):=.lst (.map fun _ _=>.int)
theorem PyAll.rows {xs:List (List Int)}{n:Nat}:PyAll (n+2) (xs.map row) (xs.map fun r=>.tuple (r.map .int)):=.map fun _ _=>Py.row
end Mine
namespace Mine
open PySem PySem.Calls PyProof.Rows PySem.W PySem.SeqAt
section
variable {c:Cx} {A:Around} {fr:List Addr} {σ:Sto} {X:Addr->Sto->Prop} {Q:D->Sto->Prop} {env:Env} {m:Vars} {N:Vars->Sto->Prop} {R:D->Sto->Prop}
theorem kinds1 {x:Str}{d:D}(h:env.kindOf x=some .local\/env.kindOf x=some .cell):∀y∈[(x,d)],env.kindOf y.1=some .local\/env.kindOf y.1=some .cell:=fun y hy=>by
 rw [List.mem_singleton] at hy;subst hy;exact h
theorem kinds2 {x z:Str}{d e:D}(h:env.kindOf x=some .local\/env.kindOf x=some .cell)(h2:env.kindOf z=some .local\/env.kindOf z=some .cell):∀y∈[(x,d),(z,e)],env.kindOf y.1=some .local\/env.kindOf y.1=some .cell:=fun y hy=>by
 rcases List.mem_cons.mp hy with rfl| hy
 ·exact h
 ·exact kinds1 h2 y hy
theorem Loop.of {α:Type}{l:List α}{g:α->Vars}{Inv:Sto->Prop}{body:List Stmt}(L:Nat->Vars->Sto->Prop)(hk:∀i∈l,∀y∈g i,env.kindOf y.1=some .local\/env.kindOf y.1=some .cell)(h0:L 0 m σ)(hinv:∀k m' σ',L k m' σ'->Inv σ')
  (step:∀k i m' σ',l[k]? =some i->L k m' σ'->∀fr',WS c A fr' env (g i++m') σ' body (fun m'' σ''=>L (k+1) m'' σ'') R X) (fin:∀m' σ',L l.length m' σ'->N m' σ'):Loop c A env m body N R X (l.map g) Inv σ:=by
 refine ⟨fun x hx=> ?_,L,h0,hinv,fun k x m' σ' hx hL fr'=> ?_,fun m' σ' hL=>fin m' σ' (by rwa [List.length_map] at hL)⟩
 ·obtain ⟨i,hi,rfl⟩:=List.mem_map.mp hx
  exact hk i hi
 ·rw [List.getElem?_map] at hx
  obtain ⟨i,hi,rfl⟩:=Option.map_eq_some_iff.mp hx
  exact step k i m' σ' hi hL fr'
theorem W1.forL {tg iter:Expr}{body:List Stmt}{pos:Pos}{sc:Scope}(fe:Fe A env sc)(h:WIt c A fr env m σ iter tg (Loop c A env m body N R X) X)(hs:∀x,foldedSetIterable iter env x=pure x:=by intro _;rfl):W1 c A fr env m σ (.For tg iter body [] pos) N R X:=
 W1.for_ fe.stack fe.frame h hs
end
theorem ite_t {P Q:Prop}(h:P):if true=true then P else Q:=by rw [if_pos rfl];exact h
theorem ite_f {P Q:Prop}(h:Q):if false=true then P else Q:=by rw [if_neg (by simp)];exact h
section
variable {c:Cx} {A:Around} {fr:List Addr} {σ:Sto} {X:Addr->Sto->Prop} {Q:D->Sto->Prop} {a b:Int}
theorem WB.modE (hb:0<b)(hs:b.natAbs<2^64)(h:Q (.int (a % b)) σ):WB c A fr σ (binaryOp .Mod) (.int a) (.int b) Q X:=
 WB.mod (z775 hb) hs (by exact (Int.fmod_eq_emod_of_nonneg a (z275 hb))▸h)
theorem WB.fdivE (hb:0<b)(hs:b.natAbs<2^64)(h:Q (.int (a/b)) σ):WB c A fr σ (binaryOp .FloorDiv) (.int a) (.int b) Q X:=
 WB.fdiv (z775 hb) hs (by exact (Int.fdiv_eq_ediv_of_nonneg a (z275 hb))▸h)
end
section
variable {c:Cx} {A:Around} {fr:List Addr} {σ:Sto} {X:Addr->Sto->Prop} {Q:D->Sto->Prop}
theorem WSb.at {value slice:Expr}{sd:SD}{i:Int}{k:Nat}{d:D}(e:i=(k:Int))(inv:sd.inv σ)(hk:sd.ds[k]? =some d)(hk2:k<2^60)(h:Q d σ)
  (hs:∀l u,subscripted slice false (.ref l) (.int i u)=operate [.ref l,.int i u] (getItem (.ref l) (.int i u)):=by intro _ _;with_unfolding_all rfl):WSb c A fr σ value slice sd.d (.int i) Q X:=by
 subst e
 refine WSb.item inv z967 (z968 hk2) z969 ?_ h hs
 have:¬((k:Int)<0):=z619
 exact hk
end
section
variable {c:Cx} {A:Around} {fr:List Addr} {σ:Sto} {X:Addr->Sto->Prop} {Q:D->Sto->Prop} {env:Env} {m:Vars} {N:Vars->Sto->Prop} {R:D->Sto->Prop}
theorem QO.mono {J N:Vars->Sto->Prop}{R:D->Sto->Prop}(k:∀m' σ',J m' σ'->N m' σ'){b:Out}{σ:Sto}(h:QO J R b σ):QO N R b σ:=by
 cases b with
 | next m=>exact k _ _ h
 | ret d=>exact h
theorem W1.join {st:Stmt}(J:Vars->Sto->Prop)(h:W1 c A fr env m σ st J R X)(k:∀m' σ',J m' σ'->N m' σ'):W1 c A fr env m σ st N R X:=fun s ok fm=>
 (h s ok fm).mono (fun b σ' q=>QO.mono k q) fun _ _ x=>x
theorem WPt.some {e:Expr}{Q:Option Int->Sto->Prop}(h:WE c A fr env m σ e (fun d σ1=>∃i,d=.int i/\Q (Option.some i) σ1) X):WPt c A fr env m σ (Option.some e) Q X:=h
theorem WPt.none {Q:Option Int->Sto->Prop}(h:Q Option.none σ):WPt c A fr env m σ Option.none Q X:=h
end
end Mine
namespace Mine
open PySem PySem.Calls PyProof.Rows PySem.W PySem.SeqAt
theorem Vs.ofWell {P:Params}{h:Heap}:∀{S:List Int} {vs:List Value},WellAll P h vs (S.map WData.int)->Vs [] h (S.map D.int) vs
 | [],vs,x=>by
  cases x
  exact Vs.nil
 | i::S,vs,x=>by
  cases x with
  | cons x1 x2=>
   cases x1
   exact Vs.cons V.ofInt (Vs.ofWell x2)
theorem V.ofWell {P:Params}{h:Heap}{S:List Int}{v:Value}(x:Well P h v (.list (S.map WData.int))):V [] h (.lst (S.map .int)) v:=by
 cases x with
 | list g x=>exact ⟨_,_,0,rfl,by simp,g,Vs.ofWell x⟩
theorem ofPys_ints:∀S:List Int,ofPys (S.map PyData.int)=S.map WData.int
 | []=>rfl
 | i::S=>by simp only [List.map_cons,ofPys,ofPy,ofPys_ints S]
noncomputable def bnOk (view:Program)(loose:List Str)(x:Str):Bool:=
 !startupNames.contains x&& !loose.contains x&& !((recsOf view).map (·.name)).contains x&& !((litsOf view).map (·.1)).contains x&& !((clssOf view loose).map (·.name)).contains x&&x !=("__name__":Str)
theorem Tp.ofTop {view:Program}{loose:List Str}{mean:ExcName->Option Value}{c:Cx}{B:List Stmt}{bs:List (Str × Value)}(T:Top view loose mean c.mg c.mb c.h0)(hp:recsOf view=B.filterMap recOf)(hb:(bs.all fun p=>bnOk view loose p.1)=true)(hv:bs.map (fun p=>bootBuiltins p.1)=bs.map fun p=>some p.2):Tp c B bs where
 good:=⟨T.g,T.b⟩
 nolimit:=T.nolimit
 fn:=fun d hd=>by exact T.fn d (hp▸hd)
 bn:=fun x v hx=>by
  have hm:(x,v)∈bs:=by
   clear hb hv
   induction bs with
   | nil=>contradiction
   | cons q r ih=>
    obtain ⟨y,u⟩:=q
    dsimp only [List.lookup_cons] at hx
    by_cases e:x=y
    ·subst e
     have:u=v:=by simpa using hx
     subst this;exact .head _
    ·have e':(x==y)=false:=by simpa using e
     rw [e'] at hx
     exact .tail _ (ih hx)
  have h1:=List.all_eq_true.mp hb _ hm
  simp only [bnOk,Bool.and_eq_true,Bool.not_eq_true',bne_iff_ne,ne_eq,List.contains_eq_mem,decide_eq_false_iff_not] at h1
  obtain ⟨⟨⟨⟨⟨a1,a2⟩,a3⟩,a4⟩,a5⟩,a6⟩:=h1
  refine ⟨T.free x a1 a2 a3 a4 a5,?_⟩
  rw [T.builtins x a6]
  obtain ⟨i,hi,e⟩:=List.mem_iff_getElem.mp hm
  have:=congrArg (fun l=>l[i]?) hv
  simp only [List.getElem?_map,List.getElem?_eq_getElem hi,e] at this
  simpa using this
theorem last {c:Cx}{claim:ClaimW}{cl:Str->Option Addr}{mean:ExcName->Option Value}{args:List WData}{name:Str}{fa:Addr}{l:Value}{S:List Int}{s₁:Shared}{k:Nat}(hw:WF c (Room k) name [.lst (S.map .int)] [] (fun d _=>d=.bool true) NoX)(hk:k<=600)(hmg:c.mg name=some (.ref fa))(hV:V [] s₁.heap (.lst (S.map .int)) l)(h0:c.h0=s₁.heap)(hg:s₁.gens= #[])
  (hpost:claim.post args (.bool true) args=true) (hr:∀cls,claim.raises args cls=false):wpAny (model c.prog c.w) callerA (call (.ref fa) [l]) (fun v s'=>GoodWG claim cl mean args s₁ (.ok (.ret v)) s') (fun e s'=>GoodWG claim cl mean args s₁ (.error e) s') s₁:=by
 have room:Room k callerA:=by
  refine ⟨⟨?_,?_⟩,rfl⟩
  ·exact z970 hk
  ·exact z971 hk
 refine wpAny_mono (hw fa hmg callerA [] s₁ [l] room (⟨fun b o e=>by exact (h0▸e),fun p hp=>(by contradiction),(by simp [keys]),fun a ha=>(by simp [keys] at ha),fun a ha=>(by contradiction),⟨[],rfl,trivial,fun b hb=>(by simp at hb),fun b hb=>(by simp at hb)⟩⟩) (Vs.cons hV Vs.nil)) (fun v s' hz=> ?_) fun _ _ x=>(Ex.no x).elim
 obtain ⟨d,σ,p,ok',x,e⟩:=hz
 subst e
 subst x
 refine GoodW.toG ⟨.inl ⟨_,.bool true,[],rfl,hr,.bool true,hpost,fun _=>⟨List.nodup_nil,fun a ha=>by contradiction⟩⟩,fun b o e=>p.kept b o (by simp [keys]) e,?_,?_⟩
 ·obtain ⟨h,tk,rfl⟩:=p.shape;rfl
 ·obtain ⟨h,tk,rfl⟩:=p.shape;exact hg
theorem post_ok (l:OpenLaw)(args ds:List WData):l.row.claim.post args (.bool true) ds=true:=by
 dsimp only [RowW.claim,OpenLaw.row]
 simp only [Bool.and_eq_true]
 constructor
 ·rfl
 ·unfold WTm.holds
  simp [WTm.value,same]
theorem raises_ok (l:OpenLaw)(args:List WData)(cls:ExcName):l.row.claim.raises args cls=false:=rfl
end Mine
set_option maxHeartbeats 1000000
namespace Mine
open PySem PySem.Calls PyProof.Rows PySem.W
theorem lookIn_of {o:Obj}{es:Array DictEntry}{ep:Nat}{mA:Str->Option Value}(hd:o.data=.dict es ep)(hk:StrKeys es)(hf:∀n,nsFind es n=mA n)(x:Str):lookIn x o=some (mA x):=by
 unfold lookIn
 rw [hd]
 dsimp only
 rw [<-hf x]
 delta nsFind findBy
 obtain ⟨l⟩:=es
 rw [List.find?_toArray]
 cases h:l.find? (fun e=>e.key.isStr x) with
 | some e=>rfl
 | none=>
  have:l.any (·.refKey)=false:=by
   rw [List.any_eq_false];intro e he
   obtain ⟨n,t,q⟩:=hk e (by simpa using he)
   unfold DictEntry.refKey;rw [q];simp
  simp [this]
structure Ks (c:Cx)(K:Frag)(C:Addr)(cn:Str)(Bd:List Stmt):Prop where
 inn:K.In c.h0
 name:c.mg cn=some (.ref C)
 get:findIn K (.ref C) "__getattribute__"=some (some (.builtin "object.__getattribute__"))
 geta:findIn K (.ref C) "__getattr__"=some none
 dict:hasDictIn K C=true
 makes:makesIn K C=true
 keep:keepIn K (.ref C)=true
 over:plainOver K C=true
 seta:findIn K (.ref C) "__setattr__"=some (some (.builtin "object.__setattr__"))
 size:findIn K (.ref C) "size"=some none
 rules:findIn K (.ref C) "rules"=some none
 meth:∀d∈Bd.filterMap recOf,∃f o pm code doc qual,findIn K (.ref C) d.name=some (some (.ref f))/\typeIn K (.ref f)=some (.type "function")/\keepIn K (.ref f)=true/\c.h0.get? f=some o/\
  o.data=.func {docDef d.name d.params d.body d.scope pm code doc with qualname:=qual}/\c.h0.CodeRec code qual
section
variable {c:Cx} {K:Frag} {C:Addr} {cn:Str} {Bd:List Stmt}
noncomputable def WM (c:Cx)(K:Frag)(C:Addr)(P:Around->Prop)(name:Str)(ds:List D)(σ:Sto)(Q:D->Sto->Prop)(X:Addr->Sto->Prop):Prop:=
 ∀f,findIn K (.ref C) name=some (some (.ref f))->WD c P (.ref f) ds σ Q X
noncomputable def Mth (K:Frag)(C:Addr)(name:Str):Prop:=∃f,findIn K (.ref C) name=some (some (.ref f))/\typeIn K (.ref f)=some (.type "function")/\keepIn K (.ref f)=true
variable {A:Around} {fr:List Addr} {σ:Sto} {X:Addr->Sto->Prop} {Q:D->Sto->Prop} {env:Env} {m:Vars} {B:List Stmt} {bs:List (Str × Value)}
theorem WM.by {name:Str}{params:Arguments}{body:List Stmt}{scope:Scope}{dpos:Pos}(i:Nat){ps:List Str}{n:Nat}{ds:List D}(T:Tp c B bs)(S:Ks c K C cn Bd)(hd:(Bd[i]?).bind recOf=some ⟨name,params,body,scope,dpos⟩)
  (hb:∀pm code doc qual vals,vals.length=ps.length->bindArgs {docDef name params body scope pm code doc with qualname:=qual} ⟨vals,[]⟩=pure (ps.zip vals)) (hok:fnOk scope ps=true) (hl:ds.length=ps.length)
  (h:∀A fr env,Room n A->A.handled=none->env.scope=scope->Fe A env scope->WS c A (Fa env++fr) env (ps.zip ds) σ body (fun _ σ'=>Q .none σ') Q X):WM c K C (Room (n+1)) name ds σ Q X:=fun f hf=>by
 obtain ⟨f',o,pm,code,doc,qual,h1,_,_,h2,h3,h4⟩:=S.meth _ (rec_mem hd)
 replace hf:=(h1 ..).symm.trans hf;cases hf
 simp only [fnOk,Bool.and_eq_true,decide_eq_true_eq,List.all_eq_true,Bool.or_eq_true,beq_iff_eq,bne_iff_ne,Bool.not_eq_true'] at hok
 obtain ⟨⟨⟨⟨⟨⟨k1,k2⟩,k3⟩,k4⟩,k5⟩,k6⟩,k7⟩:=hok
 refine WD.of (P':=Room n) (ps:=ps) (body:=body) (scope:=scope) ⟨⟨o,_,h2,h3,rfl,rfl,rfl,rfl,rfl,h4,hb pm code doc qual⟩,T.nolimit,k1,k2,k3,fun x e=> ?_,k5,k6,k7⟩ (fun A env r=>⟨?_,r.deeper⟩) hl fun A fr env r fe=>h A fr env r r.2 fe.scope fe
 ·obtain ⟨y,hy⟩:=lookup_mem' e
  exact k4 _ hy rfl
 ·exact z870 (r.1.1) (rfl)
theorem mbind1 {name x:Str}{params:Arguments}{body:List Stmt}{scope:Scope}(h:∀pm code doc qual a,bindArgs {docDef name params body scope pm code doc with qualname:=qual} ⟨[a],[]⟩=pure ([x].zip [a])):∀pm code doc qual vals,vals.length=[x].length->bindArgs {docDef name params body scope pm code doc with qualname:=qual} ⟨vals,[]⟩=pure ([x].zip vals):=fun pm code doc qual vals e=>by
 obtain ⟨a,rfl⟩:=List.length_eq_one_iff.mp e
 exact h pm code doc qual a
theorem mbind2 {name x y:Str}{params:Arguments}{body:List Stmt}{scope:Scope}(h:∀pm code doc qual a b,bindArgs {docDef name params body scope pm code doc with qualname:=qual} ⟨[a,b],[]⟩=pure ([x,y].zip [a,b])):∀pm code doc qual vals,vals.length=[x,y].length->bindArgs {docDef name params body scope pm code doc with qualname:=qual} ⟨vals,[]⟩=pure ([x,y].zip vals):=fun pm code doc qual vals e=>by
 obtain ⟨a,b,rfl⟩:=len2 e
 exact h pm code doc qual a b
theorem mbind3 {name x y z:Str}{params:Arguments}{body:List Stmt}{scope:Scope}(h:∀pm code doc qual a b d,bindArgs {docDef name params body scope pm code doc with qualname:=qual} ⟨[a,b,d],[]⟩=pure ([x,y,z].zip [a,b,d])):∀pm code doc qual vals,vals.length=[x,y,z].length->bindArgs {docDef name params body scope pm code doc with qualname:=qual} ⟨vals,[]⟩=pure ([x,y,z].zip vals):=fun pm code doc qual vals e=>by
 obtain ⟨a,b,d,rfl⟩:=len3 e
 exact h pm code doc qual a b d
theorem WM.at {k n:Nat}{f:Str}{ds:List D}(h:WM c K C (Room k) f ds σ Q X)(hk:k<=n):WM c K C (Room n) f ds σ Q X:=fun a ha A fr s vals hA ok hv=>h a ha A fr s vals (hA.mono hk) ok hv
theorem V.inst {Kk:List Addr}{h:Heap}{sz ru:D}{v:Value}(x:V Kk h (.sys C sz ru) v):∃(a:Addr) (ox od:Obj) (v1 v2:Value) (mA:Str->Option Value),v=.ref a/\InstAt h a ox C (some od)/\(∀x,lookIn x od=some (mA x))/\mA "size"=some v1/\mA "rules"=some v2/\(∀x:Str,x≠"size"->x≠"rules"->mA x=none)/\V Kk h sz v1/\V Kk h ru v2:=by
 obtain ⟨a,dx,v1,v2,mA,rfl,nk,nd,g,⟨od,es,ep,gd,hd,hk,hf⟩,f1,f2,f3,r1,r2⟩:=x
 exact ⟨a,_,od,v1,v2,mA,rfl,⟨g,rfl,rfl,gd⟩,lookIn_of hd hk hf,f1,f2,f3,r1,r2⟩
theorem v_handed {Kk:List Addr}{h:Heap}{d:D}{v:Value}(x:V Kk h d v):handedIn v=true:=by
 cases d<;>skip
 case none=>subst x;rfl
 case bool=>subst x;rfl
 case int=>obtain ⟨t,rfl⟩:=x;rfl
 case str=>obtain ⟨t,rfl⟩:=x;rfl
 case tup=>obtain ⟨a,vs,n,rfl,_⟩:=x;rfl
 case lst=>obtain ⟨a,vs,n,rfl,_⟩:=x;rfl
 case sys=>obtain ⟨a,dx,v1,v2,mA,rfl,_⟩:=x;rfl
 case own=>obtain ⟨a,rfl,_⟩:=x;rfl
 case exc=>obtain ⟨a,o,vs,rfl,_⟩:=x;rfl
 case typ=>subst x;rfl
 case ref=>subst x;rfl
theorem WE.attr (S:Ks c K C cn Bd){o:Expr}{name:Str}{pos:Pos}(h:WE c A fr env m σ o (fun d σ1=>∃sz ru,d=.sys C sz ru/\((name="size"/\Q sz σ1)\/(name="rules"/\Q ru σ1))) X)(hb:∀w,attributeBase o name env w=w:=by intro _;rfl):
  WE c A fr env m σ (.Attribute o name pos) Q X:=fun s ok fm=>by
 rw [arm_eval_Attribute,hb]
 refine wpAny_bind (wpAny_mono (h s ok fm) (fun ov s1 hz=> ?_) fun _ _ x=>x)
 obtain ⟨d,σ1,p1,ok1,x1,sz,ru,hd,q1⟩:=hz
 subst hd
 refine wpAny_bind (wpAny_standAt (wpAny_bind (wpAny_holding ?_)))
 obtain ⟨a,ox,od,v1,v2,mA,rfl,I,hl,f1,f2,f3,r1,r2⟩:=x1.inst
 have X1:=S.inn.keeps ok1.base
 rcases q1 with ⟨rfl,q1⟩| ⟨rfl,q1⟩
 ·refine get_value X1 I S.get (findObj_own S.dict S.size rfl (by rw [hl,f1])) (v_handed r1) ?_
  refine wpAny_bind (wpAny_letTemporaryGo (wpAny_pure ⟨sz,σ1,p1.trans (Post.tok ..),ok1,r1,q1⟩))
 ·refine get_value X1 I S.get (findObj_own S.dict S.rules rfl (by rw [hl,f2])) (v_handed r2) ?_
  refine wpAny_bind (wpAny_letTemporaryGo (wpAny_pure ⟨ru,σ1,p1.trans (Post.tok ..),ok1,r2,q1⟩))
theorem WE.callM (S:Ks c K C cn Bd){o:Expr}{name:Str}{apos pos:Pos}{args:List Expr}{n:Nat}(r:Room n A)(hf:Mth K C name)
  (h:WE c A fr env m σ o (fun d σ1=>∃sz ru,d=.sys C sz ru/\WA c A fr env m σ1 args (fun ds σ2=>WM c K C (Room n) name (d::ds) σ2 Q X) X) X) (h1:name≠"size":=by decide) (h2:name≠"rules":=by decide)
  (hp:plainArgs args=true:=by rfl) (hb:∀w,attributeBase o name env w=w:=by intro _;rfl) (hl:(apos.endLine==pos.line)=true:=by rfl) (hn:decide (args.length<30)=true:=by rfl):
  WE c A fr env m σ (.Call (.Attribute o name apos) args [] pos) Q X:=fun s ok fm=>by
 have hst:=plainArgs_starEach (env:=env) (pos:=pos) hp
 show wpAny _ A (do let ov<-attributeBase o name env (eval o env);standAt apos.atName;methodCall o name apos pos env ov (args.length+([]:List Keyword).length) (backTo pos (starEach args env)) (backToKw pos (keywordEach [] env))) _ _ s
 rw [hb]
 refine wpAny_bind (wpAny_mono (h s ok fm) (fun ov s1 hz=> ?_) fun _ _ x=>x)
 obtain ⟨d,σ1,p1,ok1,x1,sz,ru,hd,q1⟩:=hz
 subst hd
 refine wpAny_bind (wpAny_standAt ?_)
 obtain ⟨a,ox,od,v1,v2,mA,rfl,I,hlk,f1,f2,f3,r1,r2⟩:=x1.inst
 obtain ⟨f,g1,g2,g6⟩:=hf
 have few:methodCallForm (args.length+([]:List Keyword).length) (backTo pos (starEach args env)) (backToKw pos (keywordEach [] env))=true:=by
  unfold methodCallForm
  have a3:backToKw pos (keywordEach [] env)=[]:=rfl
  rw [(List.all_eq_true.mpr fun x hx=>by rw [hst x hx];rfl),a3]
  trivial
 unfold methodCall
 rw [few]
 refine wpAny_bind (wpAny_holding ?_)
 unfold calleeOf
 refine method_fn (S.inn.keeps ok1.base) I S.get S.geta g1 g2 (by show (lookIn name od).map _=_;rw [hlk,f3 name h1 h2];rfl) ?_
 rw [show methodCallPos true o env apos pos=pure pos from if_pos (by rw [hl];rfl)]
 refine wpAny_bind (wpAny_pure ?_)
 refine callWith_of (P:=K.In) (by
  have:(backTo pos (starEach args env)).any (·.1)=false:=by rw [List.any_eq_false];intro x hx;simp [hst x hx]
  rw [this];rfl) (keeps_K g6) (wpAny_evalArgs hst (wpAny_mono (q1 pos s1 ok1 (fm.move p1)) (fun us s2 ⟨ds,σ2,p2,ok2,x2,q2⟩=>⟨S.inn.keeps ok2.base,?_⟩) fun _ _ x=>Ex.back p1 x fun _ _ y=>y))
 refine wpAny_mono ((q2 f g1).wc A fr s2 _ r ok2 (Vs.cons (p2.v x1) x2)) (fun _ _ z=>z.back (p1.trans p2)) fun _ _ x=>Ex.back (p1.trans p2) x fun _ _ y=>y
end
end Mine
set_option maxHeartbeats 1000000
namespace Mine
open PySem PySem.Calls PyProof.Rows PySem.W
theorem keys_drop {σa σb:Sto}{a b:Addr}{o:O}(h:b∈keys (σa++σb)):b∈keys (σa++(a,o)::σb):=by
 rw [keys,List.map_append,List.map_cons,List.mem_append,List.mem_cons] at*
 rcases h with h| h
 ·exact .inl h
 ·exact .inr (.inr h)
theorem less_forget {σa σb:Sto}{a:Addr}{o:O}{fr:List Addr}(h:Heap):Less (keys (σa++(a,o)::σb)++fr) (keys (σa++σb)++fr) h:=fun b m=>.inl (by
 rcases List.mem_append.mp m with z| z
 ·exact List.mem_append_left _ (keys_drop z)
 ·exact List.mem_append_right _ z)
theorem Stay.refl {K:List Addr}{h:Heap}:Stay K h h:=fun _ _ _ e=>e
section
variable {c:Cx} {A:Around} {fr:List Addr} {σ σa σb:Sto} {a:Addr} {o:O}
theorem Ok.forget {h:Heap}(ok:Ok c A fr (σa++(a,o)::σb) h):Ok c A fr (σa++σb) h where
 base:=ok.base
 sto:=fun p hp=>IsO.move Stay.refl (less_forget h) (fun _ e=>e) (ok.sto p (by
  rcases List.mem_append.mp hp with z| z
  ·exact List.mem_append_left _ z
  ·exact List.mem_append_right _ (List.mem_cons_of_mem _ z)))
 nd:=by
  refine List.Nodup.sublist ?_ ok.nd
  refine List.Sublist.append ?_ (List.Sublist.refl _)
  simp only [keys,List.map_append]
  exact List.Sublist.append (List.Sublist.refl _) (List.sublist_cons_self _ _)
 new:=fun b m=>ok.new b (by
  rcases List.mem_append.mp m with z| z
  ·exact List.mem_append_left _ (keys_drop z)
  ·exact List.mem_append_right _ z)
 live:=ok.live
 stack:=ok.stack
theorem Post.forget {F:List Addr}{s s':Shared}(p:Post F fr σ s s' (σa++(a,o)::σb)):Post F fr σ s s' (σa++σb):=
 ⟨p.shape,p.kept,p.slots,p.alive,fun b m=>p.grow b (keys_drop m)⟩
theorem Ok.gone {h:Heap}(ok:Ok c A fr (σa++(a,o)::σb) h):a∉keys (σa++σb)++fr:=by
 have nd:=ok.nd
 simp only [keys,List.map_append,List.append_assoc] at nd⊢
 exact (List.nodup_cons.mp ((List.perm_middle.nodup_iff.mp nd))).1
theorem Ok.at {A':Around}{h:Heap}(ok:Ok c A fr σ h)(e:A'.frames=A.frames):Ok c A' fr σ h:=⟨ok.base,ok.sto,ok.nd,ok.new,ok.live,by exact e▸ok.stack⟩
theorem Ok.add {h h':Heap}(ok:Ok c A fr σ h)(k:∀b ob,h.get? b=some ob->h'.get? b=some ob)(hn:h.objs.size<=a)(x:IsO c.prog c.w (keys ((a,o)::σ)++fr) h' a o):Ok c A fr ((a,o)::σ) h':=by
 have ha:=none_of_ge hn
 exact {
  base:=fun b o e=>k _ _ (ok.base b o e)
  sto:=fun p hp=>by
   rcases List.mem_cons.mp hp with rfl| hp
   ·exact x
   ·refine IsO.move (fun b o _ e=>k b o e) (fun b m=> ?_) (fun x e=>k _ x e) (ok.sto p hp)
    rcases List.mem_append.mp m with z| z
    ·rcases List.mem_cons.mp z with z| z
     ·exact .inr (z▸ha)
     ·exact .inl (List.mem_append_left _ z)
    ·exact .inl (List.mem_append_right _ z)
  nd:=List.nodup_cons.mpr ⟨(fun z=>Nat.lt_irrefl _ (Nat.lt_of_lt_of_le (ok.lt z) hn)),ok.nd⟩
  new:=fun b m=>by
   rcases List.mem_cons.mp (show b∈a::(keys σ++fr) from m) with z| z
   ·cases hg:c.h0.get? b with
    | none=>rfl
    | some o=>have:=ok.base _ o hg;simp only [z,ha] at this;contradiction
   ·exact ok.new b z
  live:=fun b m=>by obtain ⟨o,e⟩:=ok.live b m;exact ⟨o,k _ _ e⟩
  stack:=(ok.keeps k).stack}
theorem Post.add {F:List Addr}{s:Shared}{h':Heap}{tk:Nat}(k:∀b ob,s.heap.get? b=some ob->h'.get? b=some ob)(hn:s.heap.objs.size<=a):Post F fr σ s {s with heap:=h',toks:=tk} ((a,o)::σ):=
 ⟨⟨h',tk,rfl⟩,fun b o _ e=>k b o e,fun b o _ _ e=>⟨o.slots,k b o e,fun _=>rfl⟩,fun b o e=>⟨o,k b o e⟩,fun b m=>by
  rcases List.mem_cons.mp (show b∈a::keys σ from m) with z| z
  ·exact .inr (z▸none_of_ge hn)
  ·exact .inl z⟩
end
theorem under_tc {A:Around}{C:Addr}{rest:List Value}{kw:List (Str × Value)}:(A.under (.builtin "type.__call__" ⟨.ref C::rest,kw⟩)).frames=A.frames/\(A.under (.builtin "type.__call__" ⟨.ref C::rest,kw⟩)).handled=A.handled/\(A.under (.builtin "type.__call__" ⟨.ref C::rest,kw⟩)).depth=A.depth+1/\(A.under (.builtin "type.__call__" ⟨.ref C::rest,kw⟩)).units=A.units+1:=by
 refine ⟨rfl,rfl,?_,rfl⟩
 have:(Code.builtin "type.__call__" ⟨.ref C::rest,kw⟩).weight=1:=by kernel_rfl
 show A.depth+_=_
 exact congrArg _ (this ..)
section
variable {c:Cx} {K:Frag} {C:Addr} {cn:Str} {Bd:List Stmt} {A:Around} {fr:List Addr} {σ:Sto} {X:Addr->Sto->Prop} {Q:D->Sto->Prop} {env:Env} {m:Vars} {B:List Stmt} {bs:List (Str × Value)} {N:Vars->Sto->Prop} {R:D->Sto->Prop}
theorem Room.tc {n:Nat}{rest:List Value}{kw:List (Str × Value)}(r:Room (n+1) A):Room n (A.under (.builtin "type.__call__" ⟨.ref C::rest,kw⟩)):=by
 obtain ⟨⟨h1,h2⟩,h3⟩:=r
 obtain ⟨e1,e2,e3,e4⟩:=under_tc (A:=A) (C:=C) (rest:=rest) (kw:=kw)
 exact ⟨⟨z972 h1 e3,z973 h2 e4⟩,e2.trans h3⟩
theorem W1.attrS (S:Ks c K C cn Bd){x:Expr}{name:Str}{pos' pos:Pos}{value:Expr}
  (h:WE c A fr env m σ value (fun dv σ1=>WE c A fr env m σ1 x (fun d σ2=>∃dx σa σb fs,d=.own C dx/\σ2=σa++(dx,.flds fs)::σb/\fs.length<=100/\N m (σa++(dx,.flds ((name,dv)::fs))::σb)) X) X) (hn:name="size"\/name="rules")
  (hs:swapsWith value (some (.Attribute x name pos')) pos.line env=pure false):W1 c A fr env m σ (.Assign [.Attribute x name pos'] value pos) N R X:=fun s ok fm=>by
 refine plainObj_wpAny_Assign_Attribute (wpAny_mono (h s ok fm) (fun v s1 hz=> ?_) fun _ _ x=>x.wide fm) hs
 obtain ⟨dv,σ1,p1,ok1,x1,q1⟩:=hz
 refine wpAny_mono (q1 s1 ok1 (fm.move p1)) (fun ov s2 hz=> ?_) fun _ _ x=>(Ex.back (G:=none) p1 x fun _ _ y=>y).wide fm
 obtain ⟨d,σ2,p2,ok2,x2,dx,σa,σb,fs,hd,hσ,hfl,q2⟩:=hz
 subst hd hσ
 obtain ⟨a,rfl,nk,g⟩:=x2
 have X2:=S.inn.keeps ok2.base
 obtain ⟨mA,hns,hA1,hA2⟩:=ok2.sto _ (by simp:(dx,O.flds fs)∈σa++(dx,O.flds fs)::σb)
 obtain ⟨od,es,ep,gd,hdd,hk,hu,hf⟩:=_root_.id hns
 have I:InstAt s2.heap a _ C (some od):=⟨g,rfl,rfl,gd⟩
 obtain ⟨cd,hc,hd'⟩:=any_some S.dict
 have ht:takerIn K C name=some none:=by
  unfold takerIn
  rcases hn with rfl| rfl
  ·rw [S.size];rfl
  ·rw [S.rules];rfl
 refine set_plain X2 I S.seta (osa_open (s:={s2 with toks:=s2.toks+1}) X2 I S.over ht fun b=> ?_)
 refine wpAny_bind (wpAny_pure (wpAny_bind (wpAny_bind (wpAny_loadPart g (wpAny_bind (Looks.here (s:={s2 with toks:=s2.toks+1}) (looks_clsIn X2 hc) ?_))))))
 rw [hd']
 refine wpAny_pure (a:=some dx) (wpAny_bind (wpAny_pure (wpAny_bind ?_)))
 refine wpAny_nsSet1 (s:={s2 with toks:=s2.toks+1}) hns fun h' hn' sb=> ?_
 obtain ⟨oD,esD,epD,hoD,hdD,hcD⟩:=hn'.count (Within.cons name v (fun x hx=>by
  cases e:fs.lookup x with
  | none=>exact absurd (hA2 x e) hx
  | some d=>exact List.mem_map_of_mem (f:=(·.1)) (mem_of_lookup e)))
 refine wpAny_bind (wpAny_lookBehind hoD (by exact (congrArg _ (hdD ..)).trans (pastItsLine_dict (Nat.le_trans hcD (by simp only [List.length_cons,List.length_map];exact z974 hfl)))) ?_)
 refine wpAny_pure ?_
 have hfr:dx∉fr:=fun z=>ok2.gone (List.mem_append_right _ z)
 obtain ⟨od',es',ep',gd',_⟩:=_root_.id hn'
 have pp:Post [] fr (σa++(dx,.flds fs)::σb) s2 {s2 with heap:=h',toks:=s2.toks+1+1} (σa++(dx,.flds ((name,dv)::fs))::σb):=Post.put hfr (fun b ob nb e=>(sb.2 b nb).trans e) ⟨_,gd'⟩
 have st:Stay (keys (σa++(dx,O.flds fs)::σb)++fr) s2.heap h':=fun b o n e=>(sb.2 b fun q=>n (q▸(by simp [keys]))).trans e
 refine ⟨.next m,_,((p1.trans p2).trans pp).wide (by simp),ok2.put (fun b ob nb e=>(sb.2 b nb).trans e) ⟨_,hn',fun x d e=> ?_,fun x e=> ?_⟩,⟨rfl,((fm.move p1).move p2).move pp⟩,q2⟩
 ·rw [lookup_cons_eq] at e
  by_cases q:x=name
  ·rw [if_pos q] at e;cases e
   exact ⟨v,by simp [q],V.move st (fun _ m=>.inl m) _ _ (p2.v x1)⟩
  ·rw [if_neg q] at e
   obtain ⟨u,hu,hV⟩:=hA1 x d e
   exact ⟨u,by simp [q,hu],V.move st (fun _ m=>.inl m) _ _ hV⟩
 ·rw [lookup_cons_eq] at e
  by_cases q:x=name
  ·rw [if_pos q] at e;cases e
  ·rw [if_neg q] at e
   simp [q,hA2 x e]
noncomputable def NewQ (C dx:Addr)(Q:D->Sto->Prop):D->Sto->Prop:=fun d σ2=>d=.none/\∃σa σb fs sz ru,σ2=σa++(dx,.flds fs)::σb/\fs.lookup (Str.ofString "size")=some sz/\fs.lookup (Str.ofString "rules")=some ru/\(∀x:Str,x≠"size"->x≠"rules"->fs.lookup x=none)/\Q (.sys C sz ru) (σa++σb)
noncomputable def NewX (dx:Addr)(X:Addr->Sto->Prop):Addr->Sto->Prop:=fun E σ2=>∃σa σb o,σ2=σa++(dx,o)::σb/\X E (σa++σb)
theorem WE.callC (S:Ks c K C cn Bd)(T:Tp c B bs){fp pos:Pos}{args:List Expr}{n:Nat}(r:Room (n+1) A)(hk:env.kindOf cn=some .globalImplicit)(hm:Mth K C "__init__")
  (h:WA c A fr env m σ args (fun ds σ1=>∀dx,dx∉keys σ1->WM c K C (Room n) "__init__" (.own C dx::ds) ((dx,.flds [])::σ1) (NewQ C dx Q) (NewX dx X)) X) (hp:plainArgs args=true:=by rfl) (hdb:(cn==("__debug__":Str))=false:=by decide):
  WE c A fr env m σ (.Call (.Name cn fp) args [] pos) Q X:=fun s ok fm=>by
 have hst:=plainArgs_starEach (env:=env) (pos:=pos) hp
 obtain ⟨f,g1,g2,g6⟩:=hm
 refine wpAny_bind (Name_function_global fm.kind hk (loadGlobal_global (by exact fm.glob▸T.good.g.keeps ok.base) S.name ?_) hdb)
 refine callWith_of (P:=K.In) (by
  have:(backTo pos (starEach args env)).any (·.1)=false:=by rw [List.any_eq_false];intro x hx;simp [hst x hx]
  rw [this];rfl) (keeps_K S.keep) (wpAny_evalArgs hst (wpAny_mono (h pos s ok fm) (fun us s1 ⟨ds,σ1,p1,ok1,x1,q1⟩=>⟨S.inn.keeps ok1.base,?_⟩) fun _ _ x=>x))
 have X1:=S.inn.keeps ok1.base
 obtain ⟨hh,g,d,t,os⟩:=s1
 refine wpAny_call (make_core (makes_of X1 S.makes) (looks_findIn X1 g1) (fun self=>bind_fn X1 self g2) (.inl rfl) ?_)
 have kp:∀b o,hh.get? b=some o->((hh.push emptyDict).push (instObj C hh.objs.size)).get? b=some o:=fun b o e=>Heap.get?_push_of_some _ (Heap.get?_push_of_some _ e)
 have hgx:((hh.push emptyDict).push (instObj C hh.objs.size)).get? (hh.objs.size+1)=some (instObj C hh.objs.size):=by heap_get
 have ok2:Ok c (A.under (.builtin "type.__call__" ⟨.ref C::([]++us),[]⟩)) fr ((hh.objs.size,.flds [])::σ1) ((hh.push emptyDict).push (instObj C hh.objs.size)):=
  (Ok.add (o:=.flds []) ok1 kp (Nat.le_refl _) ⟨_,(Heap.Ns1.of_empty ⟨_, #[],_,(by heap_get),rfl,fun e he=>absurd he (by simp),fun _=>rfl⟩),fun x d e=>(by contradiction),fun _ _=>rfl⟩).at under_tc.1
 have p2:Post [] fr σ1 ⟨hh,g,d,t,os⟩ ⟨(hh.push emptyDict).push (instObj C hh.objs.size),g,d,t,os⟩ ((hh.objs.size,.flds [])::σ1):=Post.add (tk:=t) kp (Nat.le_refl _)
 have hxn:hh.objs.size+1∉keys ((hh.objs.size,O.flds [])::σ1)++fr:=fun z=>by
  rcases List.mem_cons.mp (show hh.objs.size+1∈hh.objs.size::(keys σ1++fr) from z) with z| z
  ·exact absurd z (Nat.succ_ne_self _)
  ·exact absurd (ok1.lt z) (Nat.not_lt.mpr (Nat.le_succ _))
 have hv:Vs (keys ((hh.objs.size,O.flds [])::σ1)++fr) ((hh.push emptyDict).push (instObj C hh.objs.size)) (.own C hh.objs.size::ds) (.ref (hh.objs.size+1)::([]++us)):=
  Vs.cons (by exact ⟨_,rfl,hxn,hgx⟩) (p2.vs x1)
 refine codeAny_mono (q1 _ (fun z=>by
  exact Nat.lt_irrefl _ (ok1.lt (List.mem_append_left _ z))) f g1 _ fr ⟨_,g,d,t,os⟩ _ r.tc ok2 hv) fun res s' z=> ?_
 match res,z with
 | .error e,z=>
  exact nomatch z
 | .ok (.ret v),z=>
  obtain ⟨b,σ',p3,ok3,hV,hb,σa,σb,fs,sz,ru,rfl,l1,l2,l3,q⟩:=z
  subst hb
  refine ⟨hV.toNone,.sys C sz ru,σa++σb,((p1.trans p2).trans p3).forget,(ok3.at under_tc.1.symm).forget,?_,q⟩
  obtain ⟨mA,hns',hA1,hA2⟩:=ok3.sto (hh.objs.size,O.flds fs) (by simp)
  obtain ⟨v1,e1,x1'⟩:=hA1 _ _ l1
  obtain ⟨v2,e2,x2'⟩:=hA1 _ _ l2
  exact ⟨hh.objs.size+1,hh.objs.size,v1,v2,mA,rfl,(less_forget s'.heap).nin (p3.less.nin hxn hgx) (p3.kept _ _ hxn hgx),ok3.gone,p3.kept _ _ hxn hgx,hns'.ns,e1,e2,fun x n1 n2=>hA2 x (l3 x n1 n2),V.move Stay.refl (less_forget _) _ _ x1',V.move Stay.refl (less_forget _) _ _ x2'⟩
 | .ok .next,z=>exact z.elim
 | .ok .brk,z=>exact z.elim
 | .ok .cont,z=>exact z.elim
end
end Mine
set_option maxHeartbeats 1000000
namespace Mine
open PySem PySem.Calls PyProof.Rows PySem.W
section
variable {c:Cx} {A:Around} {fr:List Addr} {σ σ' σa σb:Sto} {X:Addr->Sto->Prop} {Q:D->Sto->Prop} {env:Env} {m:Vars} {N:Vars->Sto->Prop} {R:D->Sto->Prop}
theorem keys_sub (hs:σ'.Sublist σ){b:Addr}(h:b∈keys σ'):b∈keys σ:=(List.Sublist.map (·.1) hs).subset h
theorem less_sub (hs:σ'.Sublist σ)(h:Heap):Less (keys σ++fr) (keys σ'++fr) h:=fun b m=>.inl (by
 rcases List.mem_append.mp m with z| z
 ·exact List.mem_append_left _ (keys_sub hs z)
 ·exact List.mem_append_right _ z)
theorem Ok.sub {h:Heap}(ok:Ok c A fr σ h)(hs:σ'.Sublist σ):Ok c A fr σ' h where
 base:=ok.base
 sto:=fun p hp=>IsO.move Stay.refl (less_sub hs h) (fun _ e=>e) (ok.sto p (hs.subset hp))
 nd:=List.Nodup.sublist (List.Sublist.append (List.Sublist.map _ hs) (List.Sublist.refl _)) ok.nd
 new:=fun b m=>ok.new b (by
  rcases List.mem_append.mp m with z| z
  ·exact List.mem_append_left _ (keys_sub hs z)
  ·exact List.mem_append_right _ z)
 live:=ok.live
 stack:=ok.stack
theorem Post.from {F:List Addr}{σ2:Sto}{s s':Shared}(p:Post F fr σ' s s' σ2)(hs:σ'.Sublist σ):Post F fr σ s s' σ2:=
 ⟨p.shape,fun b o n e=>p.kept b o (fun z=>n (by
  rcases List.mem_append.mp z with z| z
  ·exact List.mem_append_left _ (keys_sub hs z)
  ·exact List.mem_append_right _ z)) e,p.slots,p.alive,fun b m=>(p.grow b m).imp (keys_sub hs) id⟩
theorem Post.to {F:List Addr}{σ2:Sto}{s s':Shared}(p:Post F fr σ2 s s' σ)(hs:σ'.Sublist σ):Post F fr σ2 s s' σ':=
 ⟨p.shape,p.kept,p.slots,p.alive,fun b m=>p.grow b (keys_sub hs m)⟩
theorem Ex.from {G:Option Env}{t:Bool}{s s':Shared}{v:Value}(x:Ex c A G fr σ' s t X v s')(hs:σ'.Sublist σ):Ex c A G fr σ s t X v s':=nomatch x
theorem W.from {α β:Type}{G:Option Env}{t:Sem α}{R:List Addr->Heap->β->α->Prop}{Q:β->Sto->Prop}{s:Shared}(h:W c A G fr σ' t R Q X s)(hs:σ'.Sublist σ):W c A G fr σ t R Q X s:=
 wpAny_mono h (fun _ _ ⟨b,σ2,p,ok,r,q⟩=>⟨b,σ2,p.from hs,ok,r,q⟩) fun _ _ x=>x.from hs
theorem Fm.turn {m':Vars}{K K':List Addr}{h:Heap}(f:Fm env m fr K h)(hV:∀x d',m'.lookup x=some d'->∃d,m.lookup x=some d/\∀v,V K h d v->V K' h d' v):Fm env m' fr K' h where
 kind:=f.kind
 glob:=f.glob
 bui:=f.bui
 ns:=by
  obtain ⟨mv,hn,r⟩:=f.ns
  refine ⟨mv,hn,fun x d' e k=> ?_⟩
  obtain ⟨d,e1,e2⟩:=hV x d' e
  obtain ⟨v,a,b⟩:=r x d e1 k
  exact ⟨v,a,e2 v b⟩
 cell:=fun x cc e=>by
  obtain ⟨ov,hc,r⟩:=f.cell x cc e
  refine ⟨ov,hc,fun d' e' k=> ?_⟩
  obtain ⟨d,e1,e2⟩:=hV x d' e'
  obtain ⟨v,a,b⟩:=r d e1 k
  exact ⟨v,a,e2 v b⟩
 has:=f.has
 inn:=f.inn
 apart:=f.apart
theorem WS.forget {ss:List Stmt}(hs:σ'.Sublist σ)(h:WS c A fr env m σ' ss N R X):WS c A fr env m σ ss N R X:=fun s ok fm=>
 W.from (h s (ok.sub hs) (fm.turn fun x d e=>⟨d,e,fun v hv=>V.move Stay.refl (less_sub hs _) _ _ hv⟩)) hs
noncomputable def isRef (a:Addr):D->Bool
 | .ref b=>b==a
 | _=>false
noncomputable def fzD (a:Addr)(ds:List D)(d:D):D:=if isRef a d then .lst ds else d
noncomputable def fz (a:Addr)(ds:List D):Vars->Vars
 | []=>[]
 | (x,d)::r=>(x,fzD a ds d)::fz a ds r
theorem fz_lookup {a:Addr}{ds:List D}{x:Str}{d':D}:∀{m:Vars},(fz a ds m).lookup x=some d'->∃d,m.lookup x=some d/\d'=fzD a ds d
 | [],h=>by contradiction
 | (y,d)::r,h=>by
  simp only [fz,lookup_cons_eq] at h
  rw [lookup_cons_eq]
  by_cases q:x=y
  ·rw [if_pos q] at h⊢;obtain rfl:=Option.some.inj h;exact ⟨d,rfl,rfl⟩
  ·rw [if_neg q] at h⊢;exact fz_lookup h
theorem drop_sub {a:Addr}{o:O}:(σa++σb).Sublist (σa++(a,o)::σb):=List.Sublist.append (List.Sublist.refl _) (List.sublist_cons_self _ _)
theorem fz_v {a:Addr}{ds:List D}{h:Heap}{d:D}{v:Value}(ok:Ok c A fr (σa++(a,.lst ds)::σb) h)(x:V (keys (σa++(a,.lst ds)::σb)++fr) h d v):V (keys (σa++σb)++fr) h (fzD a ds d) v:=by
 unfold fzD
 split
 ·rename_i hr
  cases d<;>simp [isRef] at hr
  subst hr
  obtain ⟨vs,n,g,r⟩:=ok.sto _ (List.mem_append_right σa List.mem_cons_self)
  exact ⟨_,vs,n,x,ok.gone,g,Vs.move Stay.refl (less_sub drop_sub _) _ _ r⟩
 ·exact V.move Stay.refl (less_sub drop_sub _) _ _ x
theorem WS.freeze {ss:List Stmt}{a:Addr}{ds:List D}(h:WS c A fr env (fz a ds m) (σa++σb) ss N R X):WS c A fr env m (σa++(a,.lst ds)::σb) ss N R X:=fun s ok fm=>
 W.from (h s (ok.sub drop_sub) (fm.turn fun x d' e=>by
  obtain ⟨d,e1,e2⟩:=fz_lookup e
  exact ⟨d,e1,fun v hv=>e2▸fz_v ok hv⟩)) drop_sub
theorem WE.freeze {e:Expr}(h:WE c A fr env m σ e (fun d σ1=>∃a ds σa σb,d=.ref a/\σ1=σa++(a,.lst ds)::σb/\Q (.lst ds) (σa++σb)) X):WE c A fr env m σ e Q X:=fun s ok fm=>
 wpAny_mono (h s ok fm) (fun v s1 hz=>by
  obtain ⟨d,σ1,p1,ok1,x1,a,ds,σa,σb,hd,hσ,q⟩:=hz
  subst hd hσ
  have:=fz_v ok1 x1
  simp only [fzD,isRef,beq_self_eq_true] at this
  exact ⟨.lst ds,σa++σb,p1.to drop_sub,ok1.sub drop_sub,this,q⟩) fun _ _ x=>x
end
end Mine
set_option maxHeartbeats 1000000
namespace Mine
open PySem PySem.Calls PyProof.Rows PySem.W
noncomputable def Gi (c:Cx)(gs:List (Str × Int)):Prop:=∀x i,gs.lookup x=some i->∃t,c.mg x=some (.int i t)
noncomputable def bodyOf:Stmt->List Stmt
 | .ClassDef _ _ _ body _ _ _ _ _ _ _=>body
 | _=>[]
section
variable {c:Cx} {A:Around} {fr:List Addr} {σ:Sto} {X:Addr->Sto->Prop} {Q:D->Sto->Prop} {env:Env} {m:Vars} {B:List Stmt} {bs:List (Str × Value)} {gs:List (Str × Int)}
theorem WE.gInt (T:Tp c B bs)(G:Gi c gs){f:Str}{fp:Pos}{i:Int}(hk:env.kindOf f=some .globalImplicit)(hg:gs.lookup f=some i)(h:Q (.int i) σ)(hdb:(f==("__debug__":Str))=false:=by decide):WE c A fr env m σ (.Name f fp) Q X:=by
 refine Exists.elim (G f i hg) fun t e=> ?_
 exact WE.nInt T.good hk e h hdb
theorem At1.max2 {a b:Int}(hh:A.handled=none)(h:Q (.int (if b>a then b else a)) σ):At1 c A fr σ (.builtin "max") [.int a,.int b] Q X:=.two fun s v u ok hv hu=>by
 obtain ⟨t,rfl⟩:=hv.toInt
 obtain ⟨t',rfl⟩:=hu.toInt
 refine max_two_ints hh fun h' tk k=>⟨_,σ,Post.keeps k,ok.keeps k,?_,h⟩
 split
 ·exact V.ofInt
 ·exact V.ofInt
theorem WB.addTs {ds es:List D}(hsz:ds.length+es.length<=sizeLine)(h:Q (.tup (ds++es)) σ):WB c A fr σ (binaryOp .Add) (.tup ds) (.tup es) Q X:=by
 by_cases h1:ds=[]
 ·subst h1
  intro v1 v2 s ok x1 x2
  obtain ⟨l,rfl,z⟩:=SD.of_v (sd:=.tup []) x1
  obtain ⟨b,rfl,y⟩:=SD.of_v (sd:=.tup es) x2
  obtain ⟨vs,n,g,r⟩:=z.tuple rfl
  obtain ⟨us,k,g',r'⟩:=y.tuple rfl
  have hv:vs=[]:=List.eq_nil_of_length_eq_zero r.length
  exact concat_meets ⟨_,g,rfl⟩ ⟨_,g',rfl⟩ noFill_tuple_add seq_tuple_add PySem.F.slot_tuple_add PySem.F.entry_tuple_add (PySem.F.args_tuple_add_2 _ _)
   (tuple_addW0 l b vs.toArray us.toArray n k _ _ _ _ (by simp [hv])) ⟨g,g',.tup es,σ,Post.refl ..,ok,x2,h⟩
 ·by_cases h2:es=[]
  ·subst h2
   intro v1 v2 s ok x1 x2
   obtain ⟨l,rfl,z⟩:=SD.of_v (sd:=.tup ds) x1
   obtain ⟨b,rfl,y⟩:=SD.of_v (sd:=.tup []) x2
   obtain ⟨vs,n,g,r⟩:=z.tuple rfl
   obtain ⟨us,k,g',r'⟩:=y.tuple rfl
   have e1:vs≠[]:=fun e=>h1 (by subst e;exact List.eq_nil_of_length_eq_zero (r.length).symm)
   rw [List.append_nil] at h
   exact concat_meets ⟨_,g,rfl⟩ ⟨_,g',rfl⟩ noFill_tuple_add seq_tuple_add PySem.F.slot_tuple_add PySem.F.entry_tuple_add (PySem.F.args_tuple_add_2 _ _)
    (tuple_addW1 l b vs.toArray us.toArray n k _ _ _ _ (by simpa using e1) (by simp [(List.eq_nil_of_length_eq_zero r'.length)])) ⟨g,g',.tup ds,σ,Post.refl ..,ok,x1,h⟩
  ·exact WB.addT h1 h2 hsz h
end
end Mine
namespace Mine
open PySem PySem.Calls PyProof.Rows PySem.W
noncomputable def AtSys (C:Addr)(d:D)(P:D->D->Prop):Prop:=∃sz ru,d=.sys C sz ru/\P sz ru
noncomputable def AtFld (name:Str)(sz ru:D)(P:D->Prop):Prop:=(name="size"/\P sz)\/(name="rules"/\P ru)
theorem AtSys.mk {C:Addr}{sz ru:D}{P:D->D->Prop}(h:P sz ru):AtSys C (.sys C sz ru) P:=⟨sz,ru,rfl,h⟩
theorem AtFld.size {sz ru:D}{P:D->Prop}(h:P sz):AtFld (Str.ofString "size") sz ru P:=.inl ⟨rfl,h⟩
theorem AtFld.rules {sz ru:D}{P:D->Prop}(h:P ru):AtFld (Str.ofString "rules") sz ru P:=.inr ⟨rfl,h⟩
section
variable {c:Cx} {K:Frag} {C:Addr} {cn:Str} {Bd:List Stmt} {A:Around} {fr:List Addr} {σ:Sto} {X:Addr->Sto->Prop} {Q:D->Sto->Prop} {env:Env} {m:Vars}
theorem WE.fld (S:Ks c K C cn Bd){o:Expr}{name:Str}{pos:Pos}(h:WE c A fr env m σ o (fun d σ1=>AtSys C d fun sz ru=>AtFld name sz ru fun e=>Q e σ1) X)(hb:∀w,attributeBase o name env w=w:=by intro _;rfl):WE c A fr env m σ (.Attribute o name pos) Q X:=
 WE.attr S h hb
theorem WE.mth (S:Ks c K C cn Bd){o:Expr}{name:Str}{apos pos:Pos}{args:List Expr}{n:Nat}(r:Room n A)(hf:Mth K C name)
  (h:WE c A fr env m σ o (fun d σ1=>AtSys C d fun _ _=>WA c A fr env m σ1 args (fun ds σ2=>WM c K C (Room n) name (d::ds) σ2 Q X) X) X) (h1:name≠"size":=by decide) (h2:name≠"rules":=by decide)
  (hp:plainArgs args=true:=by rfl) (hb:∀w,attributeBase o name env w=w:=by intro _;rfl) (hl:(apos.endLine==pos.line)=true:=by rfl) (hn:decide (args.length<30)=true:=by rfl):
  WE c A fr env m σ (.Call (.Attribute o name apos) args [] pos) Q X:=WE.callM S r hf h h1 h2 hp hb hl hn
end
end Mine
namespace Mine
open PySem PySem.Calls PyProof.Rows PySem.W
section
variable {c:Cx} {A:Around} {fr:List Addr} {σ:Sto} {X:Addr->Sto->Prop} {Q:D->Sto->Prop}
theorem At1.isiL {sd:SD}(hL:sd.isL=true)(inv:sd.inv σ)(h:Q (.bool true) σ):At1 c A fr σ (.builtin "isinstance") [sd.d,.typ "list"] Q X:=.two fun s v u ok hv hu=>by
 subst hu
 obtain ⟨l,rfl,z⟩:=SD.of_v hv
 obtain ⟨vs,n,g,r⟩:=z.list ok inv hL
 exact call_isinstance (isinstance_true (isi_meta (by decide)) (isi_sub (t:="list") (T:="list") (by decide) (by decide))) ⟨⟨_,g,rfl⟩,⟨_,σ,Post.refl ..,ok,V.ofBool,h⟩⟩
end
end Mine
set_option maxHeartbeats 1000000
namespace Mine
open PySem PySem.Calls PyProof.Rows PySem.W
noncomputable def asgOk (sc scope:Scope)(x:Str)(p cpos:Pos):Bool:=sc.kind==.function&&sc.names.lookup x==some .local&&p.line==cpos.line&& !(scope.names.any fun (n,k)=>n==x&&(k==.local|| k==.cell))
section
variable {c:Cx} {A:Around} {fr:List Addr} {σ:Sto} {X:Addr->Sto->Prop} {Q:D->Sto->Prop} {env:Env} {m:Vars} {N:Vars->Sto->Prop} {R:D->Sto->Prop}
theorem swaps_true {sc scope:Scope}{x:Str}{p cpos:Pos}{elt:Expr}{gs:List Comprehension}{line:Nat}(hsc:env.scope=sc)(h:asgOk sc scope x p cpos=true):swapsWith (.ListComp elt gs scope cpos) (some (.Name x p)) line env=pure true:=by
 simp only [asgOk,Bool.and_eq_true,beq_iff_eq] at h
 obtain ⟨⟨⟨h1,h2⟩,h3⟩,h4⟩:=h
 have e3:(Expr.ListComp elt gs scope cpos).pos.line=cpos.line:=rfl
 unfold swapsWith
 dsimp only
 simp only [(by unfold Env.blockKind;rw [hsc,h1];rfl:env.blockKind=.function),(kindOf_of hsc h2),h3,e3,h4]
 simp
theorem swaps_cell {sc scope:Scope}{x:Str}{p cpos:Pos}{elt:Expr}{gs:List Comprehension}{line:Nat}(hsc:env.scope=sc)(h:sc.names.lookup x=some .cell):swapsWith (.ListComp elt gs scope cpos) (some (.Name x p)) line env=pure false:=by
 unfold swapsWith
 dsimp only
 simp only [(kindOf_of hsc h),show (some NameKind.cell==some NameKind.local)=false from rfl,Bool.and_false,Bool.false_and]
theorem WIt.zipX {B:List Stmt}{bs:List (Str × Value)}(T:Tp c B bs)(hh:A.handled=none){f:Str}{fp pos px py tp:Pos}{k:Nat}{e1 e2:Expr}{x y:Str}{Q:List Vars->(Sto->Prop)->Sto->Prop}(hk:env.kindOf f=some .globalImplicit)(hb:bs.lookup f=some (.type "zip"))
  (h:WE c A fr env m σ e1 (fun d1 σ1=>WE c A fr env m σ1 e2 (fun d2 σ2=>∃(α β:Type) (sd1 sd2:SD) (is:List α) (js:List β) (f1:α->D) (f2:β->D),d1=sd1.d/\d2=sd2.d/\sd1.ds=is.map f1/\sd2.ds=js.map f2/\sd1.inv σ2/\sd2.inv σ2/\Q ((is.zip js).map fun p=>[(y,f2 p.2),(x,f1 p.1)]) (fun σ'=>sd1.inv σ'/\sd2.inv σ') σ2) X) X) (hp:plainArgs [e1,e2]=true:=by rfl) (hdb:(f==("__debug__":Str))=false:=by decide):
  WIt c A fr env m σ (.Call (.Name f fp) [e1,e2] [] pos) (.Tuple [.Name x px,.Name y py] k tp) Q X:=by
 refine WIt.zip T.good hh hk (T.bn _ _ hb).1 (T.bn _ _ hb).2 (h.mono (fun d1 σ1 h1=>h1.mono (fun d2 σ2 h2=> ?_) fun _ _ x=>x) fun _ _ x=>x) hp hdb
 obtain ⟨α,β,sd1,sd2,is,js,f1,f2,a1,a2,a3,a4,a5,a6,a7⟩:=h2
 refine ⟨sd1,sd2,a1,a2,a5,a6,?_⟩
 have e:(sd1.ds.zip sd2.ds).map (fun p=>[(y,p.2),(x,p.1)])=(is.zip js).map fun p=>[(y,f2 p.2),(x,f1 p.1)]:=by
  simp only [a3,a4,List.zip_map,List.map_map];rfl
 rw [e];exact a7
theorem W1.assignC {sc:Scope}{x:Str}{pos' pos:Pos}{tg iter elt:Expr}{ifs:List Expr}{scope:Scope}{cpos:Pos}(hsc:env.scope=sc)(h:WIt c A fr env m σ iter tg (Turns c A env m scope ifs elt (QL fun d σ'=>N ((x,d)::m) σ')) X)(h1:compOk scope=true)(h2:freeOk scope sc=true)
  (h3:asgOk sc scope x pos' cpos=true) (hs:∀x,foldedSetIterable iter env x=pure x:=by intro _;rfl):
  W1 c A fr env m σ (.Assign [.Name x pos'] (.ListComp elt [⟨tg,iter,ifs,0⟩] scope cpos) pos) N R X:=by
 refine W1.assignComp h h1 (freeOk_of hsc h2) ?_ (swaps_true hsc h3) hs
 simp only [asgOk,Bool.and_eq_true,beq_iff_eq] at h3
 exact kindOf_of hsc h3.1.1.2
theorem W1.assignK {sc:Scope}{x:Str}{pos' pos:Pos}{elt:Expr}{gs:List Comprehension}{scope:Scope}{cpos:Pos}(hsc:env.scope=sc)(h:WE c A fr env m σ (.ListComp elt gs scope cpos) (fun d σ'=>N ((x,d)::m) σ') X)(hk:sc.names.lookup x=some .cell):
  W1 c A fr env m σ (.Assign [.Name x pos'] (.ListComp elt gs scope cpos) pos) N R X:=W1.assign h (.inr (kindOf_of hsc hk)) (swaps_cell hsc hk)
end
end Mine
set_option maxHeartbeats 1000000
namespace Mine
open PySem PySem.Calls PyProof.Rows PySem.W
end Mine
set_option maxHeartbeats 1000000
namespace Mine
open PySem PySem.Calls PyProof.Rows PySem.W
theorem lk_of_mem {h:Heap}{a:Addr}{o:Obj}:∀{K:Frag},(∀p∈K,h.get? p.1=some p.2)->(a,o)∈K->K.lookup a=some o
 | [],_,m=>by cases m
 | (b,q)::r,hK,m=>by
  rw [List.lookup_cons]
  by_cases e:(a==b)=true
  ·rw [e]
   have e':=beq_iff_eq.mp e
   have h1:=hK (b,q) List.mem_cons_self
   have h2:=hK _ m
   dsimp only at h1 h2
   rw [e',h1] at h2
   exact h2
  ·have e':(a==b)=false:=by simpa using e
   rw [e']
   rcases List.mem_cons.mp m with z| z
   ·cases z;simp at e
   ·exact lk_of_mem (fun p hp=>hK p (List.mem_cons_of_mem _ hp)) z
theorem in_of_all {h:Heap}{K:Frag}(hK:∀p∈K,h.get? p.1=some p.2):K.In h:=fun a o e=>hK (a,o) (mem_of_lookup' e)
 where mem_of_lookup' {a:Addr} {o:Obj}:∀{K:Frag},K.lookup a=some o->(a,o)∈K
 | [],h=>by cases h
 | (b,q)::r,h=>by
  rw [List.lookup_cons] at h
  by_cases e:(a==b)=true
  ·rw [e] at h;cases h;rw [beq_iff_eq.mp e];exact List.mem_cons_self
  ·have e':(a==b)=false:=by simpa using e
   rw [e'] at h;exact List.mem_cons_of_mem _ (mem_of_lookup' h)
theorem gather {h:Heap}{c:ClsRec}{C N:Addr}{mN:Str->Option Value}(P:PlainAt h c C N mN):∃fs:Frag,(∀p∈fs,h.get? p.1=some p.2)/\∀m∈c.meths,∃f o pm cd doc,mN m.name=some (.ref f)/\(f,o)∈fs/\o.cls=.type "function"/\
  o.data=.func (methDef m.name (c.name++"."++m.name) m.params m.body m.scope pm cd doc)/\h.CodeRec cd (c.name++"."++m.name):=by
 have:∀l:List MethRec,(∀m∈l,m∈c.meths)->∃fs:Frag,(∀p∈fs,h.get? p.1=some p.2)/\∀m∈l,∃f o pm cd doc,mN m.name=some (.ref f)/\(f,o)∈fs/\o.cls=.type "function"/\
   o.data=.func (methDef m.name (c.name++"."++m.name) m.params m.body m.scope pm cd doc)/\h.CodeRec cd (c.name++"."++m.name):=by
  intro l
  induction l with
  | nil=>exact fun _=>⟨[],(fun _ h=>by cases h),(fun _ h=>by cases h)⟩
  | cons m l ih=>
   intro hl
   obtain ⟨fs,h1,h2⟩:=ih fun x hx=>hl x (List.mem_cons_of_mem _ hx)
   obtain ⟨f,o,pm,cd,doc,g1,g2,g3,g4,g5⟩:=P.meths m (hl m List.mem_cons_self)
   refine ⟨(f,o)::fs,fun p hp=> ?_,fun x hx=> ?_⟩
   ·rcases List.mem_cons.mp hp with rfl| hp
    ·exact g2
    ·exact h1 p hp
   ·rcases List.mem_cons.mp hx with rfl| hx
    ·exact ⟨f,o,pm,cd,doc,g1,List.mem_cons_self,g3,g4,g5⟩
    ·obtain ⟨f',o',pm',cd',doc',k1,k2,k3⟩:=h2 x hx
     exact ⟨f',o',pm',cd',doc',k1,List.mem_cons_of_mem _ k2,k3⟩
 exact this c.meths fun _ h=>h
noncomputable def shapeM (m:MethRec):Str × Arguments × List Stmt × Scope:=(m.name,m.params,m.body,m.scope)
noncomputable def shapeR (d:PySem.DefRec):Str × Arguments × List Stmt × Scope:=(d.name,d.params,d.body,d.scope)
theorem Ks.ofPlain {c:Cx}{cr:ClsRec}{C N:Addr}{mN:Str->Option Value}{cn:Str}{Bd:List Stmt}(P:PlainAt c.h0 cr C N mN)(hname:c.mg cn=some (.ref C))(hst:(cr.statics.contains ("size":Str)&&cr.statics.contains ("rules":Str))=true)
  (hm:cr.meths.map shapeM=(Bd.filterMap recOf).map shapeR):∃K,Ks c K C cn Bd:=by
 obtain ⟨nm,q,bs,sn,sub,col,dd,k0,k1,k2,k3,k5,hC⟩:=P.cls.obj
 obtain ⟨oN,es,ep,gN,hdN,hkN,hfN⟩:=P.cls.ns
 obtain ⟨fs,hfs,hmeth⟩:=gather P
 let K:Frag:=(C,excClassObj nm q C N bs [.type "object"] true sn sub false col dd k0 k1 k2 k3 k5 "object.__new__")::(N,oN)::fs
 have hK:∀p∈K,c.h0.get? p.1=some p.2:=fun p hp=>by
  rcases List.mem_cons.mp hp with rfl| hp
  ·exact hC
  ·rcases List.mem_cons.mp hp with rfl| hp
   ·exact gN
   ·exact hfs p hp
 have lC:K.lookup C=some (excClassObj nm q C N bs [.type "object"] true sn sub false col dd k0 k1 k2 k3 k5 "object.__new__"):=lk_of_mem hK List.mem_cons_self
 have lN:K.lookup N=some oN:=lk_of_mem hK (List.mem_cons_of_mem _ List.mem_cons_self)
 have hns:∀x,nsIn K N x=some (mN x):=fun x=>by
  have:=lookIn_of hdN hkN hfN x
  unfold nsIn
  rw [lN]
  obtain ⟨oc,od,odt,osl⟩:=oN
  dsimp only at hdN
  subst hdN
  exact this
 have hown:∀x,ownIn K x (.ref C)=some (mN x):=fun x=>by
  show (match K.lookup C with
   | some ⟨_,_,.cls cd,_⟩=>nsIn K cd.ns x
   | _=>none)=_
  rw [lC]
  exact hns x
 have hfind:∀x,findIn K (.ref C) x=match mN x with
   | some v=>some (some v)
   | none=>some (fastBuiltinOwn "object" x):=fun x=>by
  show (match K.lookup C with
   | some ⟨_,_,.cls cd,_⟩=>alongIn K x cd.mro
   | _=>none)=_
  rw [lC]
  show alongIn K x [.ref C,.type "object"]=_
  unfold alongIn
  rw [hown]
  cases mN x with
  | some v=>rfl
  | none=>
   show alongIn K x [.type "object"]=_
   unfold alongIn ownIn
   dsimp only
   cases fastBuiltinOwn "object" x<;>rfl
 have quiet:∀x∈cr.quiet,findIn K (.ref C) x=some (fastBuiltinOwn "object" x):=fun x hx=>by rw [hfind,P.quiet x hx]
 have hst':=Bool.and_eq_true_iff.mp hst
 have inQ:∀x,cr.statics.contains x=true->x∈cr.quiet:=fun x hx=>List.mem_append_right _ (by simpa using hx)
 obtain ⟨cd,hcls,hcd1,hcd2⟩:∃cd,clsIn K C=some cd/\cd.hasDict=true/\onlyObject cd.mro=true:=⟨_,by unfold clsIn;rw [lC],rfl,rfl⟩
 have htype:typeIn K (.ref C)=some (.type "type"):=by show (K.lookup C).map (·.cls)=_;rw [lC];rfl
 refine ⟨K,in_of_all hK,hname,?_,?_,?_,?_,?_,?_,?_,?_,?_,fun d hd=> ?_⟩
 ·rw [quiet _ (List.mem_append_left _ (by decide))];kernel_rfl
 ·rw [quiet _ (List.mem_append_left _ (by decide))];kernel_rfl
 ·unfold hasDictIn;rw [hcls];exact hcd1
 ·unfold makesIn
  rw [lC]
  have e1:specialIn K (.ref C) "__call__"=some (some (.builtin "type.__call__")):=by
   unfold specialIn;rw [htype];kernel_rfl
  have e2:instIn K (.ref C) (.type "type")=some true:=by
   unfold instIn;rw [htype];kernel_rfl
  show (!false&& !false&&_&&_&&_&&_&&(specialIn K (.ref C) "__call__"==some (some (.builtin "type.__call__")))&&(instIn K (.ref C) (.type "type")==some true))=true
  rw [e1,e2]
  simp
 ·unfold keepIn
  dsimp only
  rw [lC]
  show (specialIn K (.ref C) "__call__"==some (some (.builtin "type.__call__")))=true
  unfold specialIn;rw [htype];kernel_rfl
 ·unfold plainOver;rw [hcls];exact hcd2
 ·rw [quiet _ (List.mem_append_left _ (by decide))];kernel_rfl
 ·rw [quiet _ (inQ _ hst'.1)];kernel_rfl
 ·rw [quiet _ (inQ _ hst'.2)];kernel_rfl
 ·have:shapeR d∈cr.meths.map shapeM:=by rw [hm];exact List.mem_map_of_mem hd
  obtain ⟨m,hm1,hm2⟩:=List.mem_map.mp this
  obtain ⟨f,o,pm,cd,doc,g1,g2,g3,g4,g5⟩:=hmeth m hm1
  obtain ⟨mn,mp,mb,ms⟩:=m
  obtain ⟨dn,dp,db,ds,dpos⟩:=d
  simp only [shapeM,shapeR,Prod.mk.injEq] at hm2
  obtain ⟨rfl,rfl,rfl,rfl⟩:=hm2
  have lf:K.lookup f=some o:=lk_of_mem hK (List.mem_cons_of_mem _ (List.mem_cons_of_mem _ g2))
  refine ⟨f,o,pm,cd,doc,_,by rw [hfind];dsimp only at g1⊢;rw [g1],?_,?_,hfs _ g2,g4,g5⟩
  ·show (K.lookup f).map (·.cls)=_;rw [lf];exact congrArg some g3
  ·unfold keepIn;dsimp only;rw [lf]
   obtain ⟨oc,od,odt,osl⟩:=o
   dsimp only at g4
   subst g4
   rfl
theorem Gi.ofTop {c:Cx}{p:Program}{loose:List Str}{mean:ExcName->Option Value}{gs:List (Str × Int)}(T:Top p loose mean c.mg c.mb c.h0)(h:gs.map (fun q=>valOf p q.1)=gs.map fun q=>some (.int q.2)):Gi c gs:=fun x i e=>by
 have hm:=mem_of_lookup e
 have:=List.map_inj_left.mp h (x,i) hm
 obtain ⟨v,h1,h2⟩:=T.const x _ this
 have r:=h2 c.h0
 cases r
 exact ⟨_,h1⟩
noncomputable def shapeC (cr:ClsRec):Str × Bool × List (Str × Arguments × List Stmt × Scope):=(cr.name,cr.withCmp.statics.contains ("size":Str)&&cr.withCmp.statics.contains ("rules":Str),cr.withCmp.meths.map shapeM)
theorem Ks.ofTop {c:Cx}{view:Program}{loose:List Str}{cn:Str}{Bd:List Stmt}(TE:TopE view loose c.mg c.h0)(i:Nat)(h:((plainsOf view loose)[i]?).map shapeC=some (cn,true,(Bd.filterMap recOf).map shapeR)):∃K C,Ks c K C cn Bd:=by
 obtain ⟨cr,h1,h2⟩:=Option.map_eq_some_iff.mp h
 simp only [shapeC,Prod.mk.injEq] at h2
 obtain ⟨rfl,h4,h5⟩:=h2
 obtain ⟨C,N,mN,hC,P⟩:=TE cr (List.mem_of_getElem? h1)
 obtain ⟨K,S⟩:=Ks.ofPlain P hC h4 h5
 exact ⟨K,C,S⟩
end Mine
set_option maxHeartbeats 1000000
namespace Mine
open PySem PySem.Calls PyProof.Rows PySem.W
end Mine
set_option maxHeartbeats 1000000
set_option maxRecDepth 100000
namespace Mine
open PySem PySem.Calls PyProof.Rows PySem.W
end Mine
set_option maxHeartbeats 1000000
set_option maxRecDepth 100000
namespace Mine
open PySem PySem.Calls PyProof.Rows PySem.W
end Mine
set_option maxHeartbeats 1000000
set_option maxRecDepth 100000
namespace Mine
open PySem PySem.Calls PyProof.Rows PySem.W
end Mine
set_option maxHeartbeats 1000000
set_option maxRecDepth 100000
namespace Mine
open PySem PySem.Calls PyProof.Rows PySem.W
section
variable {c:Cx} {K:Frag} {A:Around} {fr:List Addr} {σ σ1 σ2:Sto} {X:Addr->Sto->Prop} {Q:D->Sto->Prop} {env:Env} {m:Vars} {es:List (Str × Addr × List Value)} {N:Vars->Sto->Prop} {R:D->Sto->Prop}
theorem set_exact {prog:Program}{w:World}{E:Value->Shared->Prop}{s:Shared}{l:Addr}{vs:List Value}{n:Nat}{j:Nat}{k:Int}{t:Tok}{v:Value}{P:Unit->Shared->Prop}(g:s.heap.get? l=some (lstObj vs n))(hk:k=(j:Int))(hfit:k<2^63)(hj:j<vs.length)
  (hP:∀n' h',h'.get? l=some (lstObj (vs.set j v) n')->(∀b ob,b≠l->s.heap.get? b=some ob->h'.get? b=some ob)->P () {s with heap:=h'}):
  wpAny (model prog w) A (setItem (.ref l) (.int k t) v) P E s:=by
 have hl:s.heap.IsList l vs.toArray:=⟨_,g,rfl,n,rfl⟩
 unfold setItem
 try with_reducible refine wpAny_holding ?_
 first| refine wpAny_bind (wpAny_pure ?_)| skip
 refine wpAny_bind (wpAny_sequenceKey hl.typeIs (by decide) ?_)
 refine wpAny_bind (wpAny_callSpecial?_slot (name:=Str.ofString "__setitem__") hl.typeIs slot_list_setitem
  (wpAny_call_entry slot_list_setitem hl.typeIs entry_list_setitem ?_ (args_list_setitem _ _ _)))
 show wpAny _ _ (Builtin.List.listSubscript? (.int k t)>>=_) _ _ s
 refine wpAny_bind (wpAny_listSubscript_int (fitsIndex_of (z979 hk) hfit) ?_)
 clear hfit
 subst hk
 have hx':vs.toArray[j]? =some vs[j]:=by simp [hj]
 show wpAny _ _ ((seqItemAt l j>>=fun r=>pure (r.map (j,·)))>>=_) _ _ s
 refine wpAny_bind (wpAny_bind (wpAny_seqItemAt g rfl (wpAny_pure ?_)))
 rw [hx']
 show wpAny _ _ (setSeqItemAt l j v>>=_) _ _ s
 have e:=IsL.update (h:=s.heap) (l:=l) (items:=vs.toArray) (n:=n) g (·.setIfInBounds j v)
 have e2:vs.toArray.setIfInBounds j v=(vs.set j v).toArray:=by simp
 rw [e2] at e
 have fin:=hP _ _ e fun b ob hne eb=>by rw [Heap.get?_update_ne _ _ _ _ hne];exact eb
 refine wpAny_bind (wpAny_setSeqItemAt g rfl ?_)
 first
  | exact wpAny_bind (wpAny_pure (wpAny_pure ⟨.none,rfl,wpAny_pure fin⟩))
  | exact wpAny_pure ⟨.none,rfl,wpAny_pure fin⟩
theorem Vs.set {Kk:List Addr}{h:Heap}:∀{ds:List D} {vs:List Value} {d:D} {v:Value} (j:Nat),Vs Kk h ds vs->V Kk h d v->Vs Kk h (ds.set j d) (vs.set j v)
 | [],_,_,_,j,x,y=>by unfold Vs at x;subst x;simpa using Vs.nil
 | e::ds,_,d,v,0,x,y=>by unfold Vs at x;obtain ⟨u,r,rfl,p,q⟩:=x;exact .cons y q
 | e::ds,_,d,v,j+1,x,y=>by unfold Vs at x;obtain ⟨u,r,rfl,p,q⟩:=x;exact .cons p (q.set j y)
theorem W1.setL {o i value:Expr}{pos' pos:Pos}
  (h:WE c A fr env m σ value (fun dv τ1=>WE c A fr env m τ1 o (fun d τ2=>WE c A fr env m τ2 i (fun di τ3=>∃(a:Addr) (ds:List D) (j:Nat) (σa σb:Sto),d=.ref a/\di=.int j/\τ3=σa++(a,.lst ds)::σb/\j<ds.length/\(j:Int)<2^63/\N m (σa++(a,.lst (ds.set j dv))::σb)) X) X) X)
  (hs:swapsWith value (some (.Subscript o i pos')) pos.line env=pure false):W1 c A fr env m σ (.Assign [.Subscript o i pos'] value pos) N R X:=fun s ok fm=>by
 refine wpAny_Assign_Subscript (wpAny_mono (h s ok fm) (fun v s1 hx=> ?_) fun _ _ x=>x.wide fm) hs
 obtain ⟨dv,τ1,p1,ok1,x1,q1⟩:=hx
 refine wpAny_mono (q1 s1 ok1 (fm.move p1)) (fun ov s2 hx=> ?_) fun _ _ x=>(Ex.back (G:=none) p1 x fun _ _ y=>y).wide fm
 obtain ⟨d,τ2,p2,ok2,x2,q2⟩:=hx
 refine wpAny_mono (q2 s2 ok2 ((fm.move p1).move p2)) (fun iv s3 hx=> ?_) fun _ _ x=>(Ex.back (G:=none) (p1.trans p2) x fun _ _ y=>y).wide fm
 obtain ⟨di,τ3,p3,ok3,x3,a,ds,j,σa,σb,rfl,rfl,rfl,hj,hf,q⟩:=hx
 obtain ⟨t,rfl⟩:=x3.toInt
 have x2':=p3.v x2
 unfold V at x2';subst x2'
 have ha:a∈keys (σa++(a,O.lst ds)::σb):=by simp [keys]
 have nfr:a∉fr:=fun z=>(List.nodup_append.mp ok3.nd).2.2 a ha a z rfl
 obtain ⟨vs,n,g,r⟩:=ok3.sto (a,O.lst ds) (by simp)
 refine set_exact g rfl hf (by rw [r.length];exact hj) fun n' h' g' k'=> ?_
 have pp:Post [] fr (σa++(a,.lst ds)::σb) s3 {s3 with heap:=h'} (σa++(a,.lst (ds.set j dv))::σb):=Post.put (tk:=s3.toks) nfr k' ⟨_,g'⟩
 have st:Stay (keys (σa++(a,O.lst ds)::σb)++fr) s3.heap h':=fun b ob nb e=>k' b ob (fun z=>nb (by rw [z];exact List.mem_append_left _ ha)) e
 have hv:V (keys (σa++(a,O.lst ds)::σb)++fr) s3.heap dv v:=p3.v (p2.v x1)
 refine ⟨.next m,_,(((p1.trans p2).trans p3).trans pp).wide (by simp),ok3.put k' ⟨_,n',g',?_⟩,⟨rfl,(((fm.move p1).move p2).move p3).move pp⟩,q⟩
 exact Vs.move st (fun _ z=>.inl z) _ _ (Vs.set j r hv)
end
end Mine
set_option maxHeartbeats 1000000
namespace Mine
open PySem PySem.Calls PyProof.Rows PySem.W
end Mine
set_option maxHeartbeats 1000000
namespace Mine
open PySem PySem.Calls PyProof.Rows PySem.W
end Mine
namespace Mine
open PySem PySem.Calls PyProof.Rows
noncomputable def EnumSt (sd:SD)(e it l:Addr)(i:Nat)(K:List Addr)(h:Heap):Prop:=
 (∃old,IsEnum h e it i old)/\h.IsListIter it l i/\sd.Fz K h l
theorem enum_nd {h:Heap}{e it:Addr}{i:Int}{old:Value}(x:IsEnum h e it i old){o:Obj}(g:h.get? e=some o):∀es n,o.data≠.dict es n:=fun es n q=>by replace g:=(x ..).symm.trans g;obtain rfl:=Option.some.inj g;contradiction
theorem enumOut_nd {h:Heap}{e it a:Addr}{i:Int}{old:Value}(x:IsEnumOut h e it i old a){o:Obj}(g:h.get? e=some o):∀es n,o.data≠.dict es n:=fun es n q=>by replace g:=(x ..).symm.trans g;obtain rfl:=Option.some.inj g;contradiction
theorem lit_nd {h:Heap}{i l:Addr}{k:Nat}(x:h.IsListIter i l k){o:Obj}(g:h.get? i=some o):∀es n,o.data≠.dict es n:=fun es n e=>by
 obtain ⟨o',g',_,d'⟩:=x
 replace g:=(g' ..).symm.trans g;obtain rfl:=Option.some.inj g;replace e:=(d' ..).symm.trans e;contradiction
theorem EnumSt.nd {sd:SD}{e it l:Addr}{i:Nat}{K:List Addr}{h:Heap}(x:EnumSt sd e it l i K h):∀b∈[e,it],∀o,h.get? b=some o->∀es n,o.data≠.dict es n:=fun b hb o g=>by
 obtain ⟨⟨old,a1⟩,a2,_⟩:=x
 simp only [List.mem_cons,List.not_mem_nil,or_false] at hb
 rcases hb with rfl| rfl
 ·exact enum_nd a1 g
 ·exact lit_nd a2 g
theorem EnumSt.live {sd:SD}{e it l:Addr}{i:Nat}{K:List Addr}{h:Heap}(x:EnumSt sd e it l i K h):∀b∈[e,it],∃o,h.get? b=some o:=fun b hb=>by
 obtain ⟨⟨old,a1⟩,⟨o,a2,_⟩,_⟩:=x
 simp only [List.mem_cons,List.not_mem_nil,or_false] at hb
 rcases hb with rfl| rfl
 ·exact ⟨_,a1⟩
 ·exact ⟨_,a2⟩
theorem lit_at {h h':Heap}{i l:Addr}{k:Nat}(x:h.IsListIter i l k)(e:∀o,h.get? i=some o->h'.get? i=some o):h'.IsListIter i l k:=by
 obtain ⟨o,g,r⟩:=x;exact ⟨o,e o g,r⟩
theorem EnumSt.move {sd:SD}{e it l:Addr}{i:Nat}{K K':List Addr}{h h':Heap}(x:EnumSt sd e it l i K h)(sy:Stay K h h')(hw:∀b∈[e,it],∀o,h.get? b=some o->h'.get? b=some o)(hl:Less K K' h):EnumSt sd e it l i K' h':=by
 obtain ⟨⟨old,a1⟩,a2,a3⟩:=x
 exact ⟨⟨old,hw e (by exact .head _) _ a1⟩,lit_at a2 fun o g=>hw it (by simp) o g,a3.move sy hl⟩
section
variable {c:Cx} {A:Around} {fr:List Addr} {σ:Sto} {X:Addr->Sto->Prop} {env:Env} {m:Vars}
theorem Src.enum {x y:Str}{px py tp:Pos}{kt:Nat}{sd:SD}{e it l:Addr}(hh:A.handled=none)(hL:sd.isL=true)(hne:e≠it):
  Src c A (.Tuple [.Name x px,.Name y py] kt tp) e [e,it] (sd.ds.zipIdx.map fun p=>[(y,p.1),(x,D.int (p.2:Int))]) (fun σ'=>sd.inv σ') (EnumSt sd e it l)
   (fun i K h v=>∃T u d t,v=.ref T/\T∉[e,it]/\IsEnumOut h e it ((i:Int)+1) u T/\h.IsListIter it l (i+1)/\sd.Fz K h l/\IsPair h T (.int i t) u/\sd.ds[i]? =some d/\V K h d u) where
 nodict:=fun i K h st=>st.nd
 midnd:=fun i K h v st=>by
  obtain ⟨T,u,d,t,_,_,a1,a2,_⟩:=st
  intro b hb o g
  simp only [List.mem_cons,List.not_mem_nil,or_false] at hb
  rcases hb with rfl| rfl
  ·exact enumOut_nd a1 g
  ·exact lit_nd a2 g
 move:=fun i K K' h h' st sy hw hl=>st.move sy hw hl
 next:=fun i σ fr s Q E hi ok st inv hQ=>by
  obtain ⟨⟨old,a1⟩,a2,a3⟩:=id st
  obtain ⟨vs,sq,hv⟩:=a3.get ok inv
  rw [hL] at sq
  simp only [List.length_map,List.length_zipIdx] at hi
  have hi1:i<vs.length:=by rw [hv.length];exact hi
  refine wpAny_pyNext_enum_item (x:=vs[i]) a1 a2 (show s.heap.IsList l vs.toArray from sq) (by simp) hne fun h' b1 b2 b3 b4 hk=> ?_
  obtain ⟨d,e1,w1⟩:=hv.get (i:=i) (v:=vs[i]) (by simp)
  have sy:Stay (keys σ++([e,it]++fr)) s.heap h':=fun b o nb g=>hk b o (fun q=>nb (by rw [q];simp)) (fun q=>nb (by rw [q];simp)) g
  have ls:Less (keys σ++([e,it]++fr)) (keys σ++([e,it]++fr)) s.heap:=fun a ha=>.inl ha
  refine hQ _ h' (s.toks+1) ⟨s.heap.objs.size,vs[i],d,s.toks,rfl,fun hm=> ?_,b1,b2,a3.move sy ls,b3,e1,V.move sy ls _ _ w1⟩ ⟨fun b o nb g=>hk b o (fun q=>nb (by rw [q];simp)) (fun q=>nb (by rw [q];simp)) g,fun b hb=> ?_⟩
  ·obtain ⟨o,g⟩:=st.live _ hm
   exact heap_ne g rfl
  ·simp only [List.mem_cons,List.not_mem_nil,or_false] at hb
   rcases hb with rfl| rfl
   ·exact ⟨_,b1⟩
   ·obtain ⟨o,g,_⟩:=b2;exact ⟨o,g⟩
 put:=fun i σ fr F env m v s Q E yy hy mid ok fm hi hkind hF hnd hQ=>by
  obtain ⟨T,u,d,t,rfl,hT,a1,a2,a3,hp,e1,w1⟩:=mid
  have hy':yy=[(y,d),(x,D.int (i:Int))]:=by
   rw [List.getElem?_map,List.getElem?_zipIdx,e1] at hy
   simpa using hy.symm
  subst hy'
  refine wpAny_letOwnedTupleGo_enum a1 fun h1 z1 sb1=> ?_
  have k1:∀b o,b≠e->s.heap.get? b=some o->h1.get? b=some o:=fun b o nb g=>(sb1.2 b nb).trans g
  have ow:Ow [e,it] s.heap h1:=⟨fun b o nb g=>k1 b o (fun q=>nb (by rw [q];simp)) g,fun b hb=>by
   simp only [List.mem_cons,List.not_mem_nil,or_false] at hb
   rcases hb with rfl| rfl
   ·exact ⟨_,z1⟩
   ·obtain ⟨o,g,_⟩:=a2;exact ⟨o,k1 _ o (Ne.symm hne) g⟩⟩
  have ok1:Ok c A ([e,it]++fr) σ h1:=ok.ow hnd ow
  have ndw:=ok.nd
  rw [List.nodup_append,List.nodup_append] at ndw
  have nfw:∀a∈fr,a∉[e,it]:=fun a ha hw=>ndw.2.1.2.2 a hw a ha rfl
  have fm1:=fm.ow (fun b hb=>List.mem_append_right _ (List.mem_append_left _ hb)) ⟨nfw _ hi.1,fun q hq=>nfw _ (hi.2 q hq)⟩ ow
  have sy1:Stay (keys σ++([e,it]++fr)) s.heap h1:=fun b o nb g=>k1 b o (fun q=>nb (by rw [q];simp)) g
  have ls:Less (keys σ++([e,it]++fr)) (keys σ++([e,it]++fr)) s.heap:=fun a ha=>.inl ha
  have hTe:T≠e:=fun q=>hT (by rw [q];simp)
  have st1:EnumSt sd e it l (i+1) (keys σ++([e,it]++fr)) h1:=
   ⟨⟨_,by simpa using z1⟩,lit_at a2 fun o g=>k1 _ o (Ne.symm hne) g,a3.move sy1 ls⟩
  have tin:∀a,a∈tight env x\/a∈tight env y->a∈F:=fun a ha=>by
   rcases ha with ha| ha
   ·rcases tight_mem ha with z| ⟨kk,g⟩
    ·rw [z];exact hF.1
    ·exact hF.2 (x,D.int (i:Int)) (by simp) kk _ g
   ·rcases tight_mem ha with z| ⟨kk,g⟩
    ·rw [z];exact hF.1
    ·exact hF.2 (y,d) (by simp) kk _ g
  have tfr:∀a,a∈tight env x\/a∈tight env y->a∈fr:=fun a ha=>by
   rcases ha with ha| ha
   ·rcases tight_mem ha with z| ⟨kk,g⟩
    ·rw [z];exact hi.1
    ·exact hi.2 _ (mem_of_lookup g)
   ·rcases tight_mem ha with z| ⟨kk,g⟩
    ·rw [z];exact hi.1
    ·exact hi.2 _ (mem_of_lookup g)
  refine store_two (d1:=D.int (i:Int)) (F:=tight env x++tight env y) (s:={s with heap:=h1}) hh ok1 fm1 (k1 _ _ hTe hp) V.ofInt (V.move sy1 ls _ _ w1) (hkind (x,D.int (i:Int)) (by simp)) (hkind (y,d) (by simp)) (fun a ha=>by simpa [List.mem_append] using ha) fun h2 tk2 fm2 ok2 p2=> ?_
  have kw:∀b∈[e,it],∀o,h1.get? b=some o->h2.get? b=some o:=fun b hb o g=>by
   obtain ⟨sl,e1,r1⟩:=p2.slots b o (List.mem_append_left _ hb) (fun q=>nfw b (tfr b (by simpa [List.mem_append] using q)) hb) g
   have:=r1 (st1.nd b hb o g)
   subst this;exact e1
  refine hQ h2 tk2 (st1.move p2.stay kw p2.less) fm2 ok2 ?_
  have pa:Post ([e,it]++F) ([e,it]++fr) σ s {s with heap:=h1,toks:=s.toks} σ:=Post.ow ow
  exact pa.trans (p2.wide fun a ha=>List.mem_append_right _ (tin a (by simpa [List.mem_append] using ha)))
 done:=fun σ fr s Q E ok st inv hQ=>by
  obtain ⟨⟨old,a1⟩,a2,a3⟩:=id st
  obtain ⟨vs,sq,hv⟩:=a3.get ok inv
  rw [hL] at sq
  exact wpAny_pyNext_enum_end hh a1 a2 (show s.heap.IsList l vs.toArray from sq) (by simp [hv.length]) fun h' hk=>hQ h' s.toks fun b o nb g=>hk b o (fun q=>nb (by rw [q];simp)) g
 self:=fun i K s Q E st hQ=>by obtain ⟨⟨old,a1⟩,_⟩:=st;exact wpAny_pyIter_enum a1 hQ
theorem WIt.enum {B:List Stmt}{bs:List (Str × Value)}(T:Tp c B bs)(hh:A.handled=none){f:Str}{fp pos px py tp:Pos}{k:Nat}{e1:Expr}{x y:Str}{Q:List Vars->(Sto->Prop)->Sto->Prop}(hk:env.kindOf f=some .globalImplicit)(hb:bs.lookup f=some (.type "enumerate"))
  (h:WE c A fr env m σ e1 (fun d1 σ1=>∃(α:Type) (sd:SD) (is:List α) (F:α->D),d1=sd.d/\sd.isL=true/\sd.ds=is.map F/\sd.inv σ1/\Q (is.zipIdx.map fun p=>[(y,F p.1),(x,D.int (p.2:Int))]) (fun σ'=>sd.inv σ') σ1) X) (hp:plainArgs [e1]=true:=by rfl) (hdb:(f==("__debug__":Str))=false:=by decide):
  WIt c A fr env m σ (.Call (.Name f fp) [e1] [] pos) (.Tuple [.Name x px,.Name y py] k tp) Q X:=by
 refine And.elim (fun hg hbb=> ?_) (T.bn _ _ hb)
 refine WIt.callT T.good hk hg hbb (WA.cons (h.mono (fun d1 σ1 q=>WA.nil ?_) fun _ _ y=>y) hp) hp hdb
 intro s vals E ok fm hv
 obtain ⟨α,sd,is,F,rfl,hL,hds,inv,q⟩:=q
 obtain ⟨v1,r,rfl,hv1,hr⟩:=hv
 subst hr
 obtain ⟨l,rfl,z1⟩:=SD.of_v hv1
 obtain ⟨vs,sq,_⟩:=z1.get ok inv
 rw [hL] at sq
 refine call_enumerate_list (show s.heap.IsList l vs.toArray from sq) fun h' he hit hsz hkp=> ?_
 refine wpAny_pyIter_enum he ?_
 have fresh:∀a∈[s.heap.objs.size+1,s.heap.objs.size],s.heap.get? a=none:=fun a ha=>by
  simp only [List.mem_cons,List.not_mem_nil,or_false] at ha
  refine none_of_ge ?_
  rcases ha with rfl| rfl
  ·exact Nat.le_add_right ..
  ·exact Nat.le_refl _
 have st:EnumSt sd (s.heap.objs.size+1) s.heap.objs.size l 0 (keys σ1++([s.heap.objs.size+1,s.heap.objs.size]++fr)) h':=
  ⟨⟨_,he⟩,hit,z1.move (fun b o _ g=>hkp b o g) (less_add (σ:=σ1) (fr:=fr) fresh)⟩
 refine ⟨_,_,_,_,_,_,rfl,⟨h',s.toks,rfl⟩,hkp,fresh,st.live,by simp,Src.enum hh hL (Nat.succ_ne_self _),st,inv,?_⟩
 have e:sd.ds.zipIdx.map (fun p=>[(y,p.1),(x,D.int (p.2:Int))])=is.zipIdx.map fun p=>[(y,F p.1),(x,D.int (p.2:Int))]:=by
  rw [hds,List.zipIdx_map,List.map_map];rfl
 rw [e];exact q
end
end Mine
set_option maxHeartbeats 1000000
set_option maxRecDepth 100000
namespace Mine
open PySem PySem.Calls PyProof.Rows PySem.W
end Mine
namespace Mine
open PySem PySem.Calls PyProof.Rows
end Mine
namespace Mine
open PySem PySem.Calls PyProof.Rows PySem.W
end Mine
namespace Mine
open PySem PySem.Calls PyProof.Rows
end Mine
namespace Mine
theorem ln2 {α:Type}{l:List α}(h:l.length=2):∃a b,l=[a,b]:=by
 obtain ⟨a,t,rfl⟩:=List.exists_cons_of_length_eq_add_one h
 obtain ⟨b,rfl⟩:=List.length_eq_one_iff.mp (Nat.succ.inj h)
 exact ⟨a,b,rfl⟩
theorem ln3 {α:Type}{l:List α}(h:l.length=3):∃a b c,l=[a,b,c]:=by
 obtain ⟨a,t,rfl⟩:=List.exists_cons_of_length_eq_add_one h
 obtain ⟨b,c,rfl⟩:=ln2 (Nat.succ.inj h)
 exact ⟨a,b,c,rfl⟩
theorem ln4 {α:Type}{l:List α}(h:l.length=4):∃a b c d,l=[a,b,c,d]:=by
 obtain ⟨a,t,rfl⟩:=List.exists_cons_of_length_eq_add_one h
 obtain ⟨b,c,d,rfl⟩:=ln3 (Nat.succ.inj h)
 exact ⟨a,b,c,d,rfl⟩
theorem ln01 {α:Type}{l:List α}(h:l.length<=1):l=[]\/∃a,l=[a]:=
 (Nat.le_one_iff_eq_zero_or_eq_one.mp h).imp List.length_eq_zero_iff.mp List.length_eq_one_iff.mp
theorem nabs {t:Int}{m:Nat}(h:t.natAbs<=m): -(m:Int)<=t/\t<=m:=
 ⟨Int.neg_le_of_neg_le (Int.le_trans Int.le_natAbs (Int.ofNat_le.mpr ((Int.natAbs_neg t).symm▸h))),Int.le_trans Int.le_natAbs (Int.ofNat_le.mpr h)⟩
noncomputable def dot (ws xs:List Int):Int:=((ws.zip xs).map fun q=>q.1*q.2).sum
noncomputable def wor (E:List (List Int))(v:List Int):List Int:=E.map fun e=>dot e v
noncomputable def addR (a b:List Int):List Int:=(a.zip b).map fun q=>q.1+q.2
noncomputable def unitR (n:Nat)(p:Int):List Int:=(List.range n).map fun (i:Nat)=>if ((i:Int)==p)=true then (1:Int) else 0
noncomputable def inR (a b:List Int):Bool:=(a.zip b).all fun q=>decide (q.1<=q.2)
noncomputable def subR (a b:List Int):List Int:=(a.zip b).map fun q=>q.1-q.2
theorem dot_nil_l (x:List Int):dot [] x=0:=rfl
theorem dot_nil_r (x:List Int):dot x []=0:=by cases x<;>rfl
theorem dot_cons (a b:Int)(x y:List Int):dot (a::x) (b::y)=a*b+dot x y:=by rfl
theorem addR_len {a b:List Int}{n:Nat}(ha:a.length=n)(hb:b.length=n):(addR a b).length=n:=by simp [addR,ha,hb]
theorem subR_len {a b:List Int}{n:Nat}(ha:a.length=n)(hb:b.length=n):(subR a b).length=n:=by simp [subR,ha,hb]
theorem unitR_len (n:Nat)(p:Int):(unitR n p).length=n:=by simp [unitR]
theorem addR_get {a b:List Int}(h:a.length=b.length)(i:Nat):(addR a b).getD i 0=a.getD i 0+b.getD i 0:=by
 induction a generalizing b i with
 | nil=>cases b<;>simp [addR] at h⊢
 | cons x a ih=>
  cases b with
  | nil=>contradiction
  | cons y b=>
   cases i with
   | zero=>rfl
   | succ i=>simpa [addR] using ih (by simpa using h) i
theorem subR_get {a b:List Int}(h:a.length=b.length)(i:Nat):(subR a b).getD i 0=a.getD i 0-b.getD i 0:=by
 induction a generalizing b i with
 | nil=>cases b<;>simp [subR] at h⊢
 | cons x a ih=>
  cases b with
  | nil=>contradiction
  | cons y b=>
   cases i with
   | zero=>rfl
   | succ i=>simpa [subR] using ih (by simpa using h) i
theorem unitR_get (n:Nat)(p:Nat)(i:Nat)(hi:i<n):(unitR n p).getD i 0=if i=p then 1 else 0:=by
 simp [unitR,hi,Int.ofNat_inj]
theorem ext_get {a b:List Int}(h:a.length=b.length)(e:∀i,i<a.length->a.getD i 0=b.getD i 0):a=b:=by
 apply List.ext_getElem h
 intro i h1 h2
 simpa [List.getD_eq_getElem?_getD,h1,h2] using (e i h1)
theorem mem_get {a:List Int}{x:Int}(h:x∈a):∃i,i<a.length/\a.getD i 0=x:=by
 obtain ⟨i,hi,e⟩:=List.mem_iff_getElem.mp h
 exact ⟨i,hi,by simp [hi,e]⟩
theorem get_mem {a:List Int}{i:Nat}(h:i<a.length):a.getD i 0∈a:=by
 simp [h]
theorem inR_iff {a b:List Int}(h:a.length=b.length):inR a b=true↔∀i,a.getD i 0<=b.getD i 0:=by
 induction a generalizing b with
 | nil=>cases b<;>simp [inR] at h⊢
 | cons x a ih=>
  cases b with
  | nil=>contradiction
  | cons y b=>
   have ih:=ih (b:=b) (by simpa using h)
   simp only [inR,List.zip_cons_cons,List.all_cons,Bool.and_eq_true,decide_eq_true_eq] at ih⊢
   rw [ih]
   constructor
   ·intro ⟨h1,h2⟩ i
    cases i with
    | zero=>trivial
    | succ i=>exact h2 i
   ·intro h
    exact ⟨by exact h 0,fun i=>by exact h (i+1)⟩
noncomputable def sumN (n:Nat)(f:Nat->Int):Int:=((List.range n).map f).sum
theorem sumN_zero (f:Nat->Int):sumN 0 f=0:=rfl
theorem sumN_succ (n:Nat)(f:Nat->Int):sumN (n+1) f=sumN n f+f n:=by
 simp [sumN,List.range_succ]
theorem sumN_succ' (n:Nat)(f:Nat->Int):sumN (n+1) f=f 0+sumN n (fun i=>f (i+1)):=by
 simp [sumN,List.range_succ_eq_map,Function.comp_def]
theorem sumN_congr {n:Nat}{f g:Nat->Int}(h:∀i,i<n->f i=g i):sumN n f=sumN n g:=by
 induction n with
 | zero=>rfl
 | succ n ih=>simp only [sumN_succ,sumN_succ,ih fun i hi=>h i (z0 hi),h n (by simp)]
theorem sumN_add (n:Nat)(f g:Nat->Int):sumN n (fun i=>f i+g i)=sumN n f+sumN n g:=by
 induction n with
 | zero=>rfl
 | succ n ih=>simp only [sumN_succ,ih];exact z1
theorem sumN_mul (n:Nat)(a:Int)(f:Nat->Int):sumN n (fun i=>a*f i)=a*sumN n f:=by
 induction n with
 | zero=>simp [sumN]
 | succ n ih=>simp only [sumN_succ,ih,Int.mul_add]
theorem sumN_const0 (n:Nat):sumN n (fun _=>0)=0:=by
 induction n with
 | zero=>rfl
 | succ n ih=>rw [sumN_succ,ih];decide
theorem sumN_neg_some {n:Nat}{f:Nat->Int}(h:sumN n f<0):∃i,i<n/\f i<0:=by
 induction n with
 | zero=>simp [sumN] at h
 | succ n ih=>
  rw [sumN_succ] at h
  by_cases h1:f n<0
  ·exact ⟨n,by simp,h1⟩
  ·obtain ⟨i,hi,e⟩:=ih (z2 h h1);exact ⟨i,z0 hi,e⟩
theorem sumN_mono {n:Nat}{f g:Nat->Int}(h:∀i,i<n->f i<=g i):sumN n f<=sumN n g:=by
 induction n with
 | zero=>simp [sumN]
 | succ n ih=>simp only [sumN_succ,sumN_succ];have:=ih fun i hi=>h i (z0 hi);have:=h n (by simp);exact z3 this ‹_›
theorem sumN_eq_of_le {n:Nat}{f g:Nat->Int}(h:∀i,i<n->f i<=g i)(e:sumN n g<=sumN n f):∀i,i<n->f i=g i:=by
 induction n with
 | zero=>intro i hi;exact (z4 hi).elim
 | succ n ih=>
  simp only [sumN_succ,sumN_succ] at e
  have h1:=sumN_mono (n:=n) fun i hi=>h i (z0 hi)
  have h2:=h n (by simp)
  intro i hi
  by_cases q:i=n
  ·lia
  ·exact ih (fun i hi=>h i (z0 hi)) (z5 e h2) i (z6 hi q)
theorem sum_eq_sumN (v:List Int):v.sum=sumN v.length (fun i=>v.getD i 0):=by
 induction v with
 | nil=>rfl
 | cons x v ih=>simp only [List.length_cons,sumN_succ',List.sum_cons,ih];rfl
theorem dot_eq_sumN {e v:List Int}(h:e.length=v.length):dot e v=sumN v.length (fun i=>e.getD i 0*v.getD i 0):=by
 induction v generalizing e with
 | nil=>rw [dot_nil_r];rfl
 | cons x v ih=>
  cases e with
  | nil=>contradiction
  | cons y e=>simp only [dot_cons,ih (by simpa using h),List.length_cons,sumN_succ'];rfl
theorem dot_addR {e a b:List Int}(h:a.length=b.length):dot e (addR a b)=dot e a+dot e b:=by
 induction a generalizing e b with
 | nil=>cases b<;>simp [addR,dot_nil_r] at h⊢
 | cons x a ih=>
  cases b with
  | nil=>contradiction
  | cons y b=>
   cases e with
   | nil=>rfl
   | cons z e=>
    have:addR (x::a) (y::b)=(x+y)::addR a b:=by rfl
    simp only [this,dot_cons,dot_cons,dot_cons,ih (by simpa using h),Int.mul_add];exact z1
theorem dot_subR {e a b:List Int}(h:a.length=b.length):dot e (subR a b)=dot e a-dot e b:=by
 induction a generalizing e b with
 | nil=>cases b<;>simp [subR,dot_nil_r] at h⊢
 | cons x a ih=>
  cases b with
  | nil=>contradiction
  | cons y b=>
   cases e with
   | nil=>rfl
   | cons z e=>
    have:subR (x::a) (y::b)=(x-y)::subR a b:=by rfl
    simp only [this,dot_cons,dot_cons,dot_cons,ih (by simpa using h),Int.mul_sub];exact z7
theorem sum_addR {a b:List Int}(h:a.length=b.length):(addR a b).sum=a.sum+b.sum:=by
 induction a generalizing b with
 | nil=>cases b<;>simp [addR] at h⊢
 | cons x a ih=>
  cases b with
  | nil=>contradiction
  | cons y b=>
   have:addR (x::a) (y::b)=(x+y)::addR a b:=by rfl
   simp only [this,ih (by simpa using h),List.sum_cons];exact z1
theorem sum_subR {a b:List Int}(h:a.length=b.length):(subR a b).sum=a.sum-b.sum:=by
 induction a generalizing b with
 | nil=>cases b<;>simp [subR] at h⊢
 | cons x a ih=>
  cases b with
  | nil=>contradiction
  | cons y b=>
   have:subR (x::a) (y::b)=(x-y)::subR a b:=by rfl
   simp only [this,ih (by simpa using h),List.sum_cons];exact z7
theorem sumN_one {n p:Nat}(hp:p<n)(f:Nat->Int):sumN n (fun i=>f i*if i=p then 1 else 0)=f p:=by
 induction n with
 | zero=>exact (z4 hp).elim
 | succ n ih=>
  rw [sumN_succ]
  by_cases q:p=n
  ·subst q
   have:sumN p (fun i=>f i*if i=p then 1 else 0)=0:=by
    exact (sumN_congr fun i hi=>by rw [if_neg (z8 hi),Int.mul_zero]).trans (sumN_const0 p)
   lia
  ·rw [ih (z6 hp q),if_neg (fun h=>q h.symm),Int.mul_zero,Int.add_zero]
theorem dot_unit {e:List Int}{n p:Nat}(he:e.length=n)(hp:p<n):dot e (unitR n p)=e.getD p 0:=by
 rw [dot_eq_sumN (by exact (he ..).trans (unitR_len ..).symm),unitR_len]
 simp only [<-sumN_one hp (fun i=>e.getD i 0)]
 exact sumN_congr fun i hi=>by exact congrArg _ (unitR_get n p i hi ..)
theorem sum_unit {n p:Nat}(hp:p<n):(unitR n p).sum=1:=by
 rw [sum_eq_sumN,unitR_len]
 rw [<-sumN_one hp (fun _=>(1:Int))]
 exact sumN_congr fun i hi=>by rw [unitR_get n p i hi];simp
theorem dot_wor {E:List (List Int)}{n:Nat}(hE:∀e∈E,e.length=n){d:List Int}(hd:d.length=n)(w:List Int):dot w (wor E d)=sumN n (fun j=>d.getD j 0*dot w (wor E (unitR n j))):=by
 induction E generalizing w with
 | nil=>
  have:∀x:List Int,dot w (wor [] x)=0:=fun x=>dot_nil_r w
  rw [this]
  exact (sumN_const0 n ..).symm.trans (sumN_congr fun i hi=>by rw [this,Int.mul_zero])
 | cons e E ih=>
  cases w with
  | nil=>
   rw [dot_nil_l,<-sumN_const0 n]
   exact sumN_congr fun i hi=>by simp only [dot_nil_l,Int.mul_zero]
  | cons a w=>
   have step:∀x,dot (a::w) (wor (e::E) x)=a*dot e x+dot w (wor E x):=fun x=>dot_cons _ _ _ _
   have he:=hE e (.head _)
   rw [step,ih (fun e h=>hE e (.tail _ h)),dot_eq_sumN (by exact (he ..).trans (hd ..).symm),hd,<-sumN_mul,<-sumN_add]
   refine sumN_congr fun j hj=> ?_
   simp only [step,dot_unit he hj,Int.mul_add]
   congr 1
   exact (Int.mul_assoc ..).symm.trans (Int.mul_comm _ (d.getD j 0) ..)
theorem wor_addR {E:List (List Int)}{a b:List Int}(h:a.length=b.length):wor E (addR a b)=addR (wor E a) (wor E b):=by
 induction E with
 | nil=>rfl
 | cons e E ih=>
  simp only [wor,List.map_cons] at ih⊢
  rw [ih,dot_addR h]
  rfl
theorem wor_subR {E:List (List Int)}{a b:List Int}(h:a.length=b.length):wor E (subR a b)=subR (wor E a) (wor E b):=by
 induction E with
 | nil=>rfl
 | cons e E ih=>
  simp only [wor,List.map_cons] at ih⊢
  rw [ih,dot_subR h]
  rfl
theorem wor_len (E:List (List Int))(v:List Int):(wor E v).length=E.length:=by simp [wor]
theorem sq_nonneg (a:Int):0<=a*a:=by
 rcases Int.le_total 0 a with h| h
 ·exact Int.mul_nonneg h h
 ·have:=Int.mul_nonneg (Int.neg_nonneg_of_nonpos h) (Int.neg_nonneg_of_nonpos h);rwa [Int.neg_mul_neg] at this
theorem dot_self_nonneg (w:List Int):0<=dot w w:=by
 induction w with
 | nil=>exact Int.le_refl _
 | cons a w ih=>rw [dot_cons];have:=sq_nonneg a;exact z9 ih this
theorem dot_self_zero {w:List Int}(h:dot w w<=0):∀x∈w,x=0:=by
 induction w with
 | nil=>intro x hx;cases hx
 | cons a w ih=>
  rw [dot_cons] at h
  have h1:=sq_nonneg a
  have h2:=dot_self_nonneg w
  intro x hx
  rcases List.mem_cons.mp hx with rfl| hx
  ·have:x*x=0:=z10 h2 h1 h
   rcases Int.mul_eq_zero.mp this with h| h<;>exact h
  ·exact ih (z11 h1 h) x hx
theorem dot_comm (a b:List Int):dot a b=dot b a:=by
 induction a generalizing b with
 | nil=>exact (dot_nil_l ..).trans (dot_nil_r ..).symm
 | cons x a ih=>
  cases b with
  | nil=>rfl
  | cons y b=>simp only [dot_cons,dot_cons,ih,Int.mul_comm]
structure Row (n:Nat)(v:List Int):Prop where
 len:v.length=n
 pos:∀i,0<=v.getD i 0
noncomputable def Even (E:List (List Int))(v:List Int):Prop:=∀x∈wor E v,x=0
theorem Row.of {n:Nat}{v:List Int}(h:v.length=n)(p:∀x∈v,0<=x):Row n v:=⟨h,fun i=>by
 by_cases q:i<v.length
 ·exact p _ (get_mem q)
 ·rw [List.getD_eq_getElem?_getD,List.getElem?_eq_none (z12 q)];exact Int.le_refl _⟩
theorem Row.mem {n:Nat}{v:List Int}(r:Row n v):∀x∈v,0<=x:=fun x hx=>by
 obtain ⟨i,_,e⟩:=mem_get hx;exact e▸r.pos i
theorem Row.sum {n:Nat}{v:List Int}(r:Row n v):v.sum=sumN n (fun i=>v.getD i 0):=by rw [sum_eq_sumN,r.len]
theorem Row.sum_nonneg {n:Nat}{v:List Int}(r:Row n v):0<=v.sum:=by
 have h:=sumN_mono (n:=n) (f:=fun _=>0) fun i _=>r.pos i
 rw [sumN_const0] at h
 rw [r.sum];exact h
theorem Row.add {n:Nat}{a b:List Int}(x:Row n a)(y:Row n b):Row n (addR a b):=⟨addR_len x.len y.len,fun i=>by
 rw [addR_get (by exact (x.len ..).trans (y.len ..).symm)];have:=x.pos i;have:=y.pos i;exact z9 this ‹_›⟩
theorem Row.unit {n p:Nat}:Row n (unitR n p):=.of (unitR_len n p) fun x hx=>by
 rw [unitR,List.mem_map] at hx
 obtain ⟨i,_,rfl⟩:=hx
 split<;>decide
noncomputable def Le (a b:List Int):Prop:=∀i,a.getD i 0<=b.getD i 0
theorem Row.inR {n:Nat}{a b:List Int}(x:Row n a)(y:Row n b):Mine.inR a b=true↔Le a b:=inR_iff (by exact (x.len ..).trans (y.len ..).symm)
theorem Le.refl (a:List Int):Le a a:=fun _=>Int.le_refl _
theorem Le.trans {a b c:List Int}(x:Le a b)(y:Le b c):Le a c:=fun i=>Int.le_trans (x i) (y i)
theorem Le.sum {n:Nat}{a b:List Int}(x:Row n a)(y:Row n b)(h:Le a b):a.sum<=b.sum:=by simp only [x.sum,y.sum];exact sumN_mono fun i _=>h i
theorem Le.eq {n:Nat}{a b:List Int}(x:Row n a)(y:Row n b)(h:Le a b)(e:b.sum<=a.sum):a=b:=by
 simp only [x.sum,y.sum] at e
 exact ext_get (by exact (x.len ..).trans (y.len ..).symm) fun i hi=>(sumN_eq_of_le (fun i _=>h i) e) i (by exact x.len▸hi)
theorem Row.sub {n:Nat}{a b:List Int}(x:Row n a)(y:Row n b)(h:Le b a):Row n (subR a b):=⟨subR_len x.len y.len,fun i=>by
 rw [subR_get (by exact (x.len ..).trans (y.len ..).symm)];have:=h i;exact z13 this⟩
theorem Le.sub {n:Nat}{a b:List Int}(x:Row n a)(y:Row n b):Le (subR a b) a:=fun i=>by
 rw [subR_get (by exact (x.len ..).trans (y.len ..).symm)];have:=y.pos i;exact z14 this
theorem Even.sub {E:List (List Int)}{a b:List Int}(h:a.length=b.length)(e:wor E a=wor E b):Even E (subR a b):=fun x hx=>by
 rw [wor_subR h,e] at hx
 rw [subR,List.mem_map] at hx
 obtain ⟨q,hq,rfl⟩:=hx
 have:∀(l:List Int) (q:Int × Int),q∈l.zip l->q.1-q.2=0:=by
  intro l
  induction l with
  | nil=>intro q hq;contradiction
  | cons a l ih=>
   intro q hq
   rcases List.mem_cons.mp hq with rfl| hq
   ·simp
   ·exact ih q hq
 exact this _ q hq
theorem Even.iff {E:List (List Int)}{v:List Int}:Even E v↔∀e∈E,dot e v=0:=by
 simp [Even,wor]
theorem not_even {E:List (List Int)}{v:List Int}(h:¬Even E v):0<dot (wor E v) (wor E v):=by
 by_cases h2:dot (wor E v) (wor E v)<=0
 ·exact absurd (dot_self_zero h2) h
 ·exact z15 h2
structure Least (E:List (List Int))(n:Nat)(s:List Int):Prop where
 row:Row n s
 even:Even E s
 pos:0<s.sum
 least:∀g,Row n g->Even E g->0<g.sum->Le g s->g=s
theorem least_below {E:List (List Int)}{n:Nat}:∀(k:Nat) {g:List Int},g.sum.toNat<=k->Row n g->Even E g->0<g.sum->∃s,Least E n s/\Le s g
 | 0,g,hk,r,e,p=>by lia
 | k+1,g,hk,r,e,p=>by
  by_cases h:∃g',Row n g'/\Even E g'/\0<g'.sum/\Le g' g/\g'≠g
  ·obtain ⟨g',r',e',p',l,ne⟩:=h
   have hlt:g'.sum<g.sum:=by
    by_cases q:g.sum<=g'.sum
    ·exact absurd (l.eq r' r q) ne
    ·exact z15 q
   obtain ⟨s,hs,hl⟩:=least_below k (g:=g') (z16 hk hlt) r' e' p'
   exact ⟨s,hs,hl.trans l⟩
  ·refine ⟨g,⟨r,e,p,fun g' r' e' p' l=> ?_⟩,.refl _⟩
   by_cases q:g'=g
   ·exact q
   ·exact absurd ⟨g',r',e',p',l,q⟩ h
theorem step_to {E:List (List Int)}{n:Nat}(hE:∀e∈E,e.length=n){v s:List Int}(rv:Row n v)(rs:Row n s)(es:Even E s)(ne:¬Even E v)(l:Le v s):
  ∃j,j<n/\v.getD j 0<s.getD j 0/\dot (wor E v) (wor E (unitR n j))<0:=by
 have h1:dot (wor E v) (wor E (subR s v))= -dot (wor E v) (wor E v):=by
  rw [wor_subR (by exact (rs.len ..).trans (rv.len ..).symm),dot_subR (by exact (wor_len ..).trans (wor_len ..).symm)]
  have:dot (wor E v) (wor E s)=0:=by
   have hz:∀(w z:List Int),(∀x∈z,x=0)->dot w z=0:=by
    intro w z
    induction w generalizing z with
    | nil=>intro _;rfl
    | cons a w ih=>
     intro h
     cases z with
     | nil=>rfl
     | cons b z=>simp only [dot_cons,ih z fun x hx=>h x (.tail _ hx),h b (.head _)];simp
   exact hz _ _ es
  exact z17 this
 rw [dot_wor hE (subR_len rs.len rv.len)] at h1
 have h2:=not_even ne
 obtain ⟨j,hj,e⟩:=sumN_neg_some (n:=n) (f:=fun j=>(subR s v).getD j 0*dot (wor E v) (wor E (unitR n j))) (z18 h2 h1)
 have hs:=subR_get (a:=s) (b:=v) (by exact (rs.len ..).trans (rv.len ..).symm) j
 have hn:=l j
 refine ⟨j,hj,?_,?_⟩
 ·by_cases q:v.getD j 0<s.getD j 0
  ·exact q
  ·have:(subR s v).getD j 0=0:=z19 hs hn q
   lia
 ·by_cases q:dot (wor E v) (wor E (unitR n j))<0
  ·exact q
  ·have:0<=(subR s v).getD j 0*dot (wor E v) (wor E (unitR n j)):=Int.mul_nonneg (z20 hs hn) (z21 q)
   exact (z22 e this).elim
end Mine
namespace Mine
noncomputable def isOpen (E:List (List Int))(r:List Int):Bool:=(wor E r).any (· !=0)
noncomputable def ins (l:List (List Int))(f:List Int):List (List Int):=if f∈l then l else l++[f]
noncomputable def cand (E:List (List Int))(n:Nat)(once:Bool)(found:List (List Int))(r:List Int)(p:Nat):Option (List Int):=
 if dot (wor E r) (wor E (unitR n p))<0/\(once=true->(addR r (unitR n p)).getD (n-1) 0<2)/\(found.any fun g=>inR g (addR r (unitR n p)))=false then some (addR r (unitR n p)) else none
noncomputable def cands (E:List (List Int))(n:Nat)(once:Bool)(found rows:List (List Int)):List (List Int):=
 rows.flatMap fun r=>(List.range n).filterMap fun p=>cand E n once found r p
noncomputable def foundN (E:List (List Int))(found front:List (List Int)):List (List Int):=found++front.filter fun r=> !isOpen E r
noncomputable def frontN (E:List (List Int))(n:Nat)(once:Bool)(found front:List (List Int)):List (List Int):=(cands E n once (foundN E found front) (front.filter (isOpen E))).foldl ins []
noncomputable def stF (E:List (List Int))(n:Nat)(once:Bool):Nat->List (List Int) × List (List Int)
 | 0=>([],(List.range n).map fun (p:Nat)=>unitR n p)
 | k+1=>(foundN E (stF E n once k).1 (stF E n once k).2,frontN E n once (stF E n once k).1 (stF E n once k).2)
theorem isOpen_iff {E:List (List Int)}{r:List Int}:isOpen E r=true↔¬Even E r:=by
 delta isOpen Even
 rw [List.any_eq_true]
 constructor
 ·intro ⟨x,hx,e⟩ h
  have:=h x hx
  subst this;contradiction
 ·intro h
  apply Classical.byContradiction
  intro h2
  apply h
  intro x hx
  apply Classical.byContradiction
  intro h3
  exact h2 ⟨x,hx,by simpa using h3⟩
theorem isOpen_false {E:List (List Int)}{r:List Int}:isOpen E r=false↔Even E r:=by
 constructor
 ·intro h;apply Classical.byContradiction;intro h2;replace h:=(isOpen_iff.mpr h2 ..).symm.trans h;contradiction
 ·intro h;cases e:isOpen E r with
  | false=>rfl
  | true=>exact absurd h (isOpen_iff.mp e)
theorem ins_mem {l:List (List Int)}{f x:List Int}:x∈ins l f↔x∈l\/x=f:=by
 unfold ins
 split
 ·constructor
  ·exact .inl
  ·rintro (h| rfl)
   ·exact h
   ·assumption
 ·simp
theorem ins_nodup {l:List (List Int)}{f:List Int}(h:l.Nodup):(ins l f).Nodup:=by
 unfold ins
 split
 ·exact h
 ·rename_i q
  rw [List.nodup_append]
  exact ⟨h,by simp,fun a ha b hb=>by simp at hb;subst hb;exact fun e=>q (e▸ha)⟩
theorem foldl_ins_mem {x:List Int}:∀(fs l:List (List Int)),x∈fs.foldl ins l↔x∈l\/x∈fs
 | [],l=>by simp
 | f::fs,l=>by simp only [List.foldl_cons,foldl_ins_mem fs,ins_mem];simp [or_assoc]
theorem foldl_ins_nodup:∀(fs l:List (List Int)),l.Nodup->(fs.foldl ins l).Nodup
 | [],l,h=>h
 | f::fs,l,h=>by exact foldl_ins_nodup fs _ (ins_nodup h)
theorem frontN_mem {E:List (List Int)}{n:Nat}{once:Bool}{found front:List (List Int)}{f:List Int}:
  f∈frontN E n once found front↔∃r∈front,¬Even E r/\∃p,p<n/\f=addR r (unitR n p)/\dot (wor E r) (wor E (unitR n p))<0/\(once=true->f.getD (n-1) 0<2)/\∀g∈foundN E found front,inR g f=false:=by
 unfold frontN
 rw [foldl_ins_mem]
 simp only [cands,List.mem_flatMap,List.mem_filterMap,List.mem_filter,List.mem_range,List.not_mem_nil,false_or]
 constructor
 ·rintro ⟨r,⟨h1,h2⟩,p,hp,h⟩
  unfold cand at h
  split at h
  ·rename_i c
   obtain rfl:=Option.some.inj h
   refine ⟨r,h1,isOpen_iff.mp h2,p,hp,rfl,c.1,c.2.1,fun g hg=> ?_⟩
   have:=c.2.2
   rw [List.any_eq_false] at this
   simpa using this g hg
  ·contradiction
 ·rintro ⟨r,h1,h2,p,hp,rfl,h3,h4,h5⟩
  refine ⟨r,⟨h1,isOpen_iff.mpr h2⟩,p,hp,?_⟩
  unfold cand
  have h6:((foundN E found front).any fun g=>inR g (addR r (unitR n p)))=false:=by
   rw [List.any_eq_false]
   intro g hg
   simp [h5 g hg]
  exact (if_pos ⟨h3,h4,h6⟩ ..)
inductive Reach (E:List (List Int))(n:Nat)(once:Bool):List (List Int)->List Int->Prop
 | unit {p:Nat} (hp:p<n):Reach E n once [] (unitR n p)
 | step {R:List (List Int)} {v:List Int} {p:Nat} (x:Reach E n once R v) (ne:¬Even E v) (hp:p<n) (h:dot (wor E v) (wor E (unitR n p))<0) (ho:once=true->(addR v (unitR n p)).getD (n-1) 0<2):
   Reach E n once (v::R) (addR v (unitR n p))
section
variable {E:List (List Int)} {n:Nat} {once:Bool} {R:List (List Int)} {v:List Int}
theorem Reach.row (x:Reach E n once R v):Row n v:=by
 induction x with
 | unit hp=>exact Row.unit
 | step x ne hp h ho ih=>exact ih.add Row.unit
theorem Reach.last (x:Reach E n once R v)(o:once=true):v.getD (n-1) 0<2:=by
 cases x with
 | unit hp=>rw [unitR_get _ _ _ (z114 hp)];split<;>decide
 | step x ne hp h ho=>exact ho o
theorem le_add_unit {p:Nat}(r:Row n v):Le v (addR v (unitR n p)):=fun i=>by
 rw [addR_get (by exact (r.len ..).trans (unitR_len ..).symm)]
 have:=(Row.unit (n:=n) (p:=p)).pos i
 exact z115 this
theorem sum_add_unit {p:Nat}(r:Row n v)(hp:p<n):(addR v (unitR n p)).sum=v.sum+1:=by
 rw [sum_addR (by exact (r.len ..).trans (unitR_len ..).symm),sum_unit hp]
theorem Reach.len (x:Reach E n once R v):v.sum=R.length+1:=by
 induction x with
 | unit hp=>rw [sum_unit hp];rfl
 | step x ne hp h ho ih=>rw [sum_add_unit x.row hp,ih];rfl
theorem Reach.back (x:Reach E n once R v):∀r∈R,Row n r/\Le r v/\r.sum<v.sum/\¬Even E r:=by
 induction x with
 | unit hp=>intro r hr;contradiction
 | step x ne hp h ho ih=>
  intro r hr
  have h1:=sum_add_unit x.row hp
  rcases List.mem_cons.mp hr with rfl| hr
  ·exact ⟨x.row,le_add_unit x.row,z116 h1,ne⟩
  ·obtain ⟨a,b,c,d⟩:=ih r hr
   exact ⟨a,b.trans (le_add_unit x.row),z117 c h1,d⟩
theorem Reach.chain (x:Reach E n once R v):R.Pairwise fun a b=>Le b a/\b.sum<a.sum:=by
 induction x with
 | unit hp=>exact .nil
 | step x ne hp h ho ih=>
  refine List.Pairwise.cons (fun b hb=> ?_) ih
  obtain ⟨_,h1,h2,_⟩:=x.back b hb
  exact ⟨h1,h2⟩
theorem Reach.inv {P:List Int->Prop}(x:Reach E n once R v)(h0:∀p,p<n->P (unitR n p))(h1:∀R v p,Reach E n once R v->P v->¬Even E v->p<n->dot (wor E v) (wor E (unitR n p))<0->(once=true->(addR v (unitR n p)).getD (n-1) 0<2)->P (addR v (unitR n p))):P v/\∀r∈R,P r:=by
 induction x with
 | unit hp=>exact ⟨h0 _ hp,fun r hr=>by cases hr⟩
 | step x ne hp h ho ih=>
  refine ⟨h1 _ _ _ x ih.1 ne hp h ho,fun r hr=> ?_⟩
  rcases List.mem_cons.mp hr with rfl| hr
  ·exact ih.1
  ·exact ih.2 r hr
end
structure Alive (E:List (List Int))(n:Nat)(once:Bool)(R:List (List Int))(v:List Int):Prop where
 reach:Reach E n once R v
 bare:∀g,Row n g->Even E g->0<g.sum->Le g v->g=v
theorem Alive.nodup {E:List (List Int)}{n:Nat}{once:Bool}{R:List (List Int)}{v:List Int}(x:Alive E n once R v):(R.map (wor E)).Nodup:=by
 have hb:=x.reach.back
 rw [List.Nodup,List.pairwise_map]
 refine List.Pairwise.imp_of_mem (fun {a b} ha hb' hab e=> ?_) (x.reach.chain)
 obtain ⟨ra,la,sa,_⟩:=hb a ha
 obtain ⟨rb,lb,sb,_⟩:=hb b hb'
 have hl:a.length=b.length:=by exact (ra.len ..).trans (rb.len ..).symm
 have h2:(subR a b).sum=v.sum:=by exact congrArg _ ((x.bare (subR a b) (ra.sub rb hab.1) (Even.sub hl e) (by rw [sum_subR hl];exact z118 hab.2) ((Le.sub ra rb).trans la)) ..)
 rw [sum_subR hl] at h2
 have:=rb.sum_nonneg
 exact z119 this h2 sa
theorem length_le_of_nodup {α:Type} [DecidableEq α]:∀{l F:List α},l.Nodup->(∀x∈l,x∈F)->l.length<=F.length
 | [],F,_,_=>Nat.zero_le _
 | a::l,F,nd,h=>by
  rw [List.nodup_cons] at nd
  have ha:a∈F:=h a (.head _)
  have:=length_le_of_nodup (l:=l) (F:=F.erase a) nd.2 fun x hx=>by
   exact (List.mem_erase_of_ne (fun e:x=a=>nd.1 (e▸hx))).mpr (h x (.tail _ hx))
  have hl:=List.length_erase_of_mem ha
  have:0<F.length:=List.length_pos_of_mem ha
  simp only [List.length_cons]
  exact z120 this hl ‹_›
theorem Alive.level {E:List (List Int)}{n:Nat}{once:Bool}{R:List (List Int)}{v:List Int}{F:List (List Int)}(x:Alive E n once R v)(hF:∀r∈R,wor E r∈F):v.sum<=F.length+1:=by
 rw [x.reach.len]
 have:=length_le_of_nodup x.nodup (F:=F) fun y hy=>by
  obtain ⟨r,hr,rfl⟩:=List.mem_map.mp hy;exact hF r hr
 rw [List.length_map] at this
 exact z121 this
structure Inv (E:List (List Int))(n:Nat)(once:Bool)(k:Nat)(found front:List (List Int)):Prop where
 nd:front.Nodup
 reach:∀v∈front,(∃R,Reach E n once R v)/\v.sum=k+1
 bare:∀v∈front,∀f∈found,¬Le f v
 least:∀f∈found,Least E n f/\(once=true->f.getD (n-1) 0<2)/\f.sum<=k
 ndf:found.Nodup
 all:∀s,Least E n s->(once=true->s.getD (n-1) 0<2)->(s.sum<=k->s∈found)/\(k+1<=s.sum->∃v∈front,Le v s)
section
variable {E:List (List Int)} {n:Nat} {once:Bool} {k:Nat} {found front:List (List Int)}
theorem Inv.only (I:Inv E n once k found front){v:List Int}(hv:v∈front):∀g,Row n g->Even E g->0<g.sum->Le g v->g=v:=fun g rg eg pg lg=>by
 obtain ⟨⟨R,x⟩,hs⟩:=I.reach v hv
 obtain ⟨s,ls,hl⟩:=least_below g.sum.toNat (Nat.le_refl _) rg eg pg
 have hl2:=hl.trans lg
 by_cases q:s.sum<=k
 ·exact absurd hl2 (I.bare v hv s ((I.all s ls (fun o=>by have:=x.last o;have:=hl2 (n-1);exact z122 ‹_› this)).1 q))
 ·have h1:=Le.eq ls.row x.row hl2 (z123 hs q)
  subst h1
  exact Le.eq rg x.row lg (hl.sum ls.row rg)
theorem Inv.alive (I:Inv E n once k found front){v:List Int}(hv:v∈front):∃R,Alive E n once R v:=by
 obtain ⟨⟨R,x⟩,_⟩:=I.reach v hv
 exact ⟨R,x,I.only hv⟩
theorem Inv.mem_found (I:Inv E n once k found front){f:List Int}(hf:f∈foundN E found front):Least E n f/\(once=true->f.getD (n-1) 0<2)/\f.sum<=k+1:=by
 rcases List.mem_append.mp hf with h| h
 ·obtain ⟨a,b,c⟩:=I.least f h;exact ⟨a,b,z124 c⟩
 ·simp only [List.mem_filter] at h
  obtain ⟨⟨R,x⟩,hs⟩:=I.reach f h.1
  exact ⟨⟨x.row,(isOpen_false.mp (by simpa using h.2)),z125 hs,I.only h.1⟩,x.last,z126 hs⟩
theorem Inv.step (hE:∀e∈E,e.length=n)(I:Inv E n once k found front):Inv E n once (k+1) (foundN E found front) (frontN E n once found front) where
 nd:=foldl_ins_nodup _ _ List.nodup_nil
 reach:=fun f hf=>by
  obtain ⟨r,hr,ne,p,hp,rfl,h1,h2,h3⟩:=frontN_mem.mp hf
  obtain ⟨⟨R,x⟩,hs⟩:=I.reach r hr
  exact ⟨⟨_,.step x ne hp h1 h2⟩,by simp only [sum_add_unit x.row hp,hs];rfl⟩
 bare:=fun f hf g hg l=>by
  obtain ⟨r,hr,ne,p,hp,rfl,h1,h2,h3⟩:=frontN_mem.mp hf
  obtain ⟨⟨R,x⟩,hs⟩:=I.reach r hr
  have:=(((I.mem_found hg).1.row).inR (x.row.add Row.unit)).mpr l
  replace this:=(h3 g hg ..).symm.trans this;contradiction
 least:=fun f hf=>by
  obtain ⟨a,b,c⟩:=I.mem_found hf
  exact ⟨a,b,by trivial⟩
 ndf:=by
  unfold foundN
  rw [List.nodup_append]
  refine ⟨I.ndf,I.nd.filter _,fun a ha b hb e=> ?_⟩
  subst e
  have h1:=(I.least a ha).2.2
  have h2:=(I.reach a (List.mem_filter.mp hb).1).2
  exact z127 h2 h1
 all:=fun s ls ho=>by
  refine And.elim (fun h1 h2=> ?_) (I.all s ls ho)
  refine ⟨fun hs=> ?_,fun hs=> ?_⟩
  ·unfold foundN
   rw [List.mem_append]
   by_cases q:s.sum<=k
   ·exact .inl (h1 q)
   ·obtain ⟨v,hv,l⟩:=h2 (z128 q)
    obtain ⟨⟨R,x⟩,hvs⟩:=I.reach v hv
    have:=Le.eq x.row ls.row l (z129 hvs hs)
    subst this
    exact .inr (List.mem_filter.mpr ⟨hv,by rw [isOpen_false.mpr ls.even];rfl⟩)
  ·obtain ⟨v,hv,l⟩:=h2 (z130 hs)
   obtain ⟨⟨R,x⟩,hvs⟩:=I.reach v hv
   have ne:¬Even E v:=fun e=>by
    have:=ls.least v x.row e (z125 hvs) l
    subst this;exact z131 hs hvs
   obtain ⟨j,hj,h3,h4⟩:=step_to hE x.row ls.row ls.even ne l
   have hle:Le (addR v (unitR n j)) s:=fun i=>by
    rw [addR_get (by exact (x.row.len ..).trans (unitR_len ..).symm)]
    by_cases hi:i<n
    ·rw [unitR_get _ _ _ hi]
     split
     ·rename_i e;subst e;assumption
     ·have:=l i;exact z132 this
    ·rw [List.getD_eq_getElem?_getD (l:=unitR n j),List.getElem?_eq_none (by rw [unitR_len];exact z12 hi)]
     have:=l i;simp only [Option.getD_none];exact z132 this
   refine ⟨addR v (unitR n j),frontN_mem.mpr ⟨v,hv,ne,j,hj,rfl,h4,fun o=> ?_,fun g hg=> ?_⟩,hle⟩
   ·have:=hle (n-1);lia
   ·obtain ⟨a,b,c⟩:=I.mem_found hg
    cases e:inR g (addR v (unitR n j)) with
    | false=>rfl
    | true=>
     have:=ls.least g a.row a.even a.pos (((a.row.inR (x.row.add Row.unit)).mp e).trans hle)
     lia
theorem Inv.zero:Inv E n once 0 [] ((List.range n).map fun (p:Nat)=>unitR n p) where
 nd:=by
  rw [List.Nodup,List.pairwise_map]
  refine List.Pairwise.imp_of_mem (fun {a b} ha hb hab e=> ?_) (List.pairwise_lt_range (n:=n))
  simp only [List.mem_range] at ha hb
  have:=congrArg (fun l=>l.getD a 0) e
  simp only [unitR_get n a a ha,unitR_get n b a ha] at this
  rw [if_pos trivial,if_neg (z8 hab)] at this
  lia
 reach:=fun v hv=>by
  obtain ⟨p,hp,rfl⟩:=List.mem_map.mp hv
  simp only [List.mem_range] at hp
  exact ⟨⟨[],.unit hp⟩,by rw [sum_unit hp];rfl⟩
 bare:=fun v hv f hf=>by cases hf
 least:=fun f hf=>by contradiction
 ndf:=List.nodup_nil
 all:=fun s ls ho=>by
  refine ⟨fun hs=> ?_,fun hs=> ?_⟩
  ·have:=ls.pos;lia
  ·have hp:=ls.pos
   rw [ls.row.sum] at hp
   obtain ⟨i,hi,e⟩:=sumN_neg_some (n:=n) (f:=fun i=> -(s.getD i 0)) (by
    have:sumN n (fun i=> -(s.getD i 0))= -sumN n (fun i=>s.getD i 0):=by
     simpa using (sumN_mul n (-1) (fun i=>s.getD i 0))
    exact z18 hp this)
   refine ⟨unitR n i,List.mem_map.mpr ⟨i,List.mem_range.mpr hi,rfl⟩,fun j=> ?_⟩
   by_cases hj:j<n
   ·rw [unitR_get _ _ _ hj]
    split
    ·rename_i q;subst q;exact z134 e
    ·exact ls.row.pos j
   ·rw [List.getD_eq_getElem?_getD (l:=unitR n i),List.getElem?_eq_none (by rw [unitR_len];exact z12 hj)]
    exact ls.row.pos j
theorem Inv.at (hE:∀e∈E,e.length=n):∀k,Inv E n once k (stF E n once k).1 (stF E n once k).2
 | 0=>Inv.zero
 | k+1=>(Inv.at hE k).step hE
theorem Inv.done (I:Inv E n once k found []):found.Nodup/\∀s,s∈found↔Least E n s/\(once=true->s.getD (n-1) 0<2):=by
 refine ⟨I.ndf,fun s=>⟨fun h=>⟨(I.least s h).1,(I.least s h).2.1⟩,fun ⟨h1,h2⟩=> ?_⟩⟩
 obtain ⟨a,b⟩:=I.all s h1 h2
 by_cases q:s.sum<=k
 ·exact a q
 ·obtain ⟨v,hv,_⟩:=b (z128 q);contradiction
end
end Mine
namespace Mine
open PySem PySem.Calls PyProof.Rows
section
variable {c:Cx} {A:Around} {fr:List Addr} {σ:Sto} {X:Addr->Sto->Prop} {Q:D->Sto->Prop} {env:Env} {m:Vars} {N:Vars->Sto->Prop} {R:D->Sto->Prop}
theorem W1.while {test:Expr}{body:List Stmt}{pos:Pos}{sc:Scope}(fe:Fe A env sc)(L:Nat->Vars->Sto->Prop)(n:Nat)(h0:L n m σ)
  (turn:∀k m' σ',L k m' σ'->WT c A fr env m' σ' test (fun b σ1=>if b=true then WS c A fr env m' σ1 body (fun m'' σ''=>∃j,j<k/\L j m'' σ'') R X else N m' σ1) X):
  W1 c A fr env m σ (.While test body [] pos) N R X:=fun s ok fm=>by
 have hin:=ok.frames_in
 refine wpAny_While (codeAny_whileLoop (fun k s'=>∃m' σ',L k m' σ'/\Post (Fa env) fr σ s s' σ'/\Ok c A fr σ' s'.heap/\Fm env m' fr (keys σ'++fr) s'.heap) ?_ n ⟨m,σ,h0,Post.refl ..,ok,fm⟩)
 rintro k s' ⟨m',σ',hL,p,okk,fmk⟩
 refine wpAny_mono (turn k m' σ' hL s' okk fmk) (fun b s2 hz=> ?_) fun v s3 x=>Ex.loop (wr:=[]) fe.stack fe.frame hin fm.inn (Post.refl ..) (fun a ha=>by contradiction) p (x.wide fmk)
 obtain ⟨b',σ2,p2,ok2,e,q⟩:=hz
 subst e
 have fm2:=fmk.move p2
 have pp:=p.trans (p2.wide (F':=Fa env) (by exact List.nil_subset _))
 cases b with
 | true=>
  dsimp only [if_true] at q⊢
  refine wpAny_mono (q s2 ok2 fm2) (fun fl s3 hx=> ?_) fun v s3 x=>Ex.loop (wr:=[]) fe.stack fe.frame hin fm.inn (Post.refl ..) (fun a ha=>by contradiction) pp x
  obtain ⟨out,σ3,p3,ok3,r3,q3⟩:=hx
  cases out with
  | next m3=>
   obtain ⟨rfl,fm3⟩:=r3
   obtain ⟨j,hj,hL'⟩:=q3
   exact ⟨j,hj,m3,σ3,hL',pp.trans p3,ok3,fm3⟩
  | ret d=>
   obtain ⟨v,rfl,hv,fv⟩:=r3
   exact ⟨.ret d,σ3,pp.trans p3,ok3,⟨v,rfl,hv,fv⟩,q3⟩
 | false=>
  exact wpAny_execs_nil ⟨.next m',σ2,pp,ok2,⟨rfl,fm2⟩,q⟩
theorem WE.dict0 (gd:c.Good){pos:Pos}(h:∀a,a∉keys σ->Q (.ref a) ((a,.rows [])::σ)):WE c A fr env m σ (.Dict [] [] pos) Q X:=fun s ok fm=>by
 have kp:∀b o,s.heap.get? b=some o->(s.heap.push {cls:=.type "dict",data:=.dict #[]}).get? b=some o:=fun b o e=>Heap.get?_push_of_some _ e
 have hsz:3<s.heap.objs.size:=by
  obtain ⟨o,es,ep,g0,_⟩:=gd.g
  exact Heap.lt_size (ok.base _ _ g0)
 refine wpAny_Dict_empty ⟨.ref s.heap.objs.size,(s.heap.objs.size,.rows [])::σ,Post.add (tk:=s.toks) kp (Nat.le_refl _),Ok.add (o:=.rows []) ok kp (Nat.le_refl _) ⟨[],rfl,⟨Vs.nil,beq_eq_false_iff_ne.mpr fun e=>by exact z989 hsz (e)⟩,Heap.DictOfH.new _⟩,by rfl,h _ fun z=> ?_⟩
 exact Nat.lt_irrefl _ (ok.lt (List.mem_append_left _ z))
theorem atKey_rows {rs:List (List Int)}{as:List Addr}(hl:as.length=rs.length){f:List Int}:(atKey (rowItems rs as) f).isSome=decide (f∈rs):=by
 unfold atKey
 simp only [Option.isSome_map,List.isSome_find?]
 apply Bool.eq_iff_iff.mpr
 simp only [List.any_eq_true,decide_eq_true_eq]
 constructor
 ·rintro ⟨x,hx,e⟩
  obtain ⟨p,hp,rfl⟩:=List.mem_map.mp hx
  simp only at e
  exact e▸((List.of_mem_zip hp).1)
 ·intro hf
  obtain ⟨i,hi,e⟩:=List.mem_iff_getElem.mp hf
  refine ⟨(rs[i],as[i]'(z23 hi hl),Value.bool true),?_,by trivial⟩
  exact List.mem_map.mpr ⟨(rs[i],as[i]'(z23 hi hl)),List.mem_iff_getElem.mpr ⟨i,by simp;exact z990 hi hl,by simp⟩,rfl⟩
theorem rows_stored {K:List Addr}{h:Heap}{rs:List (List Int)}{as:List Addr}{b:Addr}(hl:as.length=rs.length){f:List Int}(hv:Vs K h (rs.map row) (as.map .ref))(hb:V K h (row f) (.ref b)):∃as',as'.length=(ins rs f).length/\Vs K h ((ins rs f).map row) (as'.map .ref)/\storedH (rowItems rs as) f b (.bool true)=rowItems (ins rs f) as':=by
 delta storedH ins
 rw [atKey_rows hl]
 by_cases q:f∈rs
 ·rw [decide_eq_true q]
  simp only [if_true]
  rw [if_pos q]
  refine ⟨as,hl,hv,?_⟩
  have:∀x∈rowItems rs as,putAt f (.bool true) x=x:=fun x hx=>by
   obtain ⟨p,hp,rfl⟩:=List.mem_map.mp hx
   unfold putAt
   split<;>rfl
  exact (List.map_congr_left this ..).trans (List.map_id' ..)
 ·rw [decide_eq_false q]
  rw [if_neg q]
  refine ⟨as++[b],by simp [hl],by simp only [List.map_append];exact hv.append (Vs.cons hb Vs.nil),?_⟩
  unfold rowItems
  simp only [List.zip_append hl.symm,List.map_append]
  rfl
theorem V.isKey {K:List Addr}{h:Heap}{f:List Int}{v:Value}(x:V K h (row f) v):∃b,v=.ref b/\b∉K/\IsTupleKey (intKind c.prog c.w) h f b:=by
 obtain ⟨b,vs,n,rfl,nk,g,r⟩:=x
 refine ⟨b,rfl,nk,_,vs.toArray,n,g,rfl,rfl,?_⟩
 simp only
 clear g nk
 induction f generalizing vs with
 | nil=>
  simp only [List.map_nil] at r
  subst r;exact .nil
 | cons i f ih=>
  obtain ⟨v,us,rfl,x1,x2⟩:=r
  obtain ⟨t,rfl⟩:=x1.toInt
  exact .cons (by simp [intKind,Value.isInt]) (ih us x2)
theorem W1.setRow {n:Nat}(rm:Room n A){o i value:Expr}{pos' pos:Pos}(h:WE c A fr env m σ value (fun dv σ1=>dv=.bool true/\WE c A fr env m σ1 o (fun d σ2=>WE c A fr env m σ2 i (fun di σ3=>∃(a:Addr) (rs:List (List Int)) (f:List Int) (σa σb:Sto),d=.ref a/\di=row f/\σ3=σa++(a,.rows rs)::σb/\rs.length<=sizeLine/\N m (σa++(a,.rows (ins rs f))::σb)) X) X) X)
  (hs:swapsWith value (some (.Subscript o i pos')) pos.line env=pure false):W1 c A fr env m σ (.Assign [.Subscript o i pos'] value pos) N R X:=fun s ok fm=>by
 refine wpAny_Assign_Subscript (wpAny_mono (h s ok fm) (fun v s1 hx=> ?_) fun _ _ x=>x.wide fm) hs
 obtain ⟨dv,τ1,p1,ok1,x1,rfl,q1⟩:=hx
 refine wpAny_mono (q1 s1 ok1 (fm.move p1)) (fun ov s2 hx=> ?_) fun _ _ x=>(Ex.back (G:=none) p1 x fun _ _ y=>y).wide fm
 obtain ⟨d,τ2,p2,ok2,x2,q2⟩:=hx
 refine wpAny_mono (q2 s2 ok2 ((fm.move p1).move p2)) (fun iv s3 hx=> ?_) fun _ _ x=>(Ex.back (G:=none) (p1.trans p2) x fun _ _ y=>y).wide fm
 obtain ⟨di,τ3,p3,ok3,x3,a,rs,f,σa,σb,rfl,rfl,rfl,hsz,q⟩:=hx
 have x2':=p3.v x2
 subst x2'
 subst x1
 obtain ⟨b,rfl,nb,hkey⟩:=V.isKey (c:=c) x3
 have ha:a∈keys (σa++(a,O.rows rs)::σb):=by simp [keys]
 obtain ⟨as,hl,hn,hd⟩:=ok3.sto (a,O.rows rs) (by simp)
 refine wpAny_setItem_heap (knd:=tupleKind (intKind c.prog c.w)) (k:=f) (tupleKind_room_in1 (by have e:cLine=9900:=rfl;exact z991 (rm.1.2) e)) hkey hd (fun h' hd' hb=> ?_) (by unfold rowItems;simp [hl];exact hsz)
 have k':∀b ob,b≠a->s3.heap.get? b=some ob->h'.get? b=some ob:=fun b ob hne e=>by exact (hb.2 b hne ..).trans (e)
 obtain ⟨as',l1,l2,l3⟩:=rows_stored (b:=b) hl (f:=f) hn.1 x3
 simp only [l3] at hd'
 have pp:Post [] fr (σa++(a,.rows rs)::σb) s3 {s3 with heap:=h',toks:=s3.toks+(tupleKind (intKind c.prog c.w)).draws f} (σa++(a,.rows (ins rs f))::σb):=Post.put (fun z=>(List.nodup_append.mp ok3.nd).2.2 a ha a z rfl) k' (by obtain ⟨o,_,_,e,_⟩:=hd';exact ⟨o,e⟩)
 refine ⟨.next m,_,(((p1.trans p2).trans p3).trans pp).wide (by exact List.nil_subset _),ok3.put k' ⟨as',l1,⟨Vs.move (fun b ob nb e=>k' b ob (fun z=>nb (by simp only [z];exact List.mem_append_left _ ha)) e) (fun _ z=>.inl z) _ _ l2,hn.2⟩,hd'⟩,⟨rfl,(((fm.move p1).move p2).move p3).move pp⟩,q⟩
end
end Mine
set_option maxRecDepth 100000
namespace Mine
open PySem PySem.Calls PyProof.Rows
noncomputable def RawD (h:Heap)(d:Addr)(es:Array DictEntry)(ep:Nat):Prop:=∃o,h.get? d=some o/\o.ExactDict/\o.data=.dict es ep
theorem RawD.ty {s:Shared}{d:Addr}{es:Array DictEntry}{ep:Nat}(x:RawD s.heap d es ep):s.TypeIs (.ref d) "dict":=let ⟨o,ho,hc,_⟩:=x;⟨o,ho,hc.1⟩
theorem RawD.at {h h':Heap}{d:Addr}{es:Array DictEntry}{ep:Nat}(x:RawD h d es ep)(e:∀o,h.get? d=some o->h'.get? d=some o):RawD h' d es ep:=let ⟨o,ho,r⟩:=x;⟨o,e _ ho,r⟩
section
variable {prog:Program} {w:World} {A:Around} {E:Value->Shared->Prop} {s:Shared} {d:Addr} {es:Array DictEntry} {ep:Nat}
theorem iterD {Q:Value->Shared->Prop}(hd:(d==sysModules)=false)(hm:RawD s.heap d es ep)
  (hQ:Q (.ref s.heap.objs.size) {s with heap:=s.heap.push {cls:=.type "dict_keyiterator",data:=.fields #[.ref d,.int 0 0,.int es.size 0,.int ep 0]}}):wpAny (model prog w) A (pyIter (.ref d)) Q E s:=by
 obtain ⟨o,ho,hc,hdat⟩:=id hm
 have hT:=hm.ty
 refine wpAny_pyIter_slot hT F.slot_dict_iter (wpAny_call_entry F.slot_dict_iter hT F.entry_dict_iter ?_ (F.args_dict_iter_1 _))
 refine wpAny_bind ?_
 refine wpAny_bind (wpAny_notOrdered_dict hT ?_)
 show wpAny _ _ (pure (Value.ref d)) _ _ s
 refine wpAny_pure ?_
 show wpAny _ _ (Builtin.Dict.showsAll d>>=_) _ _ s
 unfold Builtin.Dict.showsAll
 rw [if_neg (by rw [hd];exact Bool.false_ne_true)]
 refine wpAny_bind (wpAny_pure ?_)
 refine wpAny_bind (wpAny_dictEntries ho hdat ?_)
 refine wpAny_bind (wpAny_dictEpoch ho hdat ?_)
 refine wpAny_bind (wpAny_newObj_type (wpAny_pure ⟨_,rfl,"dict_keyiterator",_,⟨_,Heap.get?_push_size _ rfl,rfl⟩,F.slot_dict_keyiterator_next.lookup,?_⟩))
 trivial
theorem nextD {it:Addr}{i:Nat}{en:DictEntry}{Q:Option Value->Shared->Prop}(hit:s.heap.IsKeyIter it d i es.size ep)(hm:RawD s.heap d es ep)(hx:es[i]? =some en)
  (hQ:∀h',h'.IsKeyIter it d (i+1) es.size ep->Heap.SameBut it s.heap h'->Q (some en.key) {s with heap:=h'}):wpAny (model prog w) A (pyNext (.ref it)) Q E s:=by
 obtain ⟨o,ho,hc,hd⟩:=id hit
 obtain ⟨od,hod,hcd,hdd⟩:=id hm
 refine wpAny_bind (wpAny_attempt (wpAny_callSpecial?_slot (name:=Str.ofString "__next__") hit.typeIs F.slot_dict_keyiterator_next
  (wpAny_call_entry F.slot_dict_keyiterator_next hit.typeIs F.entry_dict_keyiterator_next ?_ (F.args_dict_keyiterator_next_1 _))))
 refine wpAny_bind (wpAny_pure ?_)
 refine wpAny_bind ?_
 refine wpAny_bind ?_
 first| refine wpAny_bind (wpAny_typeNameOfWhole_keyiter hit.typeIs (wpAny_pure ?_))| refine wpAny_bind (wpAny_typeNameOf_keyiter hit.typeIs (wpAny_pure ?_))
 refine wpAny_bind (wpAny_fieldsOf ho hd ?_)
 show wpAny _ _ (if (Value.ref d==Value.none)=true then _ else _) _ _ s
 refine wpAny_bind (wpAny_pure ?_)
 refine wpAny_bind (wpAny_dictEntries hod hdd ?_)
 rw [if_neg (by simp)]
 refine wpAny_bind (wpAny_pure ?_)
 refine wpAny_bind (wpAny_dictEpoch hod hdd ?_)
 rw [if_neg (by simp)]
 refine wpAny_pure ?_
 simp only [show ¬((i:Int)<0) from z619,if_false,Int.toNat_natCast,hx]
 refine wpAny_bind ?_
 first| refine wpAny_bind (wpAny_typeNameOfWhole_keyiter hit.typeIs (wpAny_pure ?_))| refine wpAny_bind (wpAny_typeNameOf_keyiter hit.typeIs (wpAny_pure ?_))
 refine wpAny_bind (wpAny_isOneOf_keyiter hit.typeIs ?_)
 show wpAny _ _ (setField (.ref it) 1 (rawInt ((i:Int)+1))>>=_) _ _ s
 refine wpAny_bind (wpAny_setField ho hd (by exact Nat.le_add_left _ _) ?_)
 have hit':(s.heap.update it (Obj.mapFields (·.setIfInBounds 1 (rawInt ((i:Int)+1))))).IsKeyIter it d (i+1) es.size ep:=
  ⟨_,Heap.get?_update_self _ ho (Obj.isFreed_of_fields (Obj.data_mapFields hd _)),(Obj.cls_mapFields ..).trans hc,by rw [Obj.data_mapFields hd];rfl⟩
 refine wpAny_bind (wpAny_holding ?_)
 refine wpAny_bind (wpAny_isOneOf_keyiter (s:={s with heap:=s.heap.update it (Obj.mapFields (·.setIfInBounds 1 (rawInt ((i:Int)+1))))}) hit'.typeIs ?_)
 exact wpAny_pure (wpAny_pure ⟨_,rfl,wpAny_pure (hQ _ hit' (Heap.SameBut.update ..))⟩)
theorem endD {it:Addr}{i:Nat}{Q:Option Value->Shared->Prop}(hh:A.handled=none)(hit:s.heap.IsKeyIter it d i es.size ep)(hm:RawD s.heap d es ep)(hge:es.size<=i)
  (hQ:∀h',Heap.ExtBut it s.heap h'->Q none {s with heap:=h'}):wpAny (model prog w) A (pyNext (.ref it)) Q E s:=by
 obtain ⟨o,ho,hc,hd⟩:=id hit
 obtain ⟨od,hod,hcd,hdd⟩:=id hm
 refine wpAny_bind (wpAny_attempt (wpAny_callSpecial?_slot (name:=Str.ofString "__next__") hit.typeIs F.slot_dict_keyiterator_next
  (wpAny_call_entry F.slot_dict_keyiterator_next hit.typeIs F.entry_dict_keyiterator_next ?_ (F.args_dict_keyiterator_next_1 _))))
 refine wpAny_bind (wpAny_pure ?_)
 refine wpAny_bind ?_
 refine wpAny_bind ?_
 first| refine wpAny_bind (wpAny_typeNameOfWhole_keyiter hit.typeIs (wpAny_pure ?_))| refine wpAny_bind (wpAny_typeNameOf_keyiter hit.typeIs (wpAny_pure ?_))
 refine wpAny_bind (wpAny_fieldsOf ho hd ?_)
 show wpAny _ _ (if (Value.ref d==Value.none)=true then _ else _) _ _ s
 refine wpAny_bind (wpAny_pure ?_)
 refine wpAny_bind (wpAny_dictEntries hod hdd ?_)
 rw [if_neg (by simp)]
 refine wpAny_bind (wpAny_pure ?_)
 refine wpAny_bind (wpAny_dictEpoch hod hdd ?_)
 rw [if_neg (by simp)]
 refine wpAny_pure ?_
 simp only [show ¬((i:Int)<0) from z619,if_false,Int.toNat_natCast,Array.getElem?_eq_none hge]
 refine wpAny_bind ?_
 first| refine wpAny_bind (wpAny_typeNameOfWhole_keyiter hit.typeIs (wpAny_pure ?_))| refine wpAny_bind (wpAny_typeNameOf_keyiter hit.typeIs (wpAny_pure ?_))
 show wpAny _ _ (setField (.ref it) 0 .none>>=_) _ _ s
 refine wpAny_bind (wpAny_setField ho hd (by exact Nat.le_add_left _ _) ?_)
 refine wpAny_bind ?_
 refine wpAny_bind (wpAny_newObj_type ?_ (by size_fits))
 refine wpAny_bind (m:=firstArgMember _ _) (wpAny_of_eq (a:=Value.none) (by first| rfl| (simp only [firstArgMember];rfl)) ?_)
 refine wpAny_newObj_type ?_ (by size_fits)
 simp only [raiseNew]
 refine wpAny_bind (wpAny_handled ?_)
 rw [show A.in1.handled=none from hh]
 refine wpAny_bind (wpAny_pure (wpAny_throw ?_))
 refine wpAny_bind (wpAny_isInstance (T:="StopIteration") (b:=true) ⟨_,Heap.get?_push_size _ rfl,rfl⟩ isSubtype_stop ?_)
 exact wpAny_pure (hQ _ (((Heap.SameBut.update ..).extBut.push _).push _))
theorem walkD (hh:A.handled=none)(I:Addr)(hne:d≠I):Walks prog w A I [I,d] [I] es.size (fun i v=>∃e,es[i]? =some e/\v=e.key) (fun i h=>h.IsKeyIter I d i es.size ep/\RawD h d es ep) where
 sub:=fun b hb=>by simp at hb;simp [hb]
 frame:=fun _ _ _ st hk=>⟨st.1.at fun o e=>hk I (by exact .head _) o e,st.2.at fun o e=>hk d (by simp) o e⟩
 item:=fun i s Q E hi st hQ=>by
  have hx:es[i]? =some es[i]:=by simp
  refine nextD st.1 st.2 hx fun h' hit' hs'=> ?_
  exact hQ _ h' s.toks ⟨_,hx,rfl⟩ ⟨hit',st.2.at fun o e=>(hs'.2 d hne).trans e⟩ fun b o hb e=>hs'.extBut b o (fun h=>hb (by simp [h])) e
 done:=fun s Q E st hQ=>endD hh st.1 st.2 (Nat.le_refl _) fun h' he'=>hQ h' s.toks fun b o hb e=>he' b o (fun h=>hb (by simp [h])) e
 self:=fun _ _ _ _ st hQ=>wpAny_pyIter_keyiter st.1 hQ
theorem hintD {Q:Bool->Shared->Prop}(hd:(d==sysModules)=false)(hm:RawD s.heap d es ep)(h:Q false s):wpAny (model prog w) A (Builtin.List.listLengthHint (.ref d)) Q E s:=by
 refine wpAny_bind (wpAny_specialOf hm.ty F.slot_dict_len.lookup ?_)
 generalize hid:("dict.__len__":String)=id0
 wp_delta
 subst hid
 refine wpAny_bind (wpAny_isInstance (T:="dict") (b:=true) hm.ty (by kernel_rfl) ?_)
 refine wpAny_ite_split (fun hab=>absurd hab (by decide)) (fun _=> ?_)
 refine wpAny_ite_split (fun _=> ?_) (fun hab=>absurd (by decide+kernel) hab)
 refine wpAny_bind (wpAny_typeOf hm.ty ?_)
 exact wpAny_pure h
theorem extendD {R:Result->Shared->Prop}(hh:A.handled=none)(hd:(d==sysModules)=false)(hm:RawD s.heap d es ep)(hlen:es.size<=2^24)(S:Addr)(res:Value)(c₀:Nat)(hS:s.heap.get? S=some {cls:=.type "list",data:=.seq #[] c₀})
  (hR:∀h' tk acc' c',(∀b o,b≠S->s.heap.get? b=some o->h'.get? b=some o)->h'.get? S=some {cls:=.type "list",dict:=none,data:=.seq acc' c',slots:= #[]}->
   ItemsOf (fun i v=>∃e,es[i]? =some e/\v=e.key) acc' es.size->R (.ok (.ret res)) {s with heap:=h',toks:=tk}):
  wpAny (model prog w) A.in1 (Builtin.List.listExtendWith (.ref S) (.ref d) res)
   (fun fin s'=>match fin with| .done f=>R (.ok f) s'| .again c'=>c'.quiet=true/\codeAny (model prog w) A c' R s') (fun e s'=>R (.error e) s') s:=by
 have hSr:S≠d:=fun e=>by
  obtain ⟨o,ho,hc,hdat⟩:=hm
  simp only [e,ho] at hS
  obtain rfl:=Option.some.inj hS
  contradiction
 have hdlt:=let ⟨o,ho,_⟩:=hm;Heap.lt_size ho
 have hSI:=Nat.ne_of_lt (Heap.lt_size hS)
 have hdI:=Nat.ne_of_lt hdlt
 have key:∀(h:Heap) (c₁ tk:Nat),h.IsKeyIter s.heap.objs.size d 0 es.size ep->(∀b o,b≠S->s.heap.get? b=some o->h.get? b=some o)->
   h.get? S=some {cls:=.type "list",data:=.seq #[] c₁}->codeAny (model prog w) A (.builtin "list.extend.loop" ⟨[.ref S,.ref s.heap.objs.size,res],[]⟩) R {s with heap:=h,toks:=tk}:=by
  intro h c₁ tk hit hk hS₁
  refine codeAny_extend_loopS ((walkD (prog:=prog) (w:=w) (A:=A.in1) (es:=es) (ep:=ep) hh s.heap.objs.size hdI).toS) (by rw [PySem.sizeLine_eq];exact z874 hlen) S (fun hmem=>by
  simp only [List.mem_cons,List.not_mem_nil,or_false] at hmem
  exact hmem.elim hSI hSr) res es.size 0 _ #[] c₁ rfl (Nat.zero_le _) ⟨hit,hm.at fun o e=>hk d o (Ne.symm hSr) e⟩ hS₁ (ItemsOf.nil _) fun s' acc' c' hm' hS' hacc=> ?_
  rw [Moved.eq_with hm']
  refine hR s'.heap s'.toks acc' c' (fun b o hb e=>hm'.heap b o (fun hmem=> ?_) (hk b o hb e)) hS' hacc
  rcases List.mem_cons.mp hmem with e'| hmem
  ·exact hb e'
  ·exact absurd (Heap.lt_size e) (by rw [List.mem_singleton.mp hmem];exact Nat.lt_irrefl _)
 unfold Builtin.List.listExtendWith
 refine wpAny_bind (wpAny_typeOf (T:="dict") hm.ty ?_)
 have h1:Builtin.List.listSameRef (.ref S) (.ref d)=false:=(show Builtin.List.listSameRef (.ref S) (.ref d)=(S==d) from rfl).trans (by simp [hSr])
 have h2:(Value.type "dict"==Value.type "list")=false:=by decide
 have h3:(Value.type "dict"==Value.type "tuple")=false:=by decide
 rw [if_neg (show ¬(Builtin.List.listSameRef (.ref S) (.ref d)|| Value.type "dict"==Value.type "list"|| Value.type "dict"==Value.type "tuple")=true from by rw [h1,h2,h3];decide)]
 refine wpAny_bind (iterD hd hm ?_)
 refine wpAny_bind (wpAny_holding (hintD hd (hm.at fun o e=>Heap.get?_push_of_some _ e) ?_))
 have hit₁:(s.heap.push {cls:=.type "dict_keyiterator",data:=.fields #[.ref d,.int 0 0,.int es.size 0,.int ep 0]}).IsKeyIter s.heap.objs.size d 0 es.size ep:=⟨_,Heap.get?_push_size _ rfl,rfl,rfl⟩
 have hS₁:=Heap.get?_push_of_some {cls:=.type "dict_keyiterator",data:=.fields #[.ref d,.int 0 0,.int es.size 0,.int ep 0]} hS
 refine wpAny_ite_split (fun _=> ?_) (fun _=>wpAny_pure ⟨plainId_quiet F.plain_extend_loop _,key _ c₀ _ hit₁ (fun b o _ e=>Heap.get?_push_of_some _ e) hS₁⟩)
 refine wpAny_bind (wpAny_rule ?_)
 refine wpAny_bind ?_
 show wpAny _ _ (updateSeq S (·.push .none)>>=fun _=>updateSeq S (·.pop)) _ _ _
 refine wpAny_bind (wpAny_updateSeq hS₁ rfl ?_)
 have hS₂:=Heap.get?_update_self (Obj.mapSeq (·.push Value.none)) hS₁ rfl
 refine wpAny_updateSeq (hz:=by seq_fits) hS₂ rfl ?_
 have hS₃:=Heap.get?_update_self (Obj.mapSeq (·.pop)) hS₂ rfl
 refine wpAny_pure ⟨plainId_quiet F.plain_extend_loop _,key _ _ _ (hit₁.at fun o e=> ?_) (fun b o hb e=> ?_) hS₃⟩
 ·exact (Heap.get?_update_other _ _ hSI).trans ((Heap.get?_update_other _ _ hSI).trans e)
 ·exact (Heap.get?_update_other _ _ (Ne.symm hb)).trans ((Heap.get?_update_other _ _ (Ne.symm hb)).trans (Heap.get?_push_of_some _ e))
theorem initD {R:Result->Shared->Prop}(hh:A.handled=none)(hd:(d==sysModules)=false)(hm:RawD s.heap d es ep)(hlen:es.size<=2^24)(S:Addr)(hS:s.heap.get? S=some {cls:=.type "list",data:=.seq #[]})
  (hR:∀h' tk acc' c',(∀b o,b≠S->s.heap.get? b=some o->h'.get? b=some o)->h'.get? S=some {cls:=.type "list",dict:=none,data:=.seq acc' c',slots:= #[]}->
   ItemsOf (fun i v=>∃e,es[i]? =some e/\v=e.key) acc' es.size->R (.ok (.ret .none)) {s with heap:=h',toks:=tk}):
  wpAny (model prog w) A.in1 (Builtin.«list.__init__» ⟨[.ref S,.ref d],[]⟩)
   (fun fin s'=>match fin with| .done f=>R (.ok f) s'| .again c'=>c'.quiet=true/\codeAny (model prog w) A c' R s') (fun e s'=>R (.error e) s') s:=by
 show wpAny _ _ (do let old<-Builtin.List.listItems (.ref S);Builtin.List.listUpdate (.ref S) (fun _=> #[]);letGo old.toList.reverse;Builtin.List.listExtendWith (.ref S) (.ref d) .none) _ _ s
 refine wpAny_bind ?_
 refine wpAny_bind (wpAny_seqItems hS rfl (wpAny_pure ?_))
 refine wpAny_bind (wpAny_updateSeq hS rfl ?_)
 have hS₂:=Heap.get?_update_self (Obj.mapSeq (fun _=>(#[]:Array Value))) hS rfl
 have oth:∀b o,b≠S->s.heap.get? b=some o->(s.heap.update S (Obj.mapSeq (fun _=>(#[]:Array Value)))).get? b=some o:=
  fun b o hb e=>(Heap.get?_update_other _ _ (Ne.symm hb)).trans e
 refine wpAny_bind (wpAny_letGo ?_)
 refine extendD hh hd (hm.at fun o e=>oth d o (Ne.symm (fun e=>by
  obtain ⟨o,ho,hc,hdat⟩:=hm
  rw [e,ho] at hS
  obtain rfl:=Option.some.inj hS
  contradiction)) e) hlen S .none _ hS₂ fun h' tk acc' c' hk hS' hacc=> ?_
 exact hR h' tk acc' c' (fun b o hb e=>hk b o hb (oth b o hb e)) hS' hacc
theorem listD {Q:Value->Shared->Prop}(hh:A.handled=none)(hd:(d==sysModules)=false)(hm:RawD s.heap d es ep)(hlen:es.size<=2^24)
  (hQ:∀h' tk acc' c',(∀b o,s.heap.get? b=some o->h'.get? b=some o)->h'.get? s.heap.objs.size=some {cls:=.type "list",dict:=none,data:=.seq acc' c',slots:= #[]}->
   ItemsOf (fun i v=>∃e,es[i]? =some e/\v=e.key) acc' es.size->Q (.ref s.heap.objs.size) {s with heap:=h',toks:=tk}):wpAny (model prog w) A (call (.type "list") [.ref d]) Q E s:=by
 refine callType_codes (Q₁:=fun obj s₁=>obj=.ref s.heap.objs.size/\s₁={s with heap:=s.heap.push {cls:=.type "list",data:=.seq #[]}}) F.called_list (F.typeCall_list_1 _) F.entry_list_init
  (code_list_new _ ⟨rfl,rfl⟩) fun obj s₁ h₁=> ?_
 obtain ⟨rfl,rfl⟩:=h₁
 have hS:(s.heap.push {cls:=.type "list",data:=.seq #[]}).get? s.heap.objs.size=some {cls:=.type "list",data:=.seq #[]}:=Heap.get?_push_size _ rfl
 refine ⟨⟨_,hS,rfl⟩,F.args_list_init_2 _ _,initD (A:=A.in1) hh hd (hm.at fun o e=>Heap.get?_push_of_some _ e) hlen _ hS fun h' tk acc' c' hk hS' hacc=> ?_⟩
 exact ⟨rfl,hQ h' tk acc' c' (fun b o e=>hk b o (Nat.ne_of_lt (Heap.lt_size e)) (Heap.get?_push_of_some _ e)) hS' hacc⟩
end
end Mine
namespace Mine
open PySem PySem.Calls PyProof.Rows
section
variable {c:Cx} {A:Around} {fr:List Addr} {σ:Sto} {X:Addr->Sto->Prop} {Q:D->Sto->Prop} {env:Env} {m:Vars} {N:Vars->Sto->Prop} {R:D->Sto->Prop}
theorem At1.listRows {a:Addr}{rs:List (List Int)}(hm:(a,O.rows rs)∈σ)(hh:A.handled=none)(hsz:rs.length<=sizeLine)(h:QL Q (rs.map row) σ):At1 c A fr σ (.type "list") [.ref a] Q X:=.one fun s v ok hv=>by
 subst hv
 obtain ⟨as,hl,⟨hv,hne⟩,o,es,ep,g,ex,hd,he,hk,nd⟩:=ok.sto _ hm
 have hes:es.size=rs.length:=by
  rw [<-Array.length_toList,he];unfold rowItems;simp [hl]
 refine listD hh hne ⟨o,g,ex,hd⟩ (by rw [hes];exact z993 (rfl) hsz) fun h' tk acc' c' kp g' hI=> ?_
 have hn:∀a∈[s.heap.objs.size],s.heap.get? a=none:=fun a ha=>by rw [List.mem_singleton.mp ha];exact none_of_ge (Nat.le_refl _)
 have oka:=ok.more kp hn (fun a ha=>by exact (List.mem_singleton.mp ha)▸⟨_,g'⟩) (by simp)
 have hacc:acc'.toList=as.map Value.ref:=by
  apply List.ext_getElem?
  intro i
  simp only [Array.getElem?_toList,List.getElem?_map]
  cases hq:acc'[i]? with
  | none=>
   have h2:=Array.getElem?_eq_none_iff.mp hq
   rw [List.getElem?_eq_none (z994 hl (hI.1) hes h2)];rfl
  | some v=>
   obtain ⟨en,e1,rfl⟩:=hI.2 i v hq
   rw [entry_at he i] at e1
   obtain ⟨x,hx,rfl⟩:=Option.map_eq_some_iff.mp e1
   unfold rowItems at hx
   replace hx:=(List.getElem?_map ..).symm.trans hx
   obtain ⟨p,hp,rfl⟩:=Option.map_eq_some_iff.mp hx
   obtain ⟨_,hp2⟩:=List.getElem?_zip_eq_some.mp hp
   simp only [hp2];rfl
 refine QL.use (G:=none) (vs:=as.map Value.ref) (n:=c') (s':={s with heap:=h',toks:=tk}) h (Post.keeps kp) oka ok.frames_in (by simp only [g',<-hacc]) (Vs.move (K:=keys σ++fr) (fun b o _ e=>kp b o e) (less_add hn) _ _ hv) (hn _ (by exact .head _))
end
end Mine
namespace Mine
open PySem PySem.Calls PyProof.Rows PySem.W PySem.SeqAt PySem.MeetsSeq PySem.MeetsSeq2 PySem.MeetsSeq3 PySem.SeqRoads2
theorem tuple_geAt (l b:Addr)(items items2:Array Value)(n n2:Nat)(e:Nat->Bool)(r:Value):
  Meets (Builtin.«tuple.__ge__» ⟨[.ref l,.ref b],[]⟩)
   (fun A R s=>s.heap.get? l=some {cls:=.type "tuple",dict:=none,data:=.seq items n,slots:= #[]}/\s.heap.get? b=some {cls:=.type "tuple",dict:=none,data:=.seq items2 n2,slots:= #[]}/\
    (∀j (h1:j<items.size) (h2:j<items2.size),SeqAt.EqAt A.in1 s items[j] items2[j] (e j))/\
    (∀j (h1:j<items.size) (h2:j<items2.size),e j=false->(∀i,i<j->e i=true)->OpAt A.in1 s .GtE items[j] items2[j] r)/\
    ((∀i,i<min items.size items2.size->e i=true)->Builtin.Tuple.tupleCompareSizes .GtE items.size items2.size=r)/\
    R (.ok (.ret r)) s):=
 .of_wp fun prog w A R s h=>by
  obtain ⟨hp,g,d,tk,os⟩:=s;obtain ⟨hl,hb,he,ho,hz0,h⟩:=h
  have f2:=AutoSeq1.sub_tuple_tuple
  have hZ:(items.toList.zip items2.toList).length=min items.size items2.size:=by simp
  wp_walk using AutoSeq1.wpAny_loadPart' hl,AutoSeq1.wpAny_loadPart' hb,wpAny_forIn_list _ (fun rest b s'=>b.1=none/\s'=⟨hp,g,d,tk,os⟩/\∃i,rest=(items.toList.zip items2.toList).drop i/\∀j,j<i->e j=true) _
  case turn=>
   rintro ⟨y,x⟩ rest b s' ⟨hb',rfl,i,hz,hR⟩
   have hlt:i<(items.toList.zip items2.toList).length:=by
    rcases Nat.lt_or_ge i (items.toList.zip items2.toList).length with h'| h'
    ·exact h'
    ·rw [List.drop_of_length_le h'] at hz;cases hz
   have hm:i<min items.size items2.size:=hZ▸hlt
   have h1:i<items.size:=Nat.lt_of_lt_of_le hm (Nat.min_le_left _ _)
   have h2:i<items2.size:=Nat.lt_of_lt_of_le hm (Nat.min_le_right _ _)
   rw [List.drop_eq_getElem_cons hlt] at hz
   injection hz with hyx hrest
   have hy:y=items[i]:=by have:=congrArg Prod.fst hyx;simpa using this
   have hx:x=items2[i]:=by have:=congrArg Prod.snd hyx;simpa using this
   subst hy hx
   refine wpAny_bind (he i h1 h2 prog w _ _ ?_)
   cases hy:e i with
   | true=>
    wp_walk
    exact ⟨rfl,rfl,i+1,hrest,fun j hj=>by
     by_cases hji:j=i
     ·subst hji;exact hy
     ·exact hR j (z6 hj hji)⟩
   | false=>
    refine wpAny_bind (wpAny_rule ?_)
    refine wpAny_bind (ho i h1 h2 hy hR prog w _ _ ?_)
    wp_walk
    exact ⟨_,rfl,h⟩
  case fin=>
   rintro ⟨b1,b2⟩ s' ⟨hb',rfl,i,hz,hR⟩
   simp only at hb'
   subst hb'
   have hge:min items.size items2.size<=i:=by
    rcases Nat.lt_or_ge i (items.toList.zip items2.toList).length with h'| h'
    ·rw [List.drop_eq_getElem_cons h'] at hz;cases hz
    ·exact hZ▸h'
   have e2:=hz0 fun j hj=>hR j (z935 hj hge)
   wp_walk
   exact ⟨_,rfl,by rw [e2];exact h⟩
  case h=>
   exact ⟨rfl,rfl,0,rfl,fun j hj=>by lia⟩
theorem OpAt.tuple_ge {A:Around}{s:Shared}{l b:Addr}{vs us:List Value}{n n2:Nat}{e:Nat->Bool}{r:Bool}(hl:s.heap.get? l=some (tupObj vs n))(hb:s.heap.get? b=some (tupObj us n2))(hu:A.units<cLine)
  (he:∀j (h1:j<vs.toArray.size) (h2:j<us.toArray.size),SeqAt.EqAt A.in1 s vs.toArray[j] us.toArray[j] (e j))
  (ho:∀j (h1:j<vs.toArray.size) (h2:j<us.toArray.size),e j=false->(∀i,i<j->e i=true)->OpAt A.in1 s .GtE vs.toArray[j] us.toArray[j] (.bool r))
  (hz:(∀i,i<min vs.toArray.size us.toArray.size->e i=true)->Builtin.Tuple.tupleCompareSizes .GtE vs.toArray.size us.toArray.size=.bool r):OpAt A s .GtE (.ref l) (.ref b) (.bool r):=fun prog w E Q h=>
 richCompare_meets_room (op:=.GtE) ⟨_,hl,rfl⟩ ⟨_,hb,rfl⟩ F.slot_tuple_ge F.entry_tuple_ge (F.args_tuple_ge_2 _ _) (tuple_geAt l b vs.toArray us.toArray n n2 e (.bool r))
  ⟨hl,hb,he,ho,hz,show Value.bool r≠Value.notImplemented/\Q (.bool r) s from ⟨(fun x=>nomatch x),h⟩⟩ hu
theorem OpAt.rowGe {A:Around}{s:Shared}{K:List Addr}{xs ys:List Int}{v u:Value}(hu:A.units+8<cLine)(x:V K s.heap (row xs) v)(y:V K s.heap (row ys) u):OpAt A s .GtE v u (.bool (!lexLt xs ys)):=by
 unfold V at x y
 obtain ⟨a,vs,n,rfl,_,g,r⟩:=x
 obtain ⟨b,us,k,rfl,_,g',r'⟩:=y
 have l1:vs.length=xs.length:=by simpa using r.length
 have l2:us.length=ys.length:=by simpa using r'.length
 refine OpAt.tuple_ge (e:=fun j=>xs[j]? ==ys[j]?) g g' (z606 hu) (fun j h1 h2=> ?_) (fun j h1 h2 hne hall=> ?_) fun hall=> ?_
 ·obtain ⟨i,t,e1,e2⟩:=r.int (toArr h1)
  obtain ⟨i',t',e1',e2'⟩:=r'.int (toArr h2)
  rw [e2,e2',e1,e1']
  have e:(some i==some i')=(i==i'):=rfl
  rw [e]
  exact EqAt.ints (by show A.units+1+5<cLine;exact z945 hu)
 ·obtain ⟨i,t,e1,e2⟩:=r.int (toArr h1)
  obtain ⟨i',t',e1',e2'⟩:=r'.int (toArr h2)
  rw [e2,e2']
  have hn:i≠i':=fun e=>by simp [e1,e1',e] at hne
  rw [lexLt_first (fun i hi=>by simpa using hall i hi) e1 e1' hn,show (!decide (i<i'))=decide (i'<=i) by
   by_cases q:i<i'
   ·simp [q]
   ·simp [q];exact z21 q]
  exact fun prog w E Q h=>PyProof.Rows.ge_int h
 ·rw [lexLt_all fun i hi=>by simpa using hall i (by simpa [l1,l2] using hi)]
  by_cases q:xs.length<ys.length
  ·simp [Builtin.Tuple.tupleCompareSizes,l1,l2,q]
  ·simp [Builtin.Tuple.tupleCompareSizes,l1,l2,q];exact z12 q
theorem OpAt.keyGe {A:Around}{s:Shared}{K:List Addr}{xs ys:List Int}{v u:Value}(hu:A.units+12<cLine)(x:V K s.heap (keyD xs) v)(y:V K s.heap (keyD ys) u):OpAt A s .GtE v u (.bool (!keyLt xs ys)):=by
 obtain ⟨a,n,t,p,rfl,g,xp⟩:=x.key
 obtain ⟨b,k,t',q,rfl,g',xq⟩:=y.key
 refine OpAt.tuple_ge (e:=fun j=>if j=0 then xs.sum==ys.sum else decide (xs=ys)) g g' (z606 hu) (fun j h1 h2=> ?_) (fun j h1 h2 hne hall=> ?_) fun hall=> ?_
 ·match j,h1 with
  | 0,_=>exact EqAt.ints (by show A.units+1+5<cLine;exact z947 hu)
  | 1,_=>exact EqAt.rows (by show A.units+1+8<cLine;exact z948 hu) xp xq
 ·match j,h1 with
  | 0,_=>
   have hne':xs.sum≠ys.sum:=by simpa using hne
   have e:(!keyLt xs ys)=decide (ys.sum<=xs.sum):=by
    by_cases q:xs.sum<ys.sum
    ·simp [keyLt,q]
    ·have q2:ys.sum<=xs.sum:=Int.not_lt.mp q
     rw [decide_eq_true q2];unfold keyLt;rw [decide_eq_false q];simp [hne']
   rw [e]
   exact fun prog w E Q h=>PyProof.Rows.ge_int h
  | 1,_=>
   have h0:xs.sum=ys.sum:=by simpa using hall 0 z949
   have e:keyLt xs ys=lexLt xs ys:=by simp [keyLt,h0]
   rw [e]
   exact OpAt.rowGe (by show A.units+1+8<cLine;exact z948 hu) xp xq
 ·have h1:xs=ys:=by simpa using hall 1 (by simp)
  subst h1
  rw [keyLt_irrefl]
  simp [Builtin.Tuple.tupleCompareSizes]
section
variable {c:Cx} {A:Around} {fr:List Addr} {σ:Sto} {X:Addr->Sto->Prop} {Q:D->Sto->Prop}
theorem WB.geKey {xs ys:List Int}{j:Nat}(r:Room j A)(h:Q (.bool (!keyLt xs ys)) σ):WB c A fr σ (compareOp .GtE) (keyD xs) (keyD ys) Q X:=fun v1 v2 s ok x1 x2=>
 OpAt.keyGe (by have:=r.units (k:=20) z952;exact z953 this) x1 x2 c.prog c.w _ _ ⟨_,σ,Post.refl ..,ok,V.ofBool,h⟩
end
end Mine
set_option maxHeartbeats 1000000
namespace Mine
open PySem PySem.Calls PyProof.Rows
section
variable {prog:Program} {w:World} {A:Around} {E:Value->Shared->Prop} {s:Shared}
theorem pick_upto_arr (xs:Array Value)(b:Nat):((List.range b).filterMap fun (k:Nat)=>xs[((0:Int)+(k:Int)*1).toNat]?).toArray=(xs.toList.take b).toArray:=by
 have e:(fun (k:Nat)=>xs[((0:Int)+(k:Int)*1).toNat]?)=fun k=>xs[0+k]? :=by
  funext k
  have:((0:Int)+(k:Int)*1).toNat=0+k:=z624
  exact congrArg _ (this ..)
 rw [e]
 have:=pick_run xs 0 b
 rw [List.filterMap_map] at this
 have e2:((fun x=>xs[x]?)∘fun x=>0+x)=fun k=>xs[0+k]? :=rfl
 rw [e2] at this
 rw [this,List.drop_zero]
end
end Mine
set_option maxHeartbeats 1000000
namespace Mine
open PySem PySem.Calls PyProof.Rows
section
variable {prog:Program} {w:World} {A:Around} {E:Value->Shared->Prop} {s:Shared} {env:Env}
theorem Subscript_SliceG {value:Expr}{lower upper:Option Expr}{p pos:Pos}{T id:String}{Q:Value->Shared->Prop}
  (hl:typeLookup (.type T) "__getitem__"=pure (some (.builtin id)))
  (h:wpAny (model prog w) A (eval value env) (fun o s₁=>wpAny (model prog w) A (eval (.Slice lower upper none p) env) (fun i s₂=>s₂.TypeIs o T/\wpAny (model prog w) A (getItem o i) Q E s₂) E s₁) E s):
  wpAny (model prog w) A (eval (.Subscript value (.Slice lower upper none p) pos) env) Q E s:=by
 refine wpAny_bind (wpAny_mono h (fun o s₁ h₁=>wpAny_bind (wpAny_holding (wpAny_mono h₁ (fun i s₂ h₂=>wpAny_bind (wpAny_standAt ?_)) fun _ _ x=>x)))
  fun _ _ x=>x)
 have fin:wpAny (model prog w) A (operate [i,o] (getItem o i)) (fun r s₃=>wpAny (model prog w) A (letTemporaryGo value o r>>=fun _=>pure r) Q E s₃) E s₂:=
  wpAny_operating (wpAny_mono h₂.2 (fun r s₃ h₃=>wpAny_bind (wpAny_letTemporaryGo (wpAny_pure h₃))) fun _ _ x=>x)
 first
  | (refine wpAny_bind ?_
     refine wpAny_bind (wpAny_specialOf h₂.1 hl ?_)
     first
     | exact wpAny_pure (wpAny_bind fin)
     | exact wpAny_bind (wpAny_pure (wpAny_bind fin))
     | exact wpAny_bind fin)
  | (refine wpAny_bind (wpAny_specialOf h₂.1 hl ?_)
     first
     | exact wpAny_bind (wpAny_pure (wpAny_bind fin))
     | exact wpAny_bind fin)
theorem Subscript_list_sliceG {value:Expr}{lower upper:Option Expr}{p pos:Pos}{Q:Value->Shared->Prop}
  (h:wpAny (model prog w) A (eval value env) (fun o s₁=>wpAny (model prog w) A (evalPart lower env) (fun vl s₂=>wpAny (model prog w) A (evalPart upper env) (fun vu s₃=>
   ∃l items lo hi,o=.ref l/\s₃.heap.IsList l items/\items.size<=sizeLine/\IsPart vl lo/\IsPart vu hi/\
    Q (.ref (s₃.heap.objs.size+1)) {s₃ with heap:=(s₃.heap.push {cls:=.type "slice",data:=.fields #[vl,vu,.none]}).push {cls:=.type "list",data:=.seq (slicePick items lo hi none)}}) E s₂) E s₁) E s):
  wpAny (model prog w) A (eval (.Subscript value (.Slice lower upper none p) pos) env) Q E s:=by
 refine Subscript_SliceG (T:="list") list_getitem_lookup (wpAny_mono h (fun o s₁ h₁=>wpAny_Slice (wpAny_mono h₁ (fun vl s₂ h₂=>wpAny_mono h₂ (fun vu s₃ h₃=> ?_) fun _ _ e=>e) fun _ _ e=>e)) fun _ _ e=>e)
 obtain ⟨l,items,lo,hi,rfl,hl,hsz,pl,pu,hQ⟩:=h₃
 refine wpAny_pure ⟨(hl.push _).typeIs,wpAny_getItem_list_slice (hl.push _) (Heap.IsSliceOf.new ..) pl pu .none (by decide) ?_ hsz⟩
 simp only [Heap.size_push]
 exact hQ
end
section
variable {c:Cx} {A:Around} {fr:List Addr} {σ σ1 σ2:Sto} {X:Addr->Sto->Prop} {Q:D->Sto->Prop} {env:Env} {m:Vars} {N:Vars->Sto->Prop} {R:D->Sto->Prop}
theorem WE.sliceLG {value:Expr}{lower upper:Option Expr}{p pos:Pos}(h:WE c A fr env m σ value (fun d σ1=>WPt c A fr env m σ1 lower (fun lo σ2=>WPt c A fr env m σ2 upper (fun hi σ3=>∃sd:SD,d=sd.d/\sd.isL=true/\sd.inv σ3/\sd.ds.length<=sizeLine/\QL Q (pick sd.ds lo hi) σ3) X) X) X):WE c A fr env m σ (.Subscript value (.Slice lower upper none p) pos) Q X:=fun s ok fm=>by
 refine Subscript_list_sliceG (wpAny_mono (h s ok fm) (fun v s1 hz=> ?_) fun _ _ x=>x)
 obtain ⟨d,σ1,p1,ok1,x1,q1⟩:=hz
 refine wpAny_mono (q1.run ok1 (fm.move p1)) (fun vl s2 hz=> ?_) fun _ _ x=>Ex.back p1 x fun _ _ y=>y
 obtain ⟨lo,σ2,i2,p2,ok2,q2⟩:=hz
 refine wpAny_mono (q2.run ok2 ((fm.move p1).move p2)) (fun vu s3 hz=> ?_) fun _ _ x=>Ex.back (p1.trans p2) x fun _ _ y=>y
 obtain ⟨hi,σ3,i3,p3,ok3,sd,e,hL,inv,hsz,q3⟩:=hz
 subst e
 obtain ⟨l,rfl,z⟩:=SD.of_v (p3.v (p2.v x1))
 obtain ⟨vs,n,g,r⟩:=z.list ok3 inv hL
 refine ⟨l,vs.toArray,lo,hi,rfl,⟨_,g,rfl,n,rfl⟩,by simpa [r.length] using hsz,i2,i3,?_⟩
 have k1:∀b o,s3.heap.get? b=some o->(s3.heap.push {cls:=.type "slice",data:=.fields #[vl,vu,.none]}).get? b=some o:=fun b o e=>Heap.get?_push_of_some _ e
 have p4:Post [] fr σ3 s3 {s3 with heap:=s3.heap.push {cls:=.type "slice",data:=.fields #[vl,vu,.none]},toks:=s3.toks} σ3:=Post.keeps k1
 have e:slicePick vs.toArray lo hi none=((vs.drop (lo.elim 0 (clipAt sd.ds.length))).take (hi.elim sd.ds.length (clipAt sd.ds.length)-lo.elim 0 (clipAt sd.ds.length))).toArray:=by
  rw [slicePick_plain];simp [r.length]
 rw [e]
 obtain ⟨d5,σ5,p5,ok5,x5,q5⟩:=(newL (Q:=Q) (tk:=s3.toks) (s:={s3 with heap:=s3.heap.push {cls:=.type "slice",data:=.fields #[vl,vu,.none]},toks:=s3.toks}) (ok3.keeps k1) (p4.vs ((r.drop _).take _)) q3)
 have hs:(s3.heap.push {cls:=.type "slice",data:=.fields #[vl,vu,.none]}).objs.size=s3.heap.objs.size+1:=Heap.size_push _ _
 exact hs▸⟨d5,σ5,(((p1.trans p2).trans p3).trans p4).trans p5,ok5,x5,q5⟩
theorem At1.clear {a:Addr}{ds:List D}(hsz:ds.length<=sizeLine)(h:Q .none (σ1++(a,.lst [])::σ2)):At1 c A fr (σ1++(a,.lst ds)::σ2) (.builtin "list.clear") [.ref a] Q X:=.one fun s v ok hv=>by
 subst hv
 obtain ⟨vs,n,g,r⟩:=ok.sto _ (by simp:(a,O.lst ds)∈σ1++(a,.lst ds)::σ2)
 refine call_meets F.slot_list_clear ⟨_,g,rfl⟩ F.entry_list_clear (F.args_list_clear_1 _) (AutoSeq1.list_clear_list_0 a vs.toArray n (by simpa [r.length] using hsz)) ⟨g,?_⟩
 have k1:∀b ob,b≠a->s.heap.get? b=some ob->(s.heap.update a (Obj.mapSeq fun _=> #[])).get? b=some ob:=fun b ob hne e=>by exact (Heap.get?_update_ne _ _ _ _ hne ..).trans (e)
 obtain ⟨n',g'⟩:∃n',(s.heap.update a (Obj.mapSeq fun _=>(#[]:Array Value))).get? a=some (lstObj [] n'):=⟨_,IsL.update (h:=s.heap) (l:=a) (items:=vs.toArray) (n:=n) g fun _=> #[]⟩
 exact ⟨.none,_,Post.put (tk:=s.toks) (o':=.lst []) (fun z=>(List.nodup_append.mp ok.nd).2.2 a (by simp [keys]) a z rfl) k1 ⟨_,g'⟩,Ok.put ok k1 ⟨[],n',g',Vs.nil⟩,by rfl,h⟩
end
end Mine
namespace Mine
open PySem PySem.Calls PyProof.Rows
end Mine
set_option maxHeartbeats 1000000
namespace Mine
open PySem PySem.Calls PyProof.Rows
section
variable {prog:Program} {w:World} {A:Around} {E:Value->Shared->Prop} {s:Shared}
theorem sliceApplied_cut {sl:Addr}{n:Nat}{u:Tok}{Q:Int × Int × Nat->Shared->Prop}(hs:s.heap.IsSliceOf sl .none (.int (-1) u) .none)(hn:1<=n)(h:Q (0,1,n-1) s):
  wpAny (model prog w) A (Builtin.Slice.sliceApplied (.ref sl) (pure (n:Int))) Q E s:=by
 obtain ⟨os,hos,hcs,hds⟩:=id hs
 refine wpAny_bind (wpAny_bind (wpAny_field hos hds (x:=.none) rfl (wpAny_bind (wpAny_field hos hds (x:=.int (-1) u) rfl (wpAny_bind (wpAny_field hos hds (x:=.none) rfl (wpAny_pure ?_)))))))
 refine wpAny_bind (slicePart_none ?_)
 refine wpAny_bind (slicePart_none (wpAny_bind (slicePart_int (wpAny_bind (wpAny_pure ?_)))))
 show wpAny _ _ (match Builtin.Slice.sliceAdjust none (some (-1:Int)) 1 (n:Int) with| (lo,hi)=>pure (lo,(1:Int),Builtin.Slice.slicePlaces lo hi 1)) _ _ s
 have e:Builtin.Slice.sliceAdjust none (some (-1:Int)) 1 (n:Int)=(0,((n-1:Nat):Int)):=by
  unfold Builtin.Slice.sliceAdjust
  have h1:¬((1:Int)<0):=by decide
  have h2:=z784
  dsimp only [h1,h2,if_false,if_true]
  congr 1
  lia
 rw [e]
 show wpAny _ _ (pure ((0:Int),(1:Int),Builtin.Slice.slicePlaces (0:Int) ((n-1:Nat):Int) 1)) _ _ s
 have e2:Builtin.Slice.slicePlaces (0:Int) ((n-1:Nat):Int) 1=n-1:=by
  unfold Builtin.Slice.slicePlaces
  simp only [(by decide:(1:Int)>0),if_true,Int.ediv_one]
  split<;>lia
 rw [e2]
 exact wpAny_pure h
theorem getItem_tuple_cut {t sl:Addr}{items:Array Value}{u:Tok}{Q:Value->Shared->Prop}(ht:IsTup s.heap t items)(hs:s.heap.IsSliceOf sl .none (.int (-1) u) .none)(hb:1<=items.size)
  (h:Q (.ref s.heap.objs.size) {s with heap:=s.heap.push {cls:=.type "tuple",data:=.seq (items.toList.take (items.size-1)).toArray}})
  (hsz:items.size<=sizeLine):wpAny (model prog w) A (getItem (.ref t) (.ref sl)) Q E s:=by
 have hdrop:sizeOk (.seq (items.toList.take (items.size-1)).toArray):=by
  show (items.toList.take (items.size-1)).toArray.size<=sizeLine
  rw [List.size_toArray,List.length_take]
  exact z625 hsz
 obtain ⟨os,hos,hcs,hds⟩:=id hs
 unfold getItem
 try with_reducible refine wpAny_holding ?_
 first| refine wpAny_bind (wpAny_pure ?_)| skip
 refine wpAny_bind (wpAny_sequenceKey ht.typeIs (by decide) ?_)
 refine wpAny_bind (wpAny_callSpecial?_slot (name:=Str.ofString "__getitem__") ht.typeIs slot_tuple_getitem
  (wpAny_call_entry slot_tuple_getitem ht.typeIs entry_tuple_getitem ?_ (args_tuple_getitem _ _)))
 show wpAny _ _ (Builtin.Tuple.tupleItemsOf (.ref t)>>=_) _ _ s
 refine wpAny_bind (tupleItemsOf_ ht ?_)
 refine wpAny_bind (wpAny_typeOf (⟨os,hos,hcs⟩) ?_)
 refine wpAny_bind (sliceApplied_cut hs hb ?_)
 have hno:¬(((0:Int)==0&&(1:Int)==1&&(items.size-1)==items.size)=true):=by
  have:((items.size-1)==items.size)=false:=by rw [beq_eq_false_iff_ne];exact z997 hb
  rw [this];decide
 show wpAny _ _ (if ((0:Int)==0&&(1:Int)==1&&(items.size-1)==items.size)=true then _ else _) _ _ s
 rw [if_neg hno,pick_upto_arr items (items.size-1)]
 first
  | exact wpAny_bind (m:=Builtin.Tuple.tupleExact _) (wpAny_newObj_type (wpAny_pure ⟨_,rfl,wpAny_pure h⟩) hdrop)
  | exact wpAny_bind (m:=Builtin.Tuple.tupleExact _) (wpAny_newObj_type (wpAny_bind (wpAny_pure (wpAny_pure ⟨_,rfl,wpAny_pure h⟩))) hdrop)
  | exact wpAny_bind (wpAny_bind (m:=Builtin.Tuple.tupleExact _) (wpAny_newObj_type (wpAny_pure (wpAny_pure ⟨_,rfl,wpAny_pure h⟩)) hdrop))
  | exact wpAny_bind (wpAny_bind (m:=Builtin.Tuple.tupleExact _) (wpAny_newObj_type (wpAny_pure ⟨_,rfl,wpAny_pure h⟩) hdrop))
end
section
variable {c:Cx} {A:Around} {fr:List Addr} {σ σ1 σ2:Sto} {X:Addr->Sto->Prop} {Q:D->Sto->Prop} {env:Env} {m:Vars} {N:Vars->Sto->Prop} {R:D->Sto->Prop}
theorem WE.sliceTc {value e:Expr}{p pos:Pos}(h:WE c A fr env m σ value (fun d σ1=>WE c A fr env m σ1 e (fun d2 σ2=>∃(ds:List D),d=.tup ds/\d2=.int (-1)/\1<=ds.length/\ds.length<=sizeLine/\Q (.tup (ds.take (ds.length-1))) σ2) X) X)
  (ht:∀o r,letTemporaryGo value o r=pure ():=by intro _ _;rfl):WE c A fr env m σ (.Subscript value (.Slice none (some e) none p) pos) Q X:=fun s ok fm=>by
 refine wpAny_Subscript_Slice (T:="tuple") slot_tuple_getitem.lookup (wpAny_mono (h s ok fm) (fun v s1 ⟨d,σ1,p1,ok1,x1,q1⟩=>wpAny_Slice ?_) fun _ _ x=>x) ht
 refine wpAny_pure ?_
 refine wpAny_mono (q1 s1 ok1 (fm.move p1)) (fun vl s2 hz=> ?_) fun _ _ x=>Ex.back p1 x fun _ _ y=>y
 obtain ⟨d2,σ2,p2,ok2,x2,ds,e1,e2,h2,h3,q2⟩:=hz
 subst e1;subst e2
 obtain ⟨u,rfl⟩:=x2.toInt
 refine wpAny_pure ?_
 obtain ⟨l,rfl,z⟩:=SD.of_v (sd:=.tup ds) (p2.v x1)
 obtain ⟨vs,n,g,r⟩:=z.tuple rfl
 have hlen:vs.length=ds.length:=r.length
 have k1:∀b o,s2.heap.get? b=some o->(s2.heap.push {cls:=.type "slice",data:=.fields #[.none,.int (-1) u,.none]}).get? b=some o:=fun b o e=>Heap.get?_push_of_some _ e
 have p4:Post [] fr σ2 s2 {s2 with heap:=s2.heap.push {cls:=.type "slice",data:=.fields #[.none,.int (-1) u,.none]},toks:=s2.toks} σ2:=Post.keeps k1
 refine ⟨⟨_,k1 _ _ g,rfl⟩,?_⟩
 refine getItem_tuple_cut (s:={s2 with heap:=s2.heap.push {cls:=.type "slice",data:=.fields #[.none,.int (-1) u,.none]}}) (items:=vs.toArray) (u:=u) ⟨_,k1 _ _ g,rfl,n,rfl⟩ (Heap.IsSliceOf.new ..) (by exact z878 hlen h2) ?_ (by exact z645 hlen h3)
 rw [show vs.toArray.size-1=ds.length-1 by rw [List.size_toArray,hlen]]
 obtain ⟨d5,σ5,p5,ok5,x5,q5⟩:=newT (Q:=Q) (tk:=s2.toks) (s:={s2 with heap:=s2.heap.push {cls:=.type "slice",data:=.fields #[.none,.int (-1) u,.none]},toks:=s2.toks}) (ok2.keeps k1) (p4.vs (r.take (ds.length-1))) q2
 exact ⟨d5,σ5,((p1.trans p2).trans p4).trans p5,ok5,x5,q5⟩
end
end Mine
namespace Mine
open PySem PySem.Calls PyProof.Rows
noncomputable def Hs (m l:Vars):Prop:=∀x d,l.lookup x=some d->m.lookup x=some d
theorem Hs.nil {m:Vars}:Hs m []:=fun x d e=>by cases e
theorem Hs.cons {m l:Vars}{x:Str}{d:D}(h:m.lookup x=some d)(t:Hs m l):Hs m ((x,d)::l):=fun y e z=>by
 rw [List.lookup_cons] at z
 cases q:y==x with
 | true=>
  rw [q] at z
  have:y=x:=by simpa using q
  rw [this,h];exact z
 | false=>rw [q] at z;exact t y e z
theorem Hs.both {m l:Vars}(h:Hs m l):∀g:Vars,Hs (g++m) (g++l)
 | []=>h
 | (x,d)::g=>fun y e z=>by
  rw [List.cons_append,List.lookup_cons] at z⊢
  cases q:y==x with
  | true=>rw [q] at z;exact z
  | false=>rw [q] at z;exact h.both g y e z
section
variable {c:Cx} {A:Around} {fr:List Addr} {env:Env} {m:Vars} {σ:Sto} {N:Vars->Sto->Prop} {R:D->Sto->Prop} {X:Addr->Sto->Prop}
theorem WS.base {l:Vars}{ss:List Stmt}(h:Hs m l)(k:WS c A fr env l σ ss N R X):WS c A fr env m σ ss N R X:=fun s ok fm=>k s ok (fm.turn fun x d e=>⟨d,h x d e,fun v hv=>hv⟩)
end
end Mine
namespace Mine
open PySem PySem.Calls PyProof.Rows
/-! the walk as a function:what can be stepped by the text alone is stepped by evaluation;the text is named by roads,never written out-/
structure Sp (P:Prop):Prop where
 h:P
structure Cfg where
 B:List Stmt
 bs:List (Str × Value)
 gs:List (Str × Int)
 sc:Scope
 k:Nat
 f:Bool
 c:Cx
 A:Around
 X:Addr->Sto->Prop
 env:Env
 fr:List Addr
structure Gd (B:List Stmt)(bs:List (Str × Value))(gs:List (Str × Int))(sc:Scope)(k:Nat)(f:Bool)(c:Cx)(A:Around)(env:Env):Prop where
 T:Tp c B bs
 G:Gi c gs
 r:Room k A
 s:env.scope=sc
 fe:f=true->Fe A env sc
inductive Job where
 | E (e:Expr) (Q:D->Sto->Prop)
 | T (e:Expr) (Q:Bool->Sto->Prop)
 | A (es:List Expr) (Q:List D->Sto->Prop)
 | S (ss:List Stmt) (N:Vars->Sto->Prop) (R:D->Sto->Prop)
 | X (ss:List Stmt) (N:Vars->Sto->Prop) (R:D->Sto->Prop)
 | Ts (op:BoolOp) (es:List Expr) (Q:Bool->Sto->Prop)
 | Bs (op:BoolOp) (es:List Expr) (Q:D->Sto->Prop)
 | I (it tg:Expr) (Q:List Vars->(Sto->Prop)->Sto->Prop)
noncomputable abbrev RunT:=Vars->Sto->Job->Prop
noncomputable def Job.W (Γ:Cfg)(m:Vars)(σ:Sto):Job->Prop
 | .E e Q=>WE Γ.c Γ.A Γ.fr Γ.env m σ e Q Γ.X
 | .T e Q=>WT Γ.c Γ.A Γ.fr Γ.env m σ e Q Γ.X
 | .A es Q=>WA Γ.c Γ.A Γ.fr Γ.env m σ es Q Γ.X
 | .S ss N R=>WS Γ.c Γ.A Γ.fr Γ.env m σ ss N R Γ.X
 | .X ss N R=>WS Γ.c Γ.A Γ.fr Γ.env m σ ss N R Γ.X
 | .Ts op es Q=>WTs Γ.c Γ.A Γ.fr Γ.env m σ op es Q Γ.X
 | .Bs op es Q=>WBs Γ.c Γ.A Γ.fr Γ.env m σ op es Q Γ.X
 | .I it tg Q=>WIt Γ.c Γ.A Γ.fr Γ.env m σ it tg Q Γ.X
noncomputable def Job.stop (Γ:Cfg)(m:Vars)(σ:Sto)(j:Job):Prop:=Sp (j.W Γ m σ)
noncomputable def haltE (Γ:Cfg)(m:Vars)(σ:Sto)(e:Expr)(Q:D->Sto->Prop):Prop:=match Γ with| ⟨_,_,_,_,k,_,c,A,X,env,fr⟩=>Sp (WE c A fr env m σ e Q X)
noncomputable def haltT (Γ:Cfg)(m:Vars)(σ:Sto)(e:Expr)(Q:Bool->Sto->Prop):Prop:=match Γ with| ⟨_,_,_,_,k,_,c,A,X,env,fr⟩=>Sp (WT c A fr env m σ e Q X)
noncomputable def haltAr (Γ:Cfg)(m:Vars)(σ:Sto)(es:List Expr)(Q:List D->Sto->Prop):Prop:=match Γ with| ⟨_,_,_,_,k,_,c,A,X,env,fr⟩=>Sp (WA c A fr env m σ es Q X)
noncomputable def haltBs (Γ:Cfg)(m:Vars)(σ:Sto)(op:BoolOp)(es:List Expr)(Q:D->Sto->Prop):Prop:=match Γ with| ⟨_,_,_,_,k,_,c,A,X,env,fr⟩=>Sp (WBs c A fr env m σ op es Q X)
noncomputable def haltS (Γ:Cfg)(m:Vars)(σ:Sto)(ss:List Stmt)(N:Vars->Sto->Prop)(R:D->Sto->Prop):Prop:=match Γ with| ⟨_,_,_,_,k,_,c,A,X,env,fr⟩=>Sp (WS c A fr env m σ ss N R X)
noncomputable def halt1 (Γ:Cfg)(m:Vars)(σ:Sto)(s:Stmt)(N:Vars->Sto->Prop)(R:D->Sto->Prop):Prop:=match Γ with| ⟨_,_,_,_,k,_,c,A,X,env,fr⟩=>Sp (W1 c A fr env m σ s N R X)
noncomputable def haltB (Γ:Cfg)(σ:Sto)(t:Value->Value->Sem Value)(d1 d2:D)(Q:D->Sto->Prop):Prop:=match Γ with| ⟨_,_,_,_,k,_,c,A,X,env,fr⟩=>Sp (WB c A fr σ t d1 d2 Q X)
noncomputable def haltU (Γ:Cfg)(σ:Sto)(t:Value->Sem Value)(d:D)(Q:D->Sto->Prop):Prop:=match Γ with| ⟨_,_,_,_,k,_,c,A,X,env,fr⟩=>Sp (WU c A fr σ t d Q X)
noncomputable def haltTr (Γ:Cfg)(σ:Sto)(d:D)(Q:Bool->Sto->Prop):Prop:=match Γ with| ⟨_,_,_,_,k,_,c,A,X,env,fr⟩=>Sp (WTr c A fr σ d Q X)
noncomputable def haltF (Γ:Cfg)(f:Str)(ds:List D)(σ:Sto)(Q:D->Sto->Prop):Prop:=match Γ with| ⟨_,_,_,_,k,_,c,A,X,env,fr⟩=>Sp (WF c (Room k) f ds σ Q X)
noncomputable def haltA (Γ:Cfg)(σ:Sto)(v:Value)(ds:List D)(Q:D->Sto->Prop):Prop:=match Γ with| ⟨_,_,_,_,k,_,c,A,X,env,fr⟩=>Sp (At1 c A fr σ v ds Q X)
noncomputable def haltSb (Γ:Cfg)(σ:Sto)(v s:Expr)(d1 d2:D)(Q:D->Sto->Prop):Prop:=match Γ with| ⟨_,_,_,_,k,_,c,A,X,env,fr⟩=>Sp (WSb c A fr σ v s d1 d2 Q X)
noncomputable def haltIv (Γ:Cfg)(m:Vars)(σ:Sto)(d:D)(tg:Expr)(Q:List Vars->(Sto->Prop)->Sto->Prop):Prop:=match Γ with| ⟨_,_,_,_,k,_,c,A,X,env,fr⟩=>Sp (WIv c A fr env m σ d tg Q)
noncomputable abbrev stop {α:Type}(Q:α->Sto->Prop):α->Sto->Prop:=fun a σ=>Sp (Q a σ)
noncomputable abbrev nstop (N:Vars->Sto->Prop):Vars->Sto->Prop:=fun m σ=>Sp (N m σ)
/-! roads-/
noncomputable def no0:Expr:=.Constant .none 0 ⟨0,0,0,0⟩
noncomputable def eP:Expr->Expr × Expr × List Expr
 | .BinOp l _ r _=>(l,r,[])
 | .Compare l _ es _=>(l,no0,es)
 | .UnaryOp _ x _=>(x,no0,[])
 | .Subscript v s _=>(v,s,[])
 | .Call f as _ _=>(f,no0,as)
 | .Attribute v _ _=>(v,no0,[])
 | .ListComp e _ _ _=>(e,no0,[])
 | .BoolOp _ es _=>(no0,no0,es)
 | .List es _=>(no0,no0,es)
 | .Tuple es _ _=>(no0,no0,es)
 | _=>(no0,no0,[])
noncomputable def eL (e:Expr):Expr:=(eP e).1
noncomputable def eR (e:Expr):Expr:=(eP e).2.1
noncomputable def eS (e:Expr):List Expr:=(eP e).2.2
noncomputable def cP:Expr->List Comprehension × Scope
 | .ListComp _ gs s _=>(gs,s)
 | _=>([],⟨.function,[],false,false,[]⟩)
noncomputable def cG (e:Expr):Comprehension:=(cP e).1.headD ⟨no0,no0,[],0⟩
noncomputable def cS (e:Expr):Scope:=(cP e).2
noncomputable def hE (es:List Expr):Expr:=es.headD no0
noncomputable def hS (ss:List Stmt):Stmt:=ss.headD (.Pass ⟨0,0,0,0⟩)
noncomputable def sP:Stmt->Expr × Expr × List Stmt × List Stmt
 | .Return e _=>(e.getD no0,no0,[],[])
 | .Assign _ v _=>(v,no0,[],[])
 | .Expr e _=>(e,no0,[],[])
 | .If t a b _=>(t,no0,a,b)
 | .For t it b _ _=>(it,t,b,[])
 | .While t b _ _=>(t,no0,b,[])
 | _=>(no0,no0,[],[])
noncomputable def sE (s:Stmt):Expr:=(sP s).1
noncomputable def sT (s:Stmt):Expr:=(sP s).2.1
noncomputable def sA (s:Stmt):List Stmt:=(sP s).2.2.1
noncomputable def sB (s:Stmt):List Stmt:=(sP s).2.2.2
/-! the tests-/
noncomputable def bB (b:Bool)(p z:Prop):Prop:=match b with| true=>p| false=>z
noncomputable def oO {α:Type}(o:Option α)(f:α->Prop)(z:Prop):Prop:=match o with| some a=>f a| none=>z
noncomputable def isDef (B:List Stmt)(f:Str):Bool:=B.any fun s=>match recOf s with| some d=>d.name==f| none=>false
noncomputable def odd (x:Str):Bool:=x==("__debug__":Str)|| x==("__classdict__":Str)
noncomputable def tag:Expr->Nat
 | .Constant _ _ _=>1
 | .Slice _ _ _ _=>2
 | .Set _ _ _=>3
 | .ListComp _ _ _ _=>4
 | .SetComp _ _ _ _=>5
 | .DictComp _ _ _ _ _=>5
 | .Tuple _ _ _=>6
 | .Call _ _ _ _=>7
 | _=>0
noncomputable def isCst (e:Expr):Bool:=tag e==1
noncomputable def isSlice (e:Expr):Bool:=tag e==2
noncomputable def isSet (e:Expr):Bool:=tag e==3
noncomputable def isLC (e:Expr):Bool:=tag e==4
noncomputable def isComp (e:Expr):Bool:=tag e==4|| tag e==5
noncomputable def asNm:Expr->Option (Str × Pos)
 | .Name x p=>some (x,p)
 | _=>none
noncomputable def asAt:Expr->Option (Str × Pos)
 | .Attribute _ x p=>some (x,p)
 | _=>none
noncomputable def eK:Expr->List Keyword
 | .Call _ _ k _=>k
 | _=>[]
noncomputable def atIf:List Stmt->Bool
 | .If _ _ _ _::_=>true
 | _=>false
noncomputable def kd:Option NameKind->Nat
 | some .local=>1
 | some .cell=>2
 | some .free=>3
 | some .globalImplicit=>4
 | _=>0
noncomputable def isLoc (k:Option NameKind):Bool:=kd k==1|| kd k==2
noncomputable def isVar (k:Option NameKind):Bool:=kd k==1|| (kd k==2|| kd k==3)
noncomputable def isGlo (k:Option NameKind):Bool:=kd k==4
noncomputable def vk:Value->Nat
 | .builtin _=>1
 | .type _=>2
 | _=>0
noncomputable def isBT (v:Value):Bool:=vk v==1|| vk v==2
noncomputable def asTy:Value->Option String
 | .type T=>some T
 | _=>none
noncomputable def cOk (sc:Scope)(e:Expr):Bool:=((cP e).1.length==1&&(cG e).is_async==0)&&(compOk (cS e)&&(freeOk (cS e) sc&& !isSet (cG e).iter))
noncomputable def two (ts:List Expr)(f:Str->Str->Prop)(z:Prop):Prop:=bB (ts.length==2) (oO (asNm (hE ts)) (fun x=>oO (asNm (hE ts.tail)) (fun y=>f x.1 y.1) z) z) z
/-! two data and an operator-/
noncomputable def doBin (Γ:Cfg)(op:Operator)(cst:Bool)(Q:D->Sto->Prop)(d1 d2:D)(σ:Sto):Prop:=
 match d1,d2 with
 | .int a,.int b=>(match op with
  | .Add=>Q (.int (a+b)) σ
  | .Sub=>Q (.int (a-b)) σ
  | .Mod=>if (cst&&(decide (0<b)&&decide (b.natAbs<2^64)))=true then Q (.int (a % b)) σ else haltB Γ σ (binaryOp op) d1 d2 Q
  | .FloorDiv=>if (cst&&(decide (0<b)&&decide (b.natAbs<2^64)))=true then Q (.int (a/b)) σ else haltB Γ σ (binaryOp op) d1 d2 Q
  | _=>haltB Γ σ (binaryOp op) d1 d2 Q)
 | _,_=>haltB Γ σ (binaryOp op) d1 d2 Q
noncomputable def doCmp (Γ:Cfg)(op:CmpOp)(Q:D->Sto->Prop)(d1 d2:D)(σ:Sto):Prop:=
 match d1,d2 with
 | .int a,.int b=>(match op with
  | .Lt=>Q (.bool (decide (a<b))) σ
  | .LtE=>Q (.bool (decide (a<=b))) σ
  | .Gt=>Q (.bool (decide (b<a))) σ
  | .GtE=>Q (.bool (decide (b<=a))) σ
  | .Eq=>Q (.bool (a==b)) σ
  | .NotEq=>Q (.bool (a !=b)) σ
  | _=>haltB Γ σ (compareOp op) d1 d2 Q)
 | _,_=>haltB Γ σ (compareOp op) d1 d2 Q
noncomputable def doUn (Γ:Cfg)(op:UnaryOp)(Q:D->Sto->Prop)(d:D)(σ:Sto):Prop:=
 match d with
 | .int a=>(match op with
  | .USub=>Q (.int (-a)) σ
  | _=>haltU Γ σ (unaryOp op) d Q)
 | .bool b=>(match op with
  | .Not=>Q (.bool (!b)) σ
  | _=>haltU Γ σ (unaryOp op) d Q)
 | _=>haltU Γ σ (unaryOp op) d Q
noncomputable def doTru (Γ:Cfg)(Q:Bool->Sto->Prop)(d:D)(σ:Sto):Prop:=
 match d with
 | .bool b=>Q b σ
 | _=>haltTr Γ σ d Q
/-! what is done next-/
noncomputable def kBin2 (Γ:Cfg)(op:Operator)(cst:Bool)(Q:D->Sto->Prop)(d1:D):D->Sto->Prop:=fun d2 σ=>doBin Γ op cst Q d1 d2 σ
noncomputable def kBin (Γ:Cfg)(r:RunT)(m:Vars)(op:Operator)(e:Expr)(Q:D->Sto->Prop):D->Sto->Prop:=fun d1 σ=>r m σ (.E e (kBin2 Γ op (isCst e) Q d1))
noncomputable def kCmp2 (Γ:Cfg)(op:CmpOp)(Q:D->Sto->Prop)(d1:D):D->Sto->Prop:=fun d2 σ=>doCmp Γ op Q d1 d2 σ
noncomputable def kCmp (Γ:Cfg)(r:RunT)(m:Vars)(op:CmpOp)(e:Expr)(Q:D->Sto->Prop):D->Sto->Prop:=fun d1 σ=>r m σ (.E e (kCmp2 Γ op Q d1))
noncomputable def kUn (Γ:Cfg)(op:UnaryOp)(Q:D->Sto->Prop):D->Sto->Prop:=fun d σ=>doUn Γ op Q d σ
noncomputable def kTru (Γ:Cfg)(Q:Bool->Sto->Prop):D->Sto->Prop:=fun d σ=>doTru Γ Q d σ
noncomputable def kDef (Γ:Cfg)(f:Str)(Q:D->Sto->Prop):List D->Sto->Prop:=fun ds σ=>haltF Γ f ds σ Q
noncomputable def kBlt (Γ:Cfg)(v:Value)(Q:D->Sto->Prop):List D->Sto->Prop:=fun ds σ=>haltA Γ σ v ds Q
noncomputable def kSub2 (Γ:Cfg)(v s:Expr)(Q:D->Sto->Prop)(d1:D):D->Sto->Prop:=fun d2 σ=>haltSb Γ σ v s d1 d2 Q
noncomputable def kSub (Γ:Cfg)(r:RunT)(m:Vars)(v s:Expr)(Q:D->Sto->Prop):D->Sto->Prop:=fun d1 σ=>r m σ (.E s (kSub2 Γ v s Q d1))
noncomputable def kLst (Q:D->Sto->Prop):List D->Sto->Prop:=fun ds σ=>if ds.length<=64 then Sp (QL Q ds σ) else Sp (ds.length<=sizeLine/\QL Q ds σ)
noncomputable def kTup (Q:D->Sto->Prop):List D->Sto->Prop:=fun ds σ=>if ds.length<=64 then Q (.tup ds) σ else Sp (ds.length<=sizeLine/\Q (.tup ds) σ)
noncomputable def kArg2 (Q:List D->Sto->Prop)(d:D):List D->Sto->Prop:=fun ds σ=>Q (d::ds) σ
noncomputable def kArg (r:RunT)(m:Vars)(es:List Expr)(Q:List D->Sto->Prop):D->Sto->Prop:=fun d σ=>r m σ (.A es (kArg2 Q d))
noncomputable def kNot (Q:Bool->Sto->Prop):Bool->Sto->Prop:=fun b σ=>Q (!b) σ
noncomputable def kAnd (r:RunT)(m:Vars)(es:List Expr)(Q:Bool->Sto->Prop):Bool->Sto->Prop:=fun b σ=>if b=true then r m σ (.Ts .And es Q) else Q false σ
noncomputable def kOr (r:RunT)(m:Vars)(es:List Expr)(Q:Bool->Sto->Prop):Bool->Sto->Prop:=fun b σ=>if b=true then Q true σ else r m σ (.Ts .Or es Q)
noncomputable def kAndE2 (r:RunT)(m:Vars)(es:List Expr)(Q:D->Sto->Prop)(d:D):Bool->Sto->Prop:=fun b σ=>if b=true then r m σ (.Bs .And es Q) else Q d σ
noncomputable def kAndE (Γ:Cfg)(r:RunT)(m:Vars)(es:List Expr)(Q:D->Sto->Prop):D->Sto->Prop:=fun d σ=>doTru Γ (kAndE2 r m es Q d) d σ
noncomputable def kOrE2 (r:RunT)(m:Vars)(es:List Expr)(Q:D->Sto->Prop)(d:D):Bool->Sto->Prop:=fun b σ=>if b=true then Q d σ else r m σ (.Bs .Or es Q)
noncomputable def kOrE (Γ:Cfg)(r:RunT)(m:Vars)(es:List Expr)(Q:D->Sto->Prop):D->Sto->Prop:=fun d σ=>doTru Γ (kOrE2 r m es Q d) d σ
noncomputable def kC2b (Γ:Cfg)(r:RunT)(m:Vars)(op2:CmpOp)(e3:Expr)(Q:Bool->Sto->Prop)(d2:D):Bool->Sto->Prop:=fun b σ=>if b=true then r m σ (.E e3 (kCmp2 Γ op2 (kTru Γ Q) d2)) else Q false σ
noncomputable def kC2a (Γ:Cfg)(r:RunT)(m:Vars)(op op2:CmpOp)(e3:Expr)(Q:Bool->Sto->Prop)(d1:D):D->Sto->Prop:=fun d2 σ=>doCmp Γ op (kTru Γ (kC2b Γ r m op2 e3 Q d2)) d1 d2 σ
noncomputable def kC2 (Γ:Cfg)(r:RunT)(m:Vars)(op op2:CmpOp)(e2 e3:Expr)(Q:Bool->Sto->Prop):D->Sto->Prop:=fun d1 σ=>r m σ (.E e2 (kC2a Γ r m op op2 e3 Q d1))
noncomputable def kE2b (Γ:Cfg)(r:RunT)(m:Vars)(op2:CmpOp)(e3:Expr)(Q:D->Sto->Prop)(d2 d3:D):Bool->Sto->Prop:=fun b σ=>if b=true then r m σ (.E e3 (kCmp2 Γ op2 Q d2)) else Q d3 σ
noncomputable def kE2t (Γ:Cfg)(r:RunT)(m:Vars)(op2:CmpOp)(e3:Expr)(Q:D->Sto->Prop)(d2:D):D->Sto->Prop:=fun d3 σ=>doTru Γ (kE2b Γ r m op2 e3 Q d2 d3) d3 σ
noncomputable def kE2a (Γ:Cfg)(r:RunT)(m:Vars)(op op2:CmpOp)(e3:Expr)(Q:D->Sto->Prop)(d1:D):D->Sto->Prop:=fun d2 σ=>doCmp Γ op (kE2t Γ r m op2 e3 Q d2) d1 d2 σ
noncomputable def kE2 (Γ:Cfg)(r:RunT)(m:Vars)(op op2:CmpOp)(e2 e3:Expr)(Q:D->Sto->Prop):D->Sto->Prop:=fun d1 σ=>r m σ (.E e2 (kE2a Γ r m op op2 e3 Q d1))
noncomputable def kMth (Γ:Cfg)(d:D)(Q:D->Sto->Prop):List D->Sto->Prop:=fun ds σ=>haltA Γ σ (.builtin "list.append") (d::ds) Q
inductive ApAt (Γ:Cfg)(r:RunT)(m:Vars)(as:List Expr)(Q:D->Sto->Prop)(d:D)(σ:Sto):Prop
 | mk (sd:SD) (e:d=sd.d) (hL:sd.isL=true) (hi:sd.inv σ) (h:r m σ (.A as (kMth Γ d Q))):ApAt Γ r m as Q d σ
noncomputable def kApp (Γ:Cfg)(r:RunT)(m:Vars)(as:List Expr)(Q:D->Sto->Prop):D->Sto->Prop:=fun d σ=>Sp (ApAt Γ r m as Q d σ)
noncomputable abbrev ItQ:=List Vars->(Sto->Prop)->Sto->Prop
inductive RgAt (x:Str)(Q:ItQ)(n:Int)(σ:Sto):Prop
 | mk (lo: -(2^62)<=n) (hi:n<2^62) (q:Q ((List.range n.toNat).map fun (i:Nat)=>[(x,D.int (i:Int))]) (fun _=>True) σ):RgAt x Q n σ
inductive ZpAt (x y:Str)(Q:ItQ)(d1 d2:D)(σ:Sto):Prop
 | mk (α β:Type) (sd1 sd2:SD) (is:List α) (js:List β) (f1:α->D) (f2:β->D) (e1:d1=sd1.d) (e2:d2=sd2.d) (l1:sd1.ds=is.map f1) (l2:sd2.ds=js.map f2) (i1:sd1.inv σ) (i2:sd2.inv σ)
   (q:Q ((is.zip js).map fun p=>[(y,f2 p.2),(x,f1 p.1)]) (fun σ'=>sd1.inv σ'/\sd2.inv σ') σ):ZpAt x y Q d1 d2 σ
inductive EnAt (x y:Str)(Q:ItQ)(d:D)(σ:Sto):Prop
 | mk (α:Type) (sd:SD) (is:List α) (F:α->D) (e:d=sd.d) (hL:sd.isL=true) (l:sd.ds=is.map F) (i:sd.inv σ) (q:Q (is.zipIdx.map fun p=>[(y,F p.1),(x,D.int (p.2:Int))]) (fun σ'=>sd.inv σ') σ):EnAt x y Q d σ
noncomputable def kIv (Γ:Cfg)(m:Vars)(tg:Expr)(Q:ItQ):D->Sto->Prop:=fun d σ=>haltIv Γ m σ d tg Q
noncomputable def kRg (x:Str)(Q:ItQ):D->Sto->Prop:=fun d σ=>match d with
 | .int n=>Sp (RgAt x Q n σ)
 | d=>Sp (∃n:Int,d=.int n/\RgAt x Q n σ)
noncomputable def kZp2 (x y:Str)(Q:ItQ)(d1:D):D->Sto->Prop:=fun d2 σ=>Sp (ZpAt x y Q d1 d2 σ)
noncomputable def kZp (r:RunT)(m:Vars)(x y:Str)(e:Expr)(Q:ItQ):D->Sto->Prop:=fun d1 σ=>r m σ (.E e (kZp2 x y Q d1))
noncomputable def kEn (x y:Str)(Q:ItQ):D->Sto->Prop:=fun d σ=>Sp (EnAt x y Q d σ)
noncomputable abbrev kTn (Γ:Cfg)(m:Vars)(e:Expr)(Z:List D->Sto->Prop):ItQ:=match Γ with| ⟨_,_,_,_,k,_,c,A,X,env,fr⟩=>Turns c A env m (cS e) (cG e).ifs (eL e) Z
noncomputable abbrev kLp (Γ:Cfg)(m:Vars)(b:List Stmt)(N:Vars->Sto->Prop)(R:D->Sto->Prop):ItQ:=match Γ with| ⟨_,_,_,_,k,_,c,A,X,env,fr⟩=>Loop c A env m b N R X
noncomputable def kRest (r:RunT)(ss:List Stmt)(N:Vars->Sto->Prop)(R:D->Sto->Prop):Vars->Sto->Prop:=fun m σ=>r m σ (.X ss N R)
noncomputable abbrev kWS (Γ:Cfg)(ss:List Stmt)(N:Vars->Sto->Prop)(R:D->Sto->Prop):Vars->Sto->Prop:=fun m σ=>match Γ with| ⟨_,_,_,_,k,_,c,A,X,env,fr⟩=>WS c A fr env m σ ss N R X
noncomputable def kAsg (r:RunT)(m:Vars)(x:Str)(ss:List Stmt)(N:Vars->Sto->Prop)(R:D->Sto->Prop):D->Sto->Prop:=fun d σ=>r ((x,d)::m) σ (.X ss N R)
noncomputable def kExp (r:RunT)(m:Vars)(ss:List Stmt)(N:Vars->Sto->Prop)(R:D->Sto->Prop):D->Sto->Prop:=fun _ σ=>r m σ (.X ss N R)
noncomputable def kIf (r:RunT)(m:Vars)(a b:List Stmt)(N:Vars->Sto->Prop)(R:D->Sto->Prop):Bool->Sto->Prop:=fun t σ=>if t=true then r m σ (.S a N R) else r m σ (.S b N R)
/-! one step-/
noncomputable def stName (Γ:Cfg)(m:Vars)(σ:Sto)(x:Str)(Q:D->Sto->Prop)(z:Prop):Prop:=
 bB (odd x) z (bB (isVar (Γ.sc.names.lookup x)) (oO (m.lookup x) (fun d=>Q d σ) z)
  (bB (isGlo (Γ.sc.names.lookup x)) (oO (Γ.gs.lookup x) (fun i=>Q (.int i) σ) (oO (Γ.bs.lookup x) (fun v=>oO (asTy v) (fun T=>Q (.typ T) σ) z) z)) z))
noncomputable def stConst (σ:Sto)(k:Const)(Q:D->Sto->Prop)(z:Prop):Prop:=
 match k with
 | .int i=>Q (.int i) σ
 | .str x=>Q (.str x) σ
 | .bool b=>Q (.bool b) σ
 | .none=>Q .none σ
 | _=>z
noncomputable def stCallN (Γ:Cfg)(r:RunT)(m:Vars)(σ:Sto)(g:Str)(args:List Expr)(Q:D->Sto->Prop)(z:Prop):Prop:=
 bB (plainArgs args&&(isGlo (Γ.sc.names.lookup g)&& !odd g)) (bB (isDef Γ.B g) (r m σ (.A args (kDef Γ g Q)))
  (oO (Γ.bs.lookup g) (fun v=>bB (isBT v) (r m σ (.A args (kBlt Γ v Q))) z) z)) z
noncomputable def stCall (Γ:Cfg)(r:RunT)(m:Vars)(σ:Sto)(f:Expr)(args:List Expr)(pos:Pos)(Q:D->Sto->Prop)(z:Prop):Prop:=
 oO (asNm f) (fun g=>stCallN Γ r m σ g.1 args Q z) (oO (asAt f) (fun a=>bB (a.1==("append":Str)&&((asNm (eL f)).isSome&&(plainArgs args&&((a.2.endLine==pos.line)&&decide (args.length<30))))) (r m σ (.E (eL f) (kApp Γ r m args Q))) z) z)
noncomputable def stCmp (Γ:Cfg)(r:RunT)(m:Vars)(σ:Sto)(l:Expr)(ops:List CmpOp)(es:List Expr)(Q:D->Sto->Prop)(z:Prop):Prop:=
 match ops with
 | [op]=>bB (es.length==1&& !behindInMarks op (hE es)) (r m σ (.E l (kCmp Γ r m op (hE es) Q))) z
 | [op,op2]=>bB (es.length==2&& !behindInMarks op2 (hE es.tail)) (r m σ (.E l (kE2 Γ r m op op2 (hE es) (hE es.tail) Q))) z
 | _=>z
noncomputable def stCmpT (Γ:Cfg)(r:RunT)(m:Vars)(σ:Sto)(l:Expr)(ops:List CmpOp)(es:List Expr)(Q:Bool->Sto->Prop)(z:Prop):Prop:=
 match ops with
 | [op]=>bB (es.length==1&& !behindInMarks op (hE es)) (r m σ (.E l (kCmp Γ r m op (hE es) (kTru Γ Q)))) z
 | [op,op2]=>bB (es.length==2&& !behindInMarks op2 (hE es.tail)) (r m σ (.E l (kC2 Γ r m op op2 (hE es) (hE es.tail) Q))) z
 | _=>z
noncomputable def stE (Γ:Cfg)(r:RunT)(m:Vars)(σ:Sto)(e:Expr)(Q:D->Sto->Prop)(z:Prop):Prop:=
 match e with
 | .Name x _=>stName Γ m σ x Q z
 | .Constant k _ _=>stConst σ k Q z
 | .BinOp _ op _ _=>r m σ (.E (eL e) (kBin Γ r m op (eR e) Q))
 | .UnaryOp op _ _=>r m σ (.E (eL e) (kUn Γ op Q))
 | .Compare _ ops _ _=>stCmp Γ r m σ (eL e) ops (eS e) Q z
 | .BoolOp op _ _=>r m σ (.Bs op (eS e) Q)
 | .Call _ _ kws pos=>bB kws.isEmpty (stCall Γ r m σ (eL e) (eS e) pos Q z) z
 | .Subscript _ _ _=>bB (isSlice (eR e)) z (r m σ (.E (eL e) (kSub Γ r m (eL e) (eR e) Q)))
 | .List _ _=>r m σ (.A (eS e) (kLst Q))
 | .Tuple _ _ _=>r m σ (.A (eS e) (kTup Q))
 | .ListComp _ _ _ _=>bB (cOk Γ.sc e) (r m σ (.I (cG e).iter (cG e).target (kTn Γ m e (QL Q)))) z
 | _=>z
noncomputable def stT (Γ:Cfg)(r:RunT)(m:Vars)(σ:Sto)(e:Expr)(Q:Bool->Sto->Prop)(z:Prop):Prop:=
 match e with
 | .UnaryOp op _ _=>bB (op==.Not) (r m σ (.T (eL e) (kNot Q))) z
 | .BoolOp op _ _=>r m σ (.Ts op (eS e) Q)
 | .Compare _ ops _ _=>stCmpT Γ r m σ (eL e) ops (eS e) Q z
 | .IfExp _ _ _ _=>z
 | _=>r m σ (.E e (kTru Γ Q))
noncomputable def stI1 (r:RunT)(m:Vars)(σ:Sto)(tg:Expr)(T:String)(as:List Expr)(Q:ItQ)(z:Prop):Prop:=
 oO (asNm tg) (fun x=>bB (decide (T="range")&&as.length==1) (r m σ (.E (hE as) (kRg x.1 Q))) z)
  (bB (tag tg==6) (two (eS tg) (fun x y=>bB (decide (T="enumerate")&&as.length==1) (r m σ (.E (hE as) (kEn x y Q)))
   (bB (decide (T="zip")&&as.length==2) (r m σ (.E (hE as) (kZp r m x y (hE as.tail) Q))) z)) z) z)
noncomputable def stI (Γ:Cfg)(r:RunT)(m:Vars)(σ:Sto)(it tg:Expr)(Q:ItQ)(z:Prop):Prop:=
 bB (tag it==7) (oO (asNm (eL it)) (fun g=>bB ((eK it).isEmpty&&(plainArgs (eS it)&&(isGlo (Γ.sc.names.lookup g.1)&& !odd g.1))) (oO (Γ.bs.lookup g.1) (fun v=>oO (asTy v) (fun T=>stI1 r m σ tg T (eS it) Q z) z) z) z) z) z
noncomputable def stAsg (Γ:Cfg)(r:RunT)(m:Vars)(σ:Sto)(x:Str)(p:Pos)(v:Expr)(ss:List Stmt)(N:Vars->Sto->Prop)(R:D->Sto->Prop)(z:Prop):Prop:=
 bB (isLC v) (bB (kd (Γ.sc.names.lookup x)==2) (r m σ (.E v (kAsg r m x ss N R)))
    (bB (asgOk Γ.sc (cS v) x p v.pos&&cOk Γ.sc v) (r m σ (.I (cG v).iter (cG v).target (kTn Γ m v (QL (kAsg r m x ss N R))))) z))
  (bB (isComp v) z (bB (isLoc (Γ.sc.names.lookup x)) (r m σ (.E v (kAsg r m x ss N R))) z))
noncomputable def stS (Γ:Cfg)(r:RunT)(m:Vars)(σ:Sto)(s:Stmt)(ss:List Stmt)(N:Vars->Sto->Prop)(R:D->Sto->Prop)(z:Prop):Prop:=
 match s with
 | .Return v _=>bB v.isSome (r m σ (.E (sE s) R)) z
 | .Assign ts _ _=>bB (ts.length==1) (oO (asNm (hE ts)) (fun x=>stAsg Γ r m σ x.1 x.2 (sE s) ss N R z) z) z
 | .If _ _ _ _=>r m σ (.T (sE s) (kIf r m (sA s) (sB s) (kRest r ss N R) R))
 | .For _ _ _ o _=>bB (o.isEmpty&&(Γ.f&& !isSet (sE s))) (r m σ (.I (sE s) (sT s) (kLp Γ m (sA s) (kWS Γ ss N R) R))) z
 | .Expr _ _=>bB (isComp (sE s)) z (r m σ (.E (sE s) (kExp r m ss N R)))
 | _=>z
noncomputable def step (Γ:Cfg)(r:RunT):RunT:=fun m σ j=>
 match j with
 | .E e Q=>stE Γ r m σ e Q (haltE Γ m σ e Q)
 | .T e Q=>stT Γ r m σ e Q (haltT Γ m σ e Q)
 | .A es Q=>bB es.isEmpty (Q [] σ) (bB (plainArgs es) (r m σ (.E (hE es) (kArg r m es.tail Q))) (haltAr Γ m σ es Q))
 | .S ss N R=>bB ss.isEmpty (N m σ) (stS Γ r m σ (hS ss) ss.tail N R (halt1 Γ m σ (hS ss) (kWS Γ ss.tail N R) R))
 | .X ss N R=>bB (atIf ss) (haltS Γ m σ ss N R) (r m σ (.S ss N R))
 | .Ts op es Q=>(match op with
  | .And=>bB es.isEmpty (Q true σ) (r m σ (.T (hE es) (kAnd r m es.tail Q)))
  | .Or=>bB es.isEmpty (Q false σ) (r m σ (.T (hE es) (kOr r m es.tail Q))))
 | .Bs op es Q=>bB es.isEmpty (haltBs Γ m σ op es Q) (bB es.tail.isEmpty (r m σ (.E (hE es) Q)) (match op with
   | .And=>r m σ (.E (hE es) (kAndE Γ r m es.tail Q))
   | .Or=>r m σ (.E (hE es) (kOrE Γ r m es.tail Q))))
 | .I it tg Q=>stI Γ r m σ it tg Q (r m σ (.E it (kIv Γ m tg Q)))
noncomputable def run (Γ:Cfg):Nat->RunT
 | 0=>Job.stop Γ
 | n+1=>step Γ (run Γ n)
end Mine
namespace Mine
open PySem PySem.Calls PyProof.Rows
/-! the evaluation is sound-/
noncomputable def Snd (Γ:Cfg)(r:RunT):Prop:=∀m σ j,r m σ j->j.W Γ m σ
theorem bB.use {b:Bool}{p z R:Prop}(h:bB b p z)(k:b=true->p->R)(kz:b=false->z->R):R:=by
 cases b with
 | true=>exact k rfl h
 | false=>exact kz rfl h
theorem oO.use {α:Type}{o:Option α}{f:α->Prop}{z R:Prop}(h:oO o f z)(k:∀a,o=some a->f a->R)(kz:z->R):R:=by
 cases o with
 | none=>exact kz h
 | some a=>exact k a rfl h
theorem ite_use {b:Bool}{P Q R:Prop}(h:if b=true then P else Q)(h1:b=true->P->R)(h2:Q->R):R:=by
 cases b with
 | true=>exact h1 rfl h
 | false=>exact h2 h
theorem ite_to {b:Bool}{P Q P' Q':Prop}(h:if b=true then P else Q)(h1:P->P')(h2:Q->Q'):if b=true then P' else Q':=by
 cases b with
 | true=>exact h1 h
 | false=>exact h2 h
theorem dite_use {p:Prop} [Decidable p] {P Q R:Prop}(h:if p then P else Q)(h1:p->P->R)(h2:Q->R):R:=
 if q:p then h1 q ((if_pos q).mp h) else h2 ((if_neg q).mp h)
theorem and2 {a b:Bool}(h:(a&&b)=true):a=true/\b=true:=Bool.and_eq_true_iff.mp h
theorem nott {a:Bool}(h:(!a)=true):a=false:=by cases a<;>first| rfl| contradiction
theorem cst_ok {c:Bool}{b:Int}(e:(c&&(decide (0<b)&&decide (b.natAbs<2^64)))=true):0<b/\b.natAbs<2^64:=
 ⟨of_decide_eq_true (and2 (and2 e).2).1,of_decide_eq_true (and2 (and2 e).2).2⟩
theorem odd_no {x:Str}(h:odd x=false):(x==("__debug__":Str))=false/\(x==("__classdict__":Str))=false:=Bool.or_eq_false_iff.mp h
theorem ns {α:Type}{x:α}{P:Prop}(h:none=some x):P:=nomatch h
theorem ft {P:Prop}(h:false=true):P:=nomatch h
theorem comp_no {v:Expr}{t:Option Expr}{l:Nat}{env:Env}(h:isComp v=false):swapsWith v t l env=pure false:=by
 cases v<;>first| rfl| exact ft h.symm
theorem set_no {it:Expr}{env:Env}(h:isSet it=false)(x:Value):foldedSetIterable it env x=pure x:=by
 cases it<;>first| rfl| exact ft h.symm
theorem asNm_eq {e:Expr}{x:Str × Pos}(h:asNm e=some x):e=.Name x.1 x.2:=by
 cases e<;>first| exact ns h| (obtain rfl:=Option.some.inj h;rfl)
theorem asAt_eq {e:Expr}{x:Str × Pos}(h:asAt e=some x):e=.Attribute (eL e) x.1 x.2:=by
 cases e<;>first| exact ns h| (obtain rfl:=Option.some.inj h;rfl)
theorem lc_eq {e:Expr}(h:isLC e=true):e=.ListComp (eL e) (cP e).1 (cS e) e.pos:=by
 cases e<;>first| exact ft h| rfl
theorem tup_eq {e:Expr}(h:(tag e==6)=true):∃k p,e=.Tuple (eS e) k p:=by
 cases e<;>first| exact ft h| exact ⟨_,_,rfl⟩
theorem call_eq {e:Expr}(h:(tag e==7)=true):∃p,e=.Call (eL e) (eS e) (eK e) p:=by
 cases e<;>first| exact ft h| exact ⟨_,rfl⟩
theorem asTy_eq {v:Value}{T:String}(h:asTy v=some T):v=.type T:=by
 cases v<;>first| exact ns h| (obtain rfl:=Option.some.inj h;rfl)
theorem one_eq {es:List Expr}(h:(es.length==1)=true):es=[hE es]:=by
 match es,h with
 | [e],_=>rfl
theorem two_eq {es:List Expr}(h:(es.length==2)=true):es=[hE es,hE es.tail]:=by
 match es,h with
 | [e,f],_=>rfl
theorem isDef_dfn {c:Cx}{B:List Stmt}{bs:List (Str × Value)}{f:Str}(T:Tp c B bs)(h:isDef B f=true):Dfn c f:=by
 obtain ⟨s,hs,e⟩:=List.any_eq_true.mp h
 cases q:recOf s with
 | none=>rw [q] at e;contradiction
 | some d=>rw [q] at e;exact Dfn.of T (List.mem_filterMap.mpr ⟨s,hs,q⟩) (eq_of_beq e)
theorem kd_eq {o:Option NameKind}{k:Nat}(h:(kd o==k)=true):match k with| 1=>o=some .local| 2=>o=some .cell| 3=>o=some .free| 4=>o=some .globalImplicit| _=>True:=by
 cases eq_of_beq h
 cases o with
 | none=>trivial
 | some k=>cases k<;>first| rfl| trivial
theorem or2 {a b:Bool}(h:(a|| b)=true):a=true\/b=true:=Bool.or_eq_true_iff.mp h
theorem isLoc_ok {env:Env}{sc:Scope}{x:Str}(s:env.scope=sc)(h:isLoc (sc.names.lookup x)=true):env.kindOf x=some .local\/env.kindOf x=some .cell:=
 (or2 h).imp (fun q=>kindOf_of s (kd_eq q)) fun q=>kindOf_of s (kd_eq q)
theorem isGlo_ok {env:Env}{sc:Scope}{x:Str}(s:env.scope=sc)(h:isGlo (sc.names.lookup x)=true):env.kindOf x=some .globalImplicit:=kindOf_of s (kd_eq h)
section
variable {c:Cx} {A:Around} {fr:List Addr} {env:Env} {X:Addr->Sto->Prop} {m:Vars} {σ:Sto}
theorem WE.to {e:Expr}{Q Q':D->Sto->Prop}(h:WE c A fr env m σ e Q X)(k:∀d σ,Q d σ->Q' d σ):WE c A fr env m σ e Q' X:=h.mono k fun _ _ x=>x
theorem WT.to {e:Expr}{Q Q':Bool->Sto->Prop}(h:WT c A fr env m σ e Q X)(k:∀d σ,Q d σ->Q' d σ):WT c A fr env m σ e Q' X:=fun s ok fm=>(h s ok fm).mono k fun _ _ x=>x
theorem WA.to {es:List Expr}{Q Q':List D->Sto->Prop}(h:WA c A fr env m σ es Q X)(k:∀d σ,Q d σ->Q' d σ):WA c A fr env m σ es Q' X:=fun p s ok fm=>(h p s ok fm).mono k fun _ _ x=>x
theorem WB.to {t:Value->Value->Sem Value}{d1 d2:D}{Q Q':D->Sto->Prop}(h:WB c A fr σ t d1 d2 Q X)(k:∀d σ,Q d σ->Q' d σ):WB c A fr σ t d1 d2 Q' X:=fun v1 v2 s ok x1 x2=>(h v1 v2 s ok x1 x2).mono k fun _ _ y=>y
theorem WTr.to {d:D}{Q Q':Bool->Sto->Prop}(h:WTr c A fr σ d Q X)(k:∀b σ,Q b σ->Q' b σ):WTr c A fr σ d Q' X:=fun v s ok x=>(h v s ok x).mono k fun _ _ y=>y
theorem WS.toN {ss:List Stmt}{J N:Vars->Sto->Prop}{R:D->Sto->Prop}(h:WS c A fr env m σ ss J R X)(k:∀m' σ',J m' σ'->N m' σ'):WS c A fr env m σ ss N R X:=fun s ok fm=>(h s ok fm).mono (fun _ _ q=>QO.mono k q) fun _ _ x=>x
theorem WIt.to {it tg:Expr}{Q Q':ItQ}(h:WIt c A fr env m σ it tg Q X)(k:∀vs I σ,Q vs I σ->Q' vs I σ):WIt c A fr env m σ it tg Q' X:=fun s ok fm=>
 wpAny_mono (h s ok fm) (fun x s1 h1=>wpAny_mono h1 (fun y s2 ⟨I,wr,vals,Inv,St,Mid,σ',e,p,ok,okw,hn,fmw,src,st,inv,q⟩=>⟨I,wr,vals,Inv,St,Mid,σ',e,p,ok,okw,hn,fmw,src,st,inv,k _ _ _ q⟩) fun _ _ x=>x) fun _ _ x=>x
theorem Turns.to {scope:Scope}{ifs:List Expr}{elt:Expr}{Z Z':List D->Sto->Prop}{vals:List Vars}{I:Sto->Prop}(h:Turns c A env m scope ifs elt Z vals I σ)(k:∀ds σ,Z ds σ->Z' ds σ):Turns c A env m scope ifs elt Z' vals I σ:=
 match h with
 | ⟨hk,L,h0,hinv,step,fin⟩=>⟨hk,L,h0,hinv,step,fun ds σ' q=>k _ _ (fin ds σ' q)⟩
theorem QL.to {Q Q':D->Sto->Prop}{ds:List D}(h:QL Q ds σ)(k:∀d σ,Q d σ->Q' d σ):QL Q' ds σ:=h.imp (k _ _) fun h a ha=>k _ _ (h a ha)
theorem WE.nVar {sc:Scope}{x:Str}{pos:Pos}{d:D}{Q:D->Sto->Prop}(s:env.scope=sc)(o:odd x=false)(hv:m.lookup x=some d)(hk:isVar (sc.names.lookup x)=true)(h:Q d σ):WE c A fr env m σ (.Name x pos) Q X:=
 (or2 hk).elim (fun q=>WE.nLocal hv (kindOf_of s (kd_eq q)) h (odd_no o).1) fun q=>(or2 q).elim (fun q=>WE.nCell hv (kindOf_of s (kd_eq q)) h (odd_no o).1) fun q=>WE.nFree hv (kindOf_of s (kd_eq q)) h (odd_no o).1 (odd_no o).2
theorem WE.callBT {B:List Stmt}{bs:List (Str × Value)}(T:Tp c B bs){f:Str}{fp pos:Pos}{args:List Expr}{v:Value}{Q:D->Sto->Prop}(hk:env.kindOf f=some .globalImplicit)(hb:bs.lookup f=some v)(hv:isBT v=true)
  (h:WA c A fr env m σ args (fun ds σ1=>At1 c A fr σ1 v ds Q X) X) (hp:plainArgs args=true) (hdb:(f==("__debug__":Str))=false):WE c A fr env m σ (.Call (.Name f fp) args [] pos) Q X:=by
 cases v<;>first| exact ft hv| exact WE.callI T hk hb h hp hdb| exact WE.callY T hk hb h hp hdb
end
section
variable {Γ:Cfg} {r:RunT} {m:Vars} {σ:Sto}
theorem doBin_ok {op:Operator}{cst:Bool}{Q:D->Sto->Prop}{d1 d2:D}(h:doBin Γ op cst Q d1 d2 σ):WB Γ.c Γ.A Γ.fr σ (binaryOp op) d1 d2 Q Γ.X:=by
 cases d1<;>first| exact Sp.h h| skip
 cases d2<;>first| exact Sp.h h| skip
 cases op<;>first| exact Sp.h h| exact WB.add h| exact WB.sub h| exact ite_use h (fun e p=>WB.modE (cst_ok e).1 (cst_ok e).2 p) Sp.h| exact ite_use h (fun e p=>WB.fdivE (cst_ok e).1 (cst_ok e).2 p) Sp.h
theorem doCmp_ok {op:CmpOp}{Q:D->Sto->Prop}{d1 d2:D}(h:doCmp Γ op Q d1 d2 σ):WB Γ.c Γ.A Γ.fr σ (compareOp op) d1 d2 Q Γ.X:=by
 cases d1<;>first| exact Sp.h h| skip
 cases d2<;>first| exact Sp.h h| skip
 cases op<;>first| exact Sp.h h| exact WB.lt h| exact WB.le h| exact WB.gt h| exact WB.ge h| exact WB.eqI h| exact WB.neI h
theorem doUn_ok {op:UnaryOp}{Q:D->Sto->Prop}{d:D}(h:doUn Γ op Q d σ):WU Γ.c Γ.A Γ.fr σ (unaryOp op) d Q Γ.X:=by
 cases d<;>first| exact Sp.h h| (cases op<;>first| exact Sp.h h| exact WU.notB h| exact WU.neg h)
theorem doTru_ok {Q Q':Bool->Sto->Prop}{d:D}(h:doTru Γ Q d σ)(k:∀b σ,Q b σ->Q' b σ):WTr Γ.c Γ.A Γ.fr σ d Q' Γ.X:=by
 cases d<;>first| exact WTr.to (Sp.h h) k| exact WTr.bool (k _ _ h)
theorem stName_ok (g:Gd Γ.B Γ.bs Γ.gs Γ.sc Γ.k Γ.f Γ.c Γ.A Γ.env){x:Str}{p:Pos}{Q:D->Sto->Prop}(h:stName Γ m σ x Q (haltE Γ m σ (.Name x p) Q)):WE Γ.c Γ.A Γ.fr Γ.env m σ (.Name x p) Q Γ.X:=
 bB.use h (fun _=>Sp.h) fun o h=>bB.use h (fun hk h=>oO.use h (fun d hd h=>WE.nVar g.s o hd hk h) Sp.h)
  fun _ h=>bB.use h (fun hk h=>oO.use h (fun i hi h=>WE.gInt g.T g.G (isGlo_ok g.s hk) hi h (odd_no o).1) fun h=>oO.use h (fun v hv h=>oO.use h (fun T hT h=>by
   cases asTy_eq hT
   exact WE.nType g.T.good (isGlo_ok g.s hk) (g.T.bn _ _ hv).1 (g.T.bn _ _ hv).2 h (odd_no o).1) Sp.h) Sp.h) fun _=>Sp.h
theorem stConst_ok {k:Const}{j:Nat}{p:Pos}{Q:D->Sto->Prop}(h:stConst σ k Q (haltE Γ m σ (.Constant k j p) Q)):WE Γ.c Γ.A Γ.fr Γ.env m σ (.Constant k j p) Q Γ.X:=by
 cases k<;>first| exact Sp.h h| exact WE.kInt h| exact WE.kStr h| exact WE.kBool h| exact WE.kNone h
theorem stCallN_ok (g:Gd Γ.B Γ.bs Γ.gs Γ.sc Γ.k Γ.f Γ.c Γ.A Γ.env)(H:Snd Γ r){f:Str}{fp:Pos}{args:List Expr}{p:Pos}{Q:D->Sto->Prop}(h:stCallN Γ r m σ f args Q (haltE Γ m σ (.Call (.Name f fp) args [] p) Q)):WE Γ.c Γ.A Γ.fr Γ.env m σ (.Call (.Name f fp) args [] p) Q Γ.X:=
 bB.use h (fun e h=>
  have e1:=and2 e
  have e2:=and2 e1.2
  have od:=(odd_no (nott e2.2)).1
  have hk:=isGlo_ok g.s e2.1
  bB.use h (fun e3 h=>WE.callN g.T g.r hk (isDef_dfn g.T e3) ((H _ _ _ h).to fun ds σ q=>q.h) e1.1 od) fun _ h=>oO.use h (fun v hv h=>bB.use h (fun hb h=>WE.callBT g.T hk hv hb ((H _ _ _ h).to fun ds σ q=>q.h) e1.1 od) fun _=>Sp.h) Sp.h) fun _=>Sp.h
theorem app_ok (H:Snd Γ r){o:Expr}{ap:Pos}{args:List Expr}{p:Pos}{Q:D->Sto->Prop}(ho:(asNm o).isSome=true)(hp:plainArgs args=true)(hl:(ap.endLine==p.line)=true)(hn:decide (args.length<30)=true)(h:r m σ (.E o (kApp Γ r m args Q))):WE Γ.c Γ.A Γ.fr Γ.env m σ (.Call (.Attribute o "append" ap) args [] p) Q Γ.X:=by
 refine Exists.elim (Option.isSome_iff_exists.mp ho) fun x hx=> ?_
 exact WE.methL F.slot_list_append (by with_unfolding_all rfl) ((H _ _ _ h).to fun d σ q=>match q.h with
   | ⟨sd,e,hL,hi,q⟩=>⟨sd,e,hL,hi,(H _ _ _ q).to fun ds σ q=>q.h⟩) hp (fun w=>by rw [asNm_eq hx];rfl) hl hn
theorem stCall_ok (g:Gd Γ.B Γ.bs Γ.gs Γ.sc Γ.k Γ.f Γ.c Γ.A Γ.env)(H:Snd Γ r){f:Expr}{args:List Expr}{p:Pos}{Q:D->Sto->Prop}(h:stCall Γ r m σ f args p Q (haltE Γ m σ (.Call f args [] p) Q)):WE Γ.c Γ.A Γ.fr Γ.env m σ (.Call f args [] p) Q Γ.X:=
 oO.use h (fun x e h=>by
  cases asNm_eq e
  exact stCallN_ok g H h) fun h=>oO.use h (fun a e h=>bB.use h (fun e1 h=>by
   have e1:=and2 e1
   have e2:=and2 e1.2
   have e3:=and2 e2.2
   have e4:=and2 e3.2
   rw [asAt_eq e,eq_of_beq e1.1]
   exact app_ok H e2.1 e3.1 e4.1 e4.2 h) fun _=>Sp.h) Sp.h
theorem stCmp_ok (H:Snd Γ r){l:Expr}{ops:List CmpOp}{es:List Expr}{p:Pos}{Q:D->Sto->Prop}(h:stCmp Γ r m σ l ops es Q (haltE Γ m σ (.Compare l ops es p) Q)):WE Γ.c Γ.A Γ.fr Γ.env m σ (.Compare l ops es p) Q Γ.X:=by
 match ops,h with
 | [],h=>exact Sp.h h
 | [op],h=>exact bB.use h (fun e h=>by
   have e1:=and2 e
   exact (one_eq e1.1)▸WE.compare ((H _ _ _ h).to fun d1 σ1 q=>(H _ _ _ q).to fun d2 σ2 q=>doCmp_ok q) (nott e1.2)) fun _=>Sp.h
 | [op,op2],h=>exact bB.use h (fun e h=>by
   have e1:=and2 e
   exact (two_eq e1.1)▸WE.compare2 ((H _ _ _ h).to fun d1 σ1 q=>(H _ _ _ q).to fun d2 σ2 q=>WB.to (doCmp_ok q) fun d3 σ3 q=>doTru_ok q fun b σ4 q=>ite_to q (fun q=>(H _ _ _ q).to fun d4 σ5 q=>doCmp_ok q) id) (nott e1.2)) fun _=>Sp.h
 | _::_::_::_,h=>exact Sp.h h
theorem stCmpT_ok (H:Snd Γ r){l:Expr}{ops:List CmpOp}{es:List Expr}{p:Pos}{Q:Bool->Sto->Prop}(h:stCmpT Γ r m σ l ops es Q (haltT Γ m σ (.Compare l ops es p) Q)):WT Γ.c Γ.A Γ.fr Γ.env m σ (.Compare l ops es p) Q Γ.X:=by
 have tr:∀{Q:Bool->Sto->Prop} (d:D) (σ:Sto),kTru Γ Q d σ->WTr Γ.c Γ.A Γ.fr σ d Q Γ.X:=fun d σ q=>doTru_ok q fun _ _ q=>q
 match ops,h with
 | [],h=>exact Sp.h h
 | [op],h=>exact bB.use h (fun e h=>by
   have e1:=and2 e
   exact (one_eq e1.1)▸WT.compare ((H _ _ _ h).to fun d1 σ1 q=>(H _ _ _ q).to fun d2 σ2 q=>WB.to (doCmp_ok q) tr) (nott e1.2)) fun _=>Sp.h
 | [op,op2],h=>exact bB.use h (fun e h=>by
   have e1:=and2 e
   exact (two_eq e1.1)▸WT.compare2 ((H _ _ _ h).to fun d1 σ1 q=>(H _ _ _ q).to fun d2 σ2 q=>WB.to (doCmp_ok q) fun d3 σ3 q=>doTru_ok q fun b σ4 q=>ite_to q (fun q=>(H _ _ _ q).to fun d4 σ5 q=>WB.to (doCmp_ok q) tr) id) (nott e1.2)) fun _=>Sp.h
 | _::_::_::_,h=>exact Sp.h h
theorem gen_eq {gs:List Comprehension}(h1:(gs.length==1)=true)(h2:((gs.headD ⟨no0,no0,[],0⟩).is_async==0)=true):gs=[⟨(gs.headD ⟨no0,no0,[],0⟩).target,(gs.headD ⟨no0,no0,[],0⟩).iter,(gs.headD ⟨no0,no0,[],0⟩).ifs,0⟩]:=by
 match gs,h1,h2 with
 | [⟨tg,iter,ifs,a⟩],_,h2=>rw [show a=0 from eq_of_beq h2];rfl
theorem cOk_ok {sc:Scope}{e:Expr}(h:cOk sc e=true):(cP e).1=[⟨(cG e).target,(cG e).iter,(cG e).ifs,0⟩]/\compOk (cS e)=true/\freeOk (cS e) sc=true/\isSet (cG e).iter=false:=
 have e1:=and2 h
 have e2:=and2 e1.2
 have e3:=and2 e2.2
 have e0:=and2 e1.1
 ⟨gen_eq e0.1 e0.2,e2.1,e3.1,nott e3.2⟩
theorem comp_ok (g:Gd Γ.B Γ.bs Γ.gs Γ.sc Γ.k Γ.f Γ.c Γ.A Γ.env)(H:Snd Γ r){e:Expr}{Q:D->Sto->Prop}(hl:isLC e=true)(hc:cOk Γ.sc e=true)(h:r m σ (.I (cG e).iter (cG e).target (kTn Γ m e (QL Q)))):WE Γ.c Γ.A Γ.fr Γ.env m σ e Q Γ.X:=by
 obtain ⟨h1,h2,h3,h4⟩:=cOk_ok hc
 have t:=WE.comp (pos:=e.pos) (H _ _ _ h) h2 (freeOk_of g.s h3) (set_no h4)
 rw [<-h1,<-lc_eq hl] at t
 exact t
theorem stE_ok (g:Gd Γ.B Γ.bs Γ.gs Γ.sc Γ.k Γ.f Γ.c Γ.A Γ.env)(H:Snd Γ r){e:Expr}{Q:D->Sto->Prop}(h:stE Γ r m σ e Q (haltE Γ m σ e Q)):WE Γ.c Γ.A Γ.fr Γ.env m σ e Q Γ.X:=by
 cases e<;>first| exact Sp.h h| exact stName_ok g h| exact stConst_ok h| exact stCmp_ok H h| exact WE.boolop (H _ _ _ h)| exact WE.unary ((H _ _ _ h).to fun d σ q=>doUn_ok q)| exact WE.binop ((H _ _ _ h).to fun d1 σ1 q=>(H _ _ _ q).to fun d2 σ2 q=>doBin_ok q)| exact WE.list ((H _ _ _ h).to fun ds σ q=>dite_use q (fun e q=>⟨Nat.le_trans e (by unfold sizeLine;decide),q.h⟩) Sp.h)| exact WE.tuple ((H _ _ _ h).to fun ds σ q=>dite_use q (fun e q=>⟨Nat.le_trans e (by unfold sizeLine;decide),q⟩) Sp.h)| exact bB.use h (fun _=>Sp.h) fun _ h=>WE.sub ((H _ _ _ h).to fun d1 σ1 q=>(H _ _ _ q).to fun d2 σ2 q=>q.h)| skip
 ·exact bB.use h (fun e h=>comp_ok g H rfl e h) fun _=>Sp.h
 ·exact bB.use h (fun e h=>by
   cases List.isEmpty_iff.mp e
   exact stCall_ok g H h) fun _=>Sp.h
theorem stI_of (H:Snd Γ r){it tg:Expr}{Q:ItQ}(h:r m σ (.E it (kIv Γ m tg Q))):WIt Γ.c Γ.A Γ.fr Γ.env m σ it tg Q Γ.X:=WIt.of ((H _ _ _ h).to fun d σ q=>q.h)
theorem kRg_ok {x:Str}{Q:ItQ}{d:D}(h:kRg x Q d σ):∃n:Int,d=.int n/\-(2^62)<=n/\n<2^62/\Q ((List.range n.toNat).map fun (i:Nat)=>[(x,D.int (i:Int))]) (fun _=>True) σ:=by
 cases d<;>first| exact (Sp.h h).elim fun n q=>⟨n,q.1,q.2.1,q.2.2,q.2.3⟩| exact ⟨_,rfl,(Sp.h h).1,(Sp.h h).2,(Sp.h h).3⟩
theorem stI1_ok (g:Gd Γ.B Γ.bs Γ.gs Γ.sc Γ.k Γ.f Γ.c Γ.A Γ.env)(H:Snd Γ r){f:Str}{fp p:Pos}{as:List Expr}{tg:Expr}{T:String}{Q:ItQ}(hk:Γ.env.kindOf f=some .globalImplicit)(hb:Γ.bs.lookup f=some (.type T))(hp:plainArgs as=true)(od:(f==("__debug__":Str))=false)
  (h:stI1 r m σ tg T as Q (r m σ (.E (.Call (.Name f fp) as [] p) (kIv Γ m tg Q)))):WIt Γ.c Γ.A Γ.fr Γ.env m σ (.Call (.Name f fp) as [] p) tg Q Γ.X:=
 oO.use h (fun x hx h=>bB.use h (fun e h=>by
  have e1:=and2 e
  rw [of_decide_eq_true e1.1] at hb
  rw [one_eq e1.2] at hp⊢
  rw [asNm_eq hx]
  exact WIt.range g.T g.r.2 hk hb ((H _ _ _ h).to fun d σ q=>kRg_ok q) hp od) fun _=>stI_of H)
 fun h=>bB.use h (fun ht h=>bB.use h (fun e h=>oO.use h (fun x hx h=>oO.use h (fun y hy h=>by
  obtain ⟨k,q,hq⟩:=tup_eq ht
  rw [two_eq e,asNm_eq hx,asNm_eq hy] at hq
  exact hq▸bB.use h (fun e h=>by
   have e1:=and2 e
   rw [of_decide_eq_true e1.1] at hb
   rw [one_eq e1.2] at hp⊢
   exact WIt.enum g.T g.r.2 hk hb ((H _ _ _ h).to fun d σ q=>match q.h with
    | ⟨α,sd,is,F,e,hL,l,i,q⟩=>⟨α,sd,is,F,e,hL,l,i,q⟩) hp od) fun _ h=>bB.use h (fun e h=>by
   have e1:=and2 e
   rw [of_decide_eq_true e1.1] at hb
   rw [two_eq e1.2] at hp⊢
   exact WIt.zipX g.T g.r.2 hk hb ((H _ _ _ h).to fun d1 σ1 q=>(H _ _ _ q).to fun d2 σ2 q=>match q.h with
    | ⟨α,β,sd1,sd2,is,js,f1,f2,e1,e2,l1,l2,i1,i2,q⟩=>⟨α,β,sd1,sd2,is,js,f1,f2,e1,e2,l1,l2,i1,i2,q⟩) hp od) fun _ h=>hq▸stI_of H h) (stI_of H)) (stI_of H)) fun _=>stI_of H) fun _=>stI_of H
theorem stI_ok (g:Gd Γ.B Γ.bs Γ.gs Γ.sc Γ.k Γ.f Γ.c Γ.A Γ.env)(H:Snd Γ r){it tg:Expr}{Q:ItQ}(h:stI Γ r m σ it tg Q (r m σ (.E it (kIv Γ m tg Q)))):WIt Γ.c Γ.A Γ.fr Γ.env m σ it tg Q Γ.X:=
 bB.use h (fun hc h=>oO.use h (fun f hf h=>bB.use h (fun e h=>oO.use h (fun v hv h=>oO.use h (fun T hT h=>by
  obtain ⟨p,hq⟩:=call_eq hc
  have e1:=and2 e
  have e2:=and2 e1.2
  have e3:=and2 e2.2
  rw [asTy_eq hT] at hv
  rw [asNm_eq hf,List.isEmpty_iff.mp e1.1] at hq
  rw [hq]
  refine stI1_ok g H (isGlo_ok g.s e3.1) hv e2.1 (odd_no (nott e3.2)).1 ?_
  exact hq▸h) (stI_of H)) (stI_of H)) fun _=>stI_of H) (stI_of H)) fun _=>stI_of H
theorem stT_ok (g:Gd Γ.B Γ.bs Γ.gs Γ.sc Γ.k Γ.f Γ.c Γ.A Γ.env)(H:Snd Γ r){e:Expr}{Q:Bool->Sto->Prop}(h:stT Γ r m σ e Q (haltT Γ m σ e Q)):WT Γ.c Γ.A Γ.fr Γ.env m σ e Q Γ.X:=by
 cases e<;>first| exact Sp.h h| exact stCmpT_ok H h| exact WT.boolop (H _ _ _ h)| exact WT.plain ((H _ _ _ h).to fun d σ q=>doTru_ok q fun _ _ q=>q)| skip
 rename_i op x p
 exact bB.use h (fun e h=>by
  cases op<;>first| exact absurd e (by decide)| exact WT.not (H _ _ _ h)) fun _=>Sp.h
theorem stAsg_ok (g:Gd Γ.B Γ.bs Γ.gs Γ.sc Γ.k Γ.f Γ.c Γ.A Γ.env)(H:Snd Γ r){x:Str}{p p':Pos}{v:Expr}{ss:List Stmt}{N:Vars->Sto->Prop}{R:D->Sto->Prop}(h:stAsg Γ r m σ x p v ss N R (halt1 Γ m σ (.Assign [.Name x p] v p') (kWS Γ ss N R) R)):W1 Γ.c Γ.A Γ.fr Γ.env m σ (.Assign [.Name x p] v p') (kWS Γ ss N R) R Γ.X:=
 bB.use h (fun hl h=>bB.use h (fun hk h=>by
   have t:=(H _ _ _ h).to (Q':=fun d σ'=>kWS Γ ss N R ((x,d)::m) σ') fun d σ q=>H _ _ _ q
   rw [lc_eq hl] at t⊢
   exact W1.assignK g.s t (kd_eq hk)) fun _ h=>bB.use h (fun e h=>by
   have e1:=and2 e
   obtain ⟨h1,h2,h3,h4⟩:=cOk_ok e1.2
   have t:=W1.assignC (pos:=p') (R:=R) (N:=kWS Γ ss N R) g.s (WIt.to (H _ _ _ h) fun vs I σ q=>Turns.to q fun ds σ q=>q.to fun d σ q=>H _ _ _ q) h2 h3 e1.1 (set_no h4)
   rw [<-h1,<-lc_eq hl] at t
   exact t) fun _=>Sp.h)
  fun _ h=>bB.use h (fun _=>Sp.h) fun e h=>bB.use h (fun e2 h=>W1.assign ((H _ _ _ h).to fun d σ q=>H _ _ _ q) (isLoc_ok g.s e2) (comp_no e)) fun _=>Sp.h
theorem stS_ok (g:Gd Γ.B Γ.bs Γ.gs Γ.sc Γ.k Γ.f Γ.c Γ.A Γ.env)(H:Snd Γ r){s:Stmt}{ss:List Stmt}{N:Vars->Sto->Prop}{R:D->Sto->Prop}(h:stS Γ r m σ s ss N R (halt1 Γ m σ s (kWS Γ ss N R) R)):W1 Γ.c Γ.A Γ.fr Γ.env m σ s (kWS Γ ss N R) R Γ.X:=by
 cases s<;>first| exact Sp.h h| exact W1.ite ((H _ _ _ h).to fun b σ q=>ite_to q (fun q=>WS.toN (H _ _ _ q) fun m' σ' q=>H _ _ _ q) fun q=>WS.toN (H _ _ _ q) fun m' σ' q=>H _ _ _ q)| exact bB.use h (fun _=>Sp.h) fun e h=>W1.expr ((H _ _ _ h).to fun d σ q=>H _ _ _ q) (comp_no e)| skip
 ·rename_i v p
  cases v with
  | none=>exact Sp.h h
  | some e=>exact W1.ret (H _ _ _ h)
 ·rename_i ts v p
  exact bB.use h (fun e h=>oO.use h (fun x hx h=>by
   rw [one_eq e,asNm_eq hx] at h⊢
   exact stAsg_ok g H h) Sp.h) fun _=>Sp.h
 ·exact bB.use h (fun e h=>by
   have e1:=and2 e
   have e2:=and2 e1.2
   cases List.isEmpty_iff.mp e1.1
   exact W1.forL (g.fe e2.1) (H _ _ _ h) (set_no (nott e2.2))) fun _=>Sp.h
theorem step_ok (g:Gd Γ.B Γ.bs Γ.gs Γ.sc Γ.k Γ.f Γ.c Γ.A Γ.env)(H:Snd Γ r):Snd Γ (step Γ r):=fun m σ j h=>by
 cases j with
 | E e Q=>exact stE_ok g H h
 | T e Q=>exact stT_ok g H h
 | A es Q=>
  cases es with
  | nil=>exact WA.nil h
  | cons e es=>exact bB.use h (fun hp h=>WA.cons ((H _ _ _ h).to fun d σ q=>H _ _ _ q) hp) fun _=>Sp.h
 | S ss N R=>
  cases ss with
  | nil=>exact WS.nil h
  | cons s ss=>exact WS.cons (stS_ok g H h)
 | X ss N R=>exact bB.use h (fun _=>Sp.h) fun _ h=>H _ _ (.S ss N R) h
 | Ts op es Q=>
  cases op<;>cases es<;>first| exact WTs.nilAnd h| exact WTs.nilOr h| exact WTs.and ((H _ _ _ h).to fun b σ q=>ite_to q (fun q=>H _ _ _ q) id)| exact WTs.or ((H _ _ _ h).to fun b σ q=>ite_to q id fun q=>H _ _ _ q)
 | I it tg Q=>exact stI_ok g H h
 | Bs op es Q=>
  cases es with
  | nil=>exact Sp.h h
  | cons e es=>
   cases es with
   | nil=>exact WBs.one (H _ _ _ h)
   | cons e2 es=>
    cases op with
    | And=>exact WBs.and ((H _ _ _ h).to fun d σ q=>doTru_ok q fun b σ q=>ite_to q (fun q=>H _ _ _ q) id)
    | Or=>exact WBs.or ((H _ _ _ h).to fun d σ q=>doTru_ok q fun b σ q=>ite_to q id fun q=>H _ _ _ q)
theorem run_ok (g:Gd Γ.B Γ.bs Γ.gs Γ.sc Γ.k Γ.f Γ.c Γ.A Γ.env):∀n,Snd Γ (run Γ n)
 | 0=>fun _ _ _ h=>Sp.h h
 | n+1=>step_ok g (run_ok g n)
end
section
variable {B:List Stmt} {bs:List (Str × Value)} {gs:List (Str × Int)} {sc:Scope} {k:Nat} {f:Bool} {c:Cx} {A:Around} {X:Addr->Sto->Prop} {env:Env} {fr:List Addr} {m:Vars} {σ:Sto}
theorem WE.go (g:Gd B bs gs sc k f c A env){e:Expr}{Q:D->Sto->Prop}(h:run ⟨B,bs,gs,sc,k,f,c,A,X,env,fr⟩ 1000 m σ (.E e (stop Q))):WE c A fr env m σ e Q X:=
 WE.to (run_ok (Γ:=⟨B,bs,gs,sc,k,f,c,A,X,env,fr⟩) g _ _ _ _ h) fun _ _ q=>q.h
theorem WT.go (g:Gd B bs gs sc k f c A env){e:Expr}{Q:Bool->Sto->Prop}(h:run ⟨B,bs,gs,sc,k,f,c,A,X,env,fr⟩ 1000 m σ (.T e (stop Q))):WT c A fr env m σ e Q X:=
 WT.to (run_ok (Γ:=⟨B,bs,gs,sc,k,f,c,A,X,env,fr⟩) g _ _ _ _ h) fun _ _ q=>q.h
theorem WA.go (g:Gd B bs gs sc k f c A env){es:List Expr}{Q:List D->Sto->Prop}(h:run ⟨B,bs,gs,sc,k,f,c,A,X,env,fr⟩ 1000 m σ (.A es (stop Q))):WA c A fr env m σ es Q X:=
 WA.to (run_ok (Γ:=⟨B,bs,gs,sc,k,f,c,A,X,env,fr⟩) g _ _ _ _ h) fun _ _ q=>q.h
theorem WS.go (g:Gd B bs gs sc k f c A env){ss:List Stmt}{N:Vars->Sto->Prop}{R:D->Sto->Prop}(h:run ⟨B,bs,gs,sc,k,f,c,A,X,env,fr⟩ 1000 m σ (.S ss (nstop N) (stop R))):WS c A fr env m σ ss N R X:=fun s ok fm=>
 (run_ok (Γ:=⟨B,bs,gs,sc,k,f,c,A,X,env,fr⟩) g _ _ _ _ h s ok fm).mono (fun o σ q=>by cases o<;>exact Sp.h q) fun _ _ x=>x
theorem WS.goN (g:Gd B bs gs sc k f c A env){ss:List Stmt}{N:Vars->Sto->Prop}{R:D->Sto->Prop}(h:run ⟨B,bs,gs,sc,k,f,c,A,X,env,fr⟩ 1000 m σ (.S ss (nstop N) R)):WS c A fr env m σ ss N R X:=WS.toN (run_ok (Γ:=⟨B,bs,gs,sc,k,f,c,A,X,env,fr⟩) g _ _ _ _ h) fun _ _ q=>q.h
theorem WS.goK (g:Gd B bs gs sc k f c A env){ss:List Stmt}{N:Vars->Sto->Prop}{R:D->Sto->Prop}(h:run ⟨B,bs,gs,sc,k,f,c,A,X,env,fr⟩ 1000 m σ (.S ss N R)):WS c A fr env m σ ss N R X:=run_ok (Γ:=⟨B,bs,gs,sc,k,f,c,A,X,env,fr⟩) g _ _ _ _ h
theorem WE.base {l:Vars}{e:Expr}{Q:D->Sto->Prop}(h:Hs m l)(k:WE c A fr env l σ e Q X):WE c A fr env m σ e Q X:=fun s ok fm=>k s ok (fm.turn fun x d e=>⟨d,h x d e,fun v hv=>hv⟩)
theorem Gi.nil:Gi c []:=fun x i e=>by contradiction
theorem Gd.at (g:Gd B bs gs sc k f c A env){env':Env}{sc':Scope}(s:env'.scope=sc'):Gd B bs gs sc' k false c A env':=⟨g.T,g.G,g.r,s,fun e=>by nomatch e⟩
theorem brT {b:Bool}{P Q:Prop}(e:b=true)(h:P):if b=true then P else Q:=by rw [if_pos e];exact h
theorem brF {b:Bool}{P Q:Prop}(e:b=false)(h:Q):if b=true then P else Q:=by rw [e];exact h
theorem brNT {b:Bool}{P Q:Prop}(e:b=false)(h:P):if (!b)=true then P else Q:=by rw [e];exact h
theorem brNF {b:Bool}{P Q:Prop}(e:b=true)(h:Q):if (!b)=true then P else Q:=by rw [e];exact h
theorem brJ {b:Bool}{P Q:Prop}(h:P)(k:b=false->P->Q):if b=true then P else Q:=by
 cases b with
 | true=>exact h
 | false=>exact k rfl h
noncomputable def pickV (m:Vars):List Str->Option Vars
 | []=>some []
 | x::xs=>match m.lookup x with
  | none=>none
  | some d=>match pickV m xs with
   | none=>none
   | some l=>some ((x,d)::l)
theorem Hs.of {m:Vars}:∀(xs:List Str) {l:Vars},pickV m xs=some l->Hs m l
 | [],l,e=>by
  injection e with e;subst e;exact Hs.nil
 | x::xs,l,e=>by
  unfold pickV at e
  split at e
  ·contradiction
  ·rename_i d hd
   split at e
   ·contradiction
   ·rename_i l' hl
    injection e with e;subst e
    exact Hs.cons hd (Hs.of xs hl)
theorem Hs.lit {m l:Vars}(e:pickV m (l.map (·.1))=some l):Hs m l:=Hs.of _ e
end
end Mine
namespace Mine
open PySem PySem.Calls PyProof.Rows PySem.W
noncomputable def recAt (B:List Stmt)(i:Nat):PySem.DefRec:=((B[i]?).bind recOf).getD ⟨"",⟨[],[],none,[],[],none,[]⟩,[],⟨.function,[],false,false,[]⟩,⟨0,0,0,0⟩⟩
theorem recAt_some {B:List Stmt}{i:Nat}(h:((B[i]?).bind recOf).isSome=true):(B[i]?).bind recOf=some (recAt B i):=by
 unfold recAt
 cases q:(B[i]?).bind recOf with
 | none=>rw [q] at h;contradiction
 | some d=>rfl
section
variable {c:Cx} {A:Around} {fr:List Addr} {σ:Sto} {X:Addr->Sto->Prop} {Q:D->Sto->Prop} {env:Env} {m:Vars} {B:List Stmt} {bs:List (Str × Value)} {gs:List (Str × Int)} {K:Frag} {C:Addr} {cn:Str} {Bd:List Stmt}
theorem WF.byG (i:Nat){ps:List Str}{n:Nat}{ds:List D}{f:Str}(T:Tp c B bs)(G:Gi c gs)(hd:((B[i]?).bind recOf).isSome=true)(hf:(recAt B i).name=f)
  (hb:∀pm code doc vals,vals.length=ps.length->bindArgs (docDef (recAt B i).name (recAt B i).params (recAt B i).body (recAt B i).scope pm code doc) ⟨vals,[]⟩=pure (ps.zip vals)) (hok:fnOk (recAt B i).scope ps=true) (hl:ds.length=ps.length)
  (h:∀A fr env,Gd B bs gs (recAt B i).scope n true c A env->Room n A->A.handled=none->env.scope=(recAt B i).scope->Fe A env (recAt B i).scope->run ⟨B,bs,gs,(recAt B i).scope,n,true,c,A,X,env,Fa env++fr⟩ 1000 (ps.zip ds) σ (.S (recAt B i).body (nstop fun _ σ'=>Q .none σ') (stop Q))):WF c (Room (n+1)) f ds σ Q X:=
 WF.of T (rec_mem (recAt_some hd)) hf hb hok hl fun A fr env r hs fe=>
  have g:Gd B bs gs (recAt B i).scope n true c A env:=⟨T,G,r,hs,fun _=>fe⟩
  WS.go g (h A fr env g r r.2 hs fe)
theorem WF.byS (i:Nat){ps:List Str}{n:Nat}{ds:List D}{f:Str}(T:Tp c B bs)(hd:((B[i]?).bind recOf).isSome=true)(hf:(recAt B i).name=f)
  (hb:∀pm code doc vals,vals.length=ps.length->bindArgs (docDef (recAt B i).name (recAt B i).params (recAt B i).body (recAt B i).scope pm code doc) ⟨vals,[]⟩=pure (ps.zip vals)) (hok:fnOk (recAt B i).scope ps=true) (hl:ds.length=ps.length)
  (h:∀A fr env,Gd B bs [] (recAt B i).scope n true c A env->Room n A->A.handled=none->env.scope=(recAt B i).scope->Fe A env (recAt B i).scope->WS c A (Fa env++fr) env (ps.zip ds) σ (recAt B i).body (fun _ σ'=>Q .none σ') Q X):WF c (Room (n+1)) f ds σ Q X:=
 WF.of T (rec_mem (recAt_some hd)) hf hb hok hl fun A fr env r hs fe=>h A fr env ⟨T,Gi.nil,r,hs,fun _=>fe⟩ r r.2 hs fe
theorem WF.byA (i:Nat){ps:List Str}{n:Nat}{ds:List D}{f:Str}(T:Tp c B bs)(hd:((B[i]?).bind recOf).isSome=true)(hf:(recAt B i).name=f)
  (hb:∀pm code doc vals,vals.length=ps.length->bindArgs (docDef (recAt B i).name (recAt B i).params (recAt B i).body (recAt B i).scope pm code doc) ⟨vals,[]⟩=pure (ps.zip vals)) (hok:fnOk (recAt B i).scope ps=true) (hl:ds.length=ps.length)
  (h:∀A fr env,Gd B bs [] (recAt B i).scope n true c A env->Room n A->A.handled=none->env.scope=(recAt B i).scope->Fe A env (recAt B i).scope->run ⟨B,bs,[],(recAt B i).scope,n,true,c,A,X,env,Fa env++fr⟩ 1000 (ps.zip ds) σ (.S (recAt B i).body (nstop fun _ σ'=>Q .none σ') (stop Q))):WF c (Room (n+1)) f ds σ Q X:=
 WF.byG i T Gi.nil hd hf hb hok hl h
theorem WM.byG (i:Nat){ps:List Str}{n:Nat}{ds:List D}{f:Str}(T:Tp c B bs)(G:Gi c gs)(S:Ks c K C cn Bd)(hd:((Bd[i]?).bind recOf).isSome=true)(hf:(recAt Bd i).name=f)
  (hb:∀pm code doc qual vals,vals.length=ps.length->bindArgs {docDef (recAt Bd i).name (recAt Bd i).params (recAt Bd i).body (recAt Bd i).scope pm code doc with qualname:=qual} ⟨vals,[]⟩=pure (ps.zip vals)) (hok:fnOk (recAt Bd i).scope ps=true) (hl:ds.length=ps.length)
  (h:∀A fr env,Gd B bs gs (recAt Bd i).scope n true c A env->Room n A->A.handled=none->env.scope=(recAt Bd i).scope->Fe A env (recAt Bd i).scope->run ⟨B,bs,gs,(recAt Bd i).scope,n,true,c,A,X,env,Fa env++fr⟩ 1000 (ps.zip ds) σ (.S (recAt Bd i).body (nstop fun _ σ'=>Q .none σ') (stop Q))):WM c K C (Room (n+1)) f ds σ Q X:=by
 subst hf
 refine WM.by (name:=(recAt Bd i).name) (params:=(recAt Bd i).params) (body:=(recAt Bd i).body) (scope:=(recAt Bd i).scope) (dpos:=(recAt Bd i).pos) i T S (recAt_some hd) hb hok hl fun A fr env r hh hs fe=> ?_
 have g:Gd B bs gs (recAt Bd i).scope n true c A env:=⟨T,G,r,hs,fun _=>fe⟩
 exact WS.go g (h A fr env g r hh hs fe)
theorem WM.byA (i:Nat){ps:List Str}{n:Nat}{ds:List D}{f:Str}(T:Tp c B bs)(S:Ks c K C cn Bd)(hd:((Bd[i]?).bind recOf).isSome=true)(hf:(recAt Bd i).name=f)
  (hb:∀pm code doc qual vals,vals.length=ps.length->bindArgs {docDef (recAt Bd i).name (recAt Bd i).params (recAt Bd i).body (recAt Bd i).scope pm code doc with qualname:=qual} ⟨vals,[]⟩=pure (ps.zip vals)) (hok:fnOk (recAt Bd i).scope ps=true) (hl:ds.length=ps.length)
  (h:∀A fr env,Gd B bs [] (recAt Bd i).scope n true c A env->Room n A->A.handled=none->env.scope=(recAt Bd i).scope->Fe A env (recAt Bd i).scope->run ⟨B,bs,[],(recAt Bd i).scope,n,true,c,A,X,env,Fa env++fr⟩ 1000 (ps.zip ds) σ (.S (recAt Bd i).body (nstop fun _ σ'=>Q .none σ') (stop Q))):WM c K C (Room (n+1)) f ds σ Q X:=
 WM.byG i T Gi.nil S hd hf hb hok hl h
theorem Mth.byA (i:Nat){f:Str}(S:Ks c K C cn Bd)(hd:((Bd[i]?).bind recOf).isSome=true)(hf:(recAt Bd i).name=f):Mth K C f:=by
 subst hf
 obtain ⟨f,o,pm,code,doc,qual,h1,h2,h3,_⟩:=S.meth _ (rec_mem (recAt_some hd))
 exact ⟨f,h1,h2,h3⟩
noncomputable def kFld (C:Addr)(name:Str)(Q:D->Sto->Prop):D->Sto->Prop:=fun d σ1=>AtSys C d fun sz ru=>AtFld name sz ru fun e=>Q e σ1
theorem kFld.size {sz ru:D}(h:Q sz σ):kFld C (Str.ofString "size") Q (.sys C sz ru) σ:=AtSys.mk (AtFld.size h)
theorem kFld.rules {sz ru:D}(h:Q ru σ):kFld C (Str.ofString "rules") Q (.sys C sz ru) σ:=AtSys.mk (AtFld.rules h)
theorem WE.fldA {e:Expr}{name:Str}(he:e=.Attribute (eL e) name e.pos)(S:Ks c K C cn Bd)(h:WE c A fr env m σ (eL e) (kFld C name Q) X)(hb:∀w,attributeBase (eL e) name env w=w):WE c A fr env m σ e Q X:=by
 exact (he▸(WE.fld (pos:=e.pos) S h hb))
noncomputable def kMeth (c:Cx)(K:Frag)(C:Addr)(A:Around)(fr:List Addr)(env:Env)(m:Vars)(n:Nat)(as:List Expr)(name:Str)(Q:D->Sto->Prop)(X:Addr->Sto->Prop):D->Sto->Prop:=fun d σ1=>AtSys C d fun _ _=>WA c A fr env m σ1 as (fun ds σ2=>WM c K C (Room n) name (d::ds) σ2 Q X) X
theorem kMeth.mk {n:Nat}{as:List Expr}{name:Str}{sz ru:D}(h:WA c A fr env m σ as (fun ds σ2=>WM c K C (Room n) name (.sys C sz ru::ds) σ2 Q X) X):kMeth c K C A fr env m n as name Q X (.sys C sz ru) σ:=AtSys.mk h
theorem WE.mthA {e:Expr}{name:Str}{n:Nat}(he:e=.Call (.Attribute (eL (eL e)) name (eL e).pos) (eS e) [] e.pos)(S:Ks c K C cn Bd)(r:Room n A)(hf:Mth K C name)
  (h:WE c A fr env m σ (eL (eL e)) (kMeth c K C A fr env m n (eS e) name Q X) X) (h1:name≠"size") (h2:name≠"rules") (hp:plainArgs (eS e)=true) (hb:∀w,attributeBase (eL (eL e)) name env w=w) (hl:((eL e).pos.endLine==e.pos.line)=true) (hn:decide ((eS e).length<30)=true):WE c A fr env m σ e Q X:=by
 have t:=WE.mth S r hf h h1 h2 hp hb hl hn
 rw [<-he] at t;exact t
theorem WE.callCA {e:Expr}{n:Nat}(he:e=.Call (.Name cn (eL e).pos) (eS e) [] e.pos)(S:Ks c K C cn Bd)(T:Tp c B bs)(r:Room (n+1) A)(hk:env.kindOf cn=some .globalImplicit)(hm:Mth K C "__init__")
  (h:WA c A fr env m σ (eS e) (fun ds σ1=>∀dx,dx∉keys σ1->WM c K C (Room n) "__init__" (.own C dx::ds) ((dx,.flds [])::σ1) (NewQ C dx Q) (NewX dx X)) X) (hp:plainArgs (eS e)=true) (hdb:(cn==("__debug__":Str))=false):WE c A fr env m σ e Q X:=by
 have t:=WE.callC (pos:=e.pos) (fp:=(eL e).pos) S T r hk hm h hp hdb
 rw [<-he] at t;exact t
theorem WE.sliceA {e:Expr}{lower upper:Option Expr}(he:e=.Subscript (eL e) (.Slice lower upper none (eR e).pos) e.pos)
  (h:WE c A fr env m σ (eL e) (fun d σ1=>WPt c A fr env m σ1 lower (fun lo σ2=>WPt c A fr env m σ2 upper (fun hi σ3=>∃sd:SD,d=sd.d/\sd.isL=true/\sd.inv σ3/\sd.ds.length<=sizeLine/\QL Q (pick sd.ds lo hi) σ3) X) X) X):WE c A fr env m σ e Q X:=by
 have t:=WE.sliceLG (pos:=e.pos) (p:=(eR e).pos) h
 rw [<-he] at t;exact t
theorem At1.lenM {α:Type}{sd:SD}{l:List α}{F:α->D}(hd:sd.ds=l.map F)(inv:sd.inv σ)(hf:l.length<2^62)(h:Q (.int l.length) σ):At1 c A fr σ (.builtin "len") [sd.d] Q X:=by
 have e:sd.ds.length=l.length:=by rw [hd,List.length_map]
 exact At1.len inv (by rw [e];exact hf) (by rw [e];exact h)
theorem At1.tupM {sd:SD}{ds:List D}(hd:sd.ds=ds)(inv:sd.inv σ)(hsz:ds.length<=sizeLine)(h:Q (.tup ds) σ):At1 c A fr σ (.type "tuple") [sd.d] Q X:=by
 subst hd;exact At1.tuple inv hsz h
theorem flat_rep {x:Int}:∀n:Nat,(List.replicate n [D.int x]).flatten=(List.replicate n x).map D.int
 | 0=>rfl
 | n+1=>by simp only [List.replicate_succ,List.flatten_cons,flat_rep n];rfl
theorem WB.rep {x:Int}{n:Nat}(hn:n<1000)(h:QL Q ((List.replicate n x).map D.int) σ):WB c A fr σ (binaryOp .Mult) (.lst [.int x]) (.int n) Q X:=
 WB.mulL (sd:=.lst [.int x]) rfl trivial z967 (z998 hn) (by exact z999 hn) (by
  dsimp only [SD.ds,Int.toNat_natCast]
  rw [flat_rep];exact h)
theorem WIv.seqA {α:Type}{tg:Expr}{x:Str}(ht:tg=.Name x tg.pos){sd:SD}{l:List α}{Q:ItQ}(F:α->D)(hh:A.handled=none)(hd:sd.ds=l.map F)(hi:sd.inv σ)(h:Q (l.map fun i=>[(x,F i)]) sd.inv σ):WIv c A fr env m σ sd.d tg Q:=by
 exact (ht▸(WIv.seq (c:=c) (fr:=fr) (env:=env) (m:=m) (px:=tg.pos) F hh hd hi h))
theorem QL.sp {ds:List D}(h:QL Q ds σ):QL (stop Q) ds σ:=h.to fun _ _ q=>⟨q⟩
variable {N:Vars->Sto->Prop} {R:D->Sto->Prop}
theorem W1.whileA {s:Stmt}{p:Pos}{sc:Scope}(he:s=.While (sE s) (sA s) [] p)(fe:Fe A env sc)(L:Nat->Vars->Sto->Prop)(n:Nat)(h0:L n m σ)
  (turn:∀k m' σ',L k m' σ'->WT c A fr env m' σ' (sE s) (fun b σ1=>if b=true then WS c A fr env m' σ1 (sA s) (fun m'' σ''=>∃j,j<k/\L j m'' σ'') R X else N m' σ1) X):W1 c A fr env m σ s N R X:=by
 exact (he▸(W1.while (pos:=p) fe L n h0 turn))
theorem execs_one {s:Stmt}:execs [s] env=exec s env:=by
 refine Eq.trans (congrArg (exec s env>>=·) (funext fun fl=> ?_)) (bind_pure _)
 cases fl<;>rfl
theorem W1.ofS {s:Stmt}(h:WS c A fr env m σ [s] N R X):W1 c A fr env m σ s N R X:=fun st ok fm=>by
 exact (execs_one▸(h st ok fm))
theorem W1.go {sc:Scope}{k:Nat}{fl:Bool}(g:Gd B bs gs sc k fl c A env){s:Stmt}(h:run ⟨B,bs,gs,sc,k,fl,c,A,X,env,fr⟩ 1000 m σ (.S [s] (nstop N) (stop R))):W1 c A fr env m σ s N R X:=W1.ofS (WS.go g h)
theorem W1.goN {sc:Scope}{k:Nat}{fl:Bool}(g:Gd B bs gs sc k fl c A env){s:Stmt}(h:run ⟨B,bs,gs,sc,k,fl,c,A,X,env,fr⟩ 1000 m σ (.S [s] (nstop N) R)):W1 c A fr env m σ s N R X:=W1.ofS (WS.goN g h)
noncomputable def isCons:List Stmt->Bool
 | _::_=>true
 | []=>false
theorem WS.joinA {ss:List Stmt}(hc:isCons ss=true)(J:Vars->Sto->Prop)(h:W1 c A fr env m σ (hS ss) J R X)(k:∀m' σ',J m' σ'->WS c A fr env m' σ' ss.tail N R X):WS c A fr env m σ ss N R X:=by
 cases ss with
 | nil=>contradiction
 | cons s ss=>exact WS.cons (W1.join J h k)
theorem WS.checkA {ss:List Stmt}(hc:isCons ss=true)(h:W1 c A fr env m σ (hS ss) (fun a b=>a=m/\b=σ) R X)(k:WS c A fr env m σ ss.tail N R X):WS c A fr env m σ ss N R X:=
 WS.joinA hc _ h fun _ _ e=>by rw [e.1,e.2];exact k
theorem WT.base {l:Vars}{e:Expr}{Q:Bool->Sto->Prop}(h:Hs m l)(k:WT c A fr env l σ e Q X):WT c A fr env m σ e Q X:=fun s ok fm=>k s ok (fm.turn fun x d e=>⟨d,h x d e,fun v hv=>hv⟩)
theorem fz_has {a:Addr}{ds:List D}{x:Str}{d:D}:∀{m:Vars},m.lookup x=some d->(fz a ds m).lookup x=some (fzD a ds d)
 | [],h=>by contradiction
 | (y,e)::m,h=>by
  unfold fz
  rw [lookup_cons_eq] at h⊢
  by_cases q:x=y
  ·rw [if_pos q] at h⊢;injection h with h;rw [h]
  ·rw [if_neg q] at h⊢;exact fz_has h
theorem fz_self {a:Addr}{ds:List D}{x:Str}{m:Vars}:fz a ds ((x,.ref a)::m)=(x,.lst ds)::fz a ds m:=by simp [fz,fzD,isRef]
theorem fz_int {a:Addr}{ds:List D}{x:Str}{i:Int}{m:Vars}:fz a ds ((x,.int i)::m)=(x,.int i)::fz a ds m:=rfl
theorem fz_lst {a:Addr}{ds es:List D}{x:Str}{m:Vars}:fz a ds ((x,.lst es)::m)=(x,.lst es)::fz a ds m:=rfl
theorem fz_nil {a:Addr}{ds:List D}:fz a ds []=[]:=rfl
theorem fz_ne {a b:Addr}{ds:List D}{x:Str}{m:Vars}(h:b≠a):fz a ds ((x,.ref b)::m)=(x,.ref b)::fz a ds m:=by simp [fz,fzD,isRef,h,Ne.symm h]
theorem Hs.fz {a:Addr}{ds:List D}:∀{m l:Vars},Hs m l->Hs (fz a ds m) (fz a ds l):=fun {m l} h x d e=>by
 obtain ⟨d0,e0,rfl⟩:=fz_lookup e
 exact fz_has (h x d0 e0)
end
end Mine
namespace Mine
noncomputable def boxL:List Nat->List (List Int)
 | []=>[[]]
 | b::bs=>(List.range b).flatMap fun (i:Nat)=>(boxL bs).map fun r=>(i:Int)::r
theorem boxL_len:∀bs:List Nat,(boxL bs).length=bs.foldr (· *·) 1
 | []=>rfl
 | b::bs=>by
  simp only [boxL,List.length_flatMap]
  simp only [List.length_map,List.foldr_cons]
  rw [boxL_len bs]
  induction b with
  | zero=>simp
  | succ b ih=>simp only [List.range_succ,List.map_append,List.sum_append,ih];simp [Nat.succ_mul]
theorem boxL_mem:∀{bs:List Nat} {v:List Int},v.length=bs.length->(∀i,i<bs.length->0<=v.getD i 0/\v.getD i 0<bs.getD i 0)->v∈boxL bs
 | [],v,hl,_=>by cases v<;>simp [boxL] at hl⊢
 | b::bs,v,hl,h=>by
  cases v with
  | nil=>contradiction
  | cons x v=>
   rw [boxL,List.mem_flatMap]
   have h0:=h 0 (by simp)
   simp at h0
   refine ⟨x.toNat,List.mem_range.mpr (z309 h0.1 h0.2),List.mem_map.mpr ⟨v,boxL_mem (by simpa using hl) fun i hi=> ?_,by rw [Int.toNat_of_nonneg h0.1]⟩⟩
   simpa using h (i+1) (by simpa using hi)
theorem count_box {l:List (List Int)}{bs:List Nat}(nd:l.Nodup)(h:∀v∈l,v.length=bs.length+1/\∀i,i<bs.length->0<=v.getD (i+1) 0/\v.getD (i+1) 0<bs.getD i 0)(inj:∀v∈l,∀u∈l,v.tail=u.tail->v=u):l.length<=bs.foldr (· *·) 1:=by
 rw [<-boxL_len,<-List.length_map (f:=List.tail)]
 refine length_le_of_nodup ?_ fun x hx=> ?_
 ·rw [List.Nodup,List.pairwise_map]
  exact List.Pairwise.imp_of_mem (fun {a b} ha hb hab e=>hab (inj a ha b hb e)) nd
 ·obtain ⟨v,hv,rfl⟩:=List.mem_map.mp hx
  obtain ⟨h1,h2⟩:=h v hv
  refine boxL_mem (by rw [List.length_tail,h1];rfl) fun i hi=> ?_
  cases v with
  | nil=>contradiction
  | cons a v=>exact (h2 i hi)
structure Fits (E:List (List Int))(n:Nat)(once:Bool):Prop where
 len:∀e∈E,e.length=n
 ends:∃K,∀k,K<=k->(stF E n once k).2=[]
 front:∀k,(stF E n once k).2.length<=16000000
 found:∀k,(stF E n once k).1.length<=16000000
 most:∀s,Least E n s->(once=true->s.getD (n-1) 0<2)->s.sum<=100000000
theorem most_of {E:List (List Int)}{n:Nat}{once:Bool}{K:Nat}(hE:∀e∈E,e.length=n)(hK:∀R v,Alive E n once R v->v.sum<=K){s:List Int}(ls:Least E n s)(ho:once=true->s.getD (n-1) 0<2):s.sum<=K:=by
 have I:=Inv.at (once:=once) hE K
 rcases Int.lt_or_le K s.sum with q| q
 ·obtain ⟨v,hv,_⟩:=(I.all s ls ho).2 (by assumption)
  obtain ⟨R,x⟩:=I.alive hv
  have:=hK R v x
  have:=(I.reach v hv).2
  exact (z127 this ‹_›).elim
 ·exact q
theorem Fits.of {E:List (List Int)}{n:Nat}{once:Bool}{bs:List Nat}{K:Nat}(hE:∀e∈E,e.length=n)(hn:n=bs.length+1)(hK:∀R v,Alive E n once R v->v.sum<=K)(hb:∀R v,Alive E n once R v->∀i,i<bs.length->v.getD (i+1) 0<bs.getD i 0)
  (h:bs.foldr (· *·) 1<=16000000) (hK2:K<=100000000:=by decide):Fits E n once where
 len:=hE
 most:=fun s ls ho=>Int.le_trans (most_of hE hK ls ho) (Int.ofNat_le.mpr hK2)
 ends:=⟨K,fun k hk=>by
  have I:=Inv.at (once:=once) hE k
  cases e:(stF E n once k).2 with
  | nil=>rfl
  | cons v r=>
   have hv:v∈(stF E n once k).2:=by rw [e];exact .head _
   obtain ⟨R,x⟩:=I.alive hv
   have:=hK R v x
   have:=(I.reach v hv).2
   lia⟩
 front:=fun k=>by
  have I:=Inv.at (once:=once) hE k
  refine Nat.le_trans (count_box I.nd (fun v hv=> ?_) fun v hv u hu e=> ?_) h
  ·obtain ⟨R,x⟩:=I.alive hv
   exact ⟨by exact (x.reach.row.len ..).trans (hn ..),fun i hi=>⟨x.reach.row.pos _,hb R v x i hi⟩⟩
  ·obtain ⟨⟨R,x⟩,hs⟩:=I.reach v hv
   obtain ⟨⟨R',x'⟩,hs'⟩:=I.reach u hu
   have h1:=x.row.len
   have h2:=x'.row.len
   cases v with
   | nil=>simp at h1;lia
   | cons a v=>
    cases u with
    | nil=>simp at h2;lia
    | cons b u=>
     simp only [List.tail_cons] at e
     subst e
     simp only [List.sum_cons] at hs hs'
     have:a=b:=z310 hs hs'
     rw [this]
 found:=fun k=>by
  have I:=Inv.at (once:=once) hE k
  have al:∀k v,v∈(stF E n once k).1->∃R,Alive E n once R v:=by
   intro k
   induction k with
   | zero=>intro v hv;contradiction
   | succ k ih=>
    intro v hv
    rcases List.mem_append.mp (show v∈(stF E n once k).1++_ from hv) with h| h
    ·exact ih v h
    ·exact (Inv.at hE k).alive (List.mem_filter.mp h).1
  refine Nat.le_trans (count_box I.ndf (fun v hv=> ?_) fun v hv u hu e=> ?_) h
  ·obtain ⟨R,x⟩:=al k v hv
   exact ⟨by exact (x.reach.row.len ..).trans (hn ..),fun i hi=>⟨x.reach.row.pos _,hb R v x i hi⟩⟩
  ·have lv:=(I.least v hv).1
   have lu:=(I.least u hu).1
   have h1:=lv.row.len
   have h2:=lu.row.len
   have key:∀a b:List Int,a.length=n->b.length=n->a.tail=b.tail->a.getD 0 0<=b.getD 0 0->Le a b:=by
    intro a b ha hb' e h0 i
    cases a with
    | nil=>simp at ha;exact (z311 ha hn).elim
    | cons x a=>
     cases b with
     | nil=>simp at hb';exact (z311 hb' hn).elim
     | cons y b=>
      simp only [List.tail_cons] at e
      subst e
      cases i with
      | zero=>trivial
      | succ i=>simp
   rcases Int.le_total (v.getD 0 0) (u.getD 0 0) with q| q
   ·exact lu.least v lv.row lv.even lv.pos (key v u h1 h2 e q)
   ·exact (lv.least u lu.row lu.even lu.pos (key u v h2 h1 e.symm q)).symm
theorem get_le_sum {n:Nat}{v:List Int}(r:Row n v)(i:Nat):v.getD i 0<=v.sum:=by
 by_cases hi:i<n
 ·rw [r.sum]
  have h:=sumN_mono (n:=n) (f:=fun j=>v.getD i 0*if j=i then 1 else 0) (g:=fun j=>v.getD j 0) fun j _=>by
   split
   ·rename_i e;subst e;simp
   ·simpa using (r.pos j)
  rw [sumN_one hi (fun _=>v.getD i 0)] at h
  exact h
 ·rw [List.getD_eq_getElem?_getD,List.getElem?_eq_none (by rw [r.len];exact z12 hi)]
  exact r.sum_nonneg
theorem Fits.level {E:List (List Int)}{n:Nat}{once:Bool}{K:Nat}(hE:∀e∈E,e.length=n)(hn:0<n)(hK:∀R v,Alive E n once R v->v.sum<=K)(h:(K+1)^(n-1)<=16000000)(hK2:K<=100000000:=by decide):Fits E n once:=
 Fits.of (bs:=List.replicate (n-1) (K+1)) (K:=K) hE (by simp;exact z312 hn) hK (fun R v x i hi=>by
  have h1:=hK R v x
  have h2:=get_le_sum x.reach.row (i+1)
  simp only [List.length_replicate] at hi
  simp [hi] at h2⊢
  exact z313 h1 h2) (by
  have:∀(m b:Nat),(List.replicate m b).foldr (· *·) 1=b^m:=by
   intro m b
   induction m with
   | zero=>rfl
   | succ m ih=>simp only [List.replicate_succ,List.foldr_cons,ih,Nat.pow_succ,Nat.mul_comm]
  rw [this];exact h) hK2
theorem Fits.none {n:Nat}{once:Bool}(hn:0<n)(hn2:n<=24):Fits [] n once:=
 Fits.level (K:=1) (by simp) hn (fun R v x=>by
  have:R=[]:=by
   cases R with
   | nil=>rfl
   | cons r R=>exact absurd (fun y hy=>by cases hy) (x.reach.back r (.head _)).2.2.2
  rw [x.reach.len,this];decide) (by
  exact Nat.le_trans (Nat.pow_le_pow_right (by decide) (show n-1<=23 by exact z314 hn2)) (by decide))
end Mine
namespace Mine
noncomputable abbrev col (E:List (List Int))(n p:Nat):List Int:=wor E (unitR n p)
theorem wor_step {E:List (List Int)}{n p:Nat}{v:List Int}(r:Row n v):wor E (addR v (unitR n p))=addR (wor E v) (col E n p):=wor_addR (by exact (r.len ..).trans (unitR_len ..).symm)
theorem dot_scale (a:Int)(e v:List Int):dot (e.map (a*·)) v=a*dot e v:=by
 induction e generalizing v with
 | nil=>simp [dot_nil_l]
 | cons x e ih=>
  cases v with
  | nil=>simp [dot_nil_r]
  | cons y v=>simp only [List.map_cons,dot_cons,dot_cons,ih,Int.mul_add,Int.mul_assoc]
theorem wor_line (as:List Int)(e v:List Int):wor (as.map fun a=>e.map (a*·)) v=as.map (· *dot e v):=by
 simp [wor,dot_scale,Function.comp_def]
theorem dot_line (as:List Int)(x y:Int):dot (as.map (· *x)) (as.map (· *y))=dot as as*(x*y):=by
 induction as with
 | nil=>simp [dot_nil_l]
 | cons a as ih=>
  simp only [List.map_cons,dot_cons,dot_cons,Int.add_mul]
  congr 1
  simp only [Int.mul_assoc,<-Int.mul_assoc x a y,Int.mul_comm x a]
theorem level_line {as e:List Int}{n w:Nat}{once:Bool}(he:e.length=n)(hw:∀x∈e,-(w:Int)<=x/\x<=w)(R:List (List Int))(v:List Int)(x:Alive (as.map fun a=>e.map (a*·)) n once R v):v.sum<=(2*w+2:Nat):=by
 have:=x.level (F:=(List.range (2*w+1)).map fun (i:Nat)=>as.map (· *((i:Int)-w))) fun r hr=>by
  obtain ⟨h1,h2⟩:=(x.reach.inv (P:=fun v=> -(w:Int)<=dot e v/\dot e v<=w) (fun p hp=>by
   exact (dot_unit he hp)▸hw _ (get_mem (z23 hp he))) fun R v p y hv ne hp hd _=>by
  simp only [wor_line,wor_line,dot_line] at hd
  rw [dot_addR (by exact (y.row.len ..).trans (unitR_len ..).symm),dot_unit he hp]
  rw [dot_unit he hp] at hd
  have hp:=hw _ (get_mem (a:=e) (i:=p) (z23 hp he))
  have h0:=dot_self_nonneg as
  generalize dot e v=a at*
  generalize e.getD p 0=b at*
  have hab:a*b<0:=by
   by_cases q:a*b<0
   ·exact q
   ·have:=Int.mul_nonneg h0 (show 0<=a*b by exact z21 q);exact (z22 hd this).elim
  rcases Int.lt_trichotomy a 0 with ha| ha| ha
  ·have:0<b:=by
    by_cases q:0<b
    ·exact q
    ·have:=Int.mul_nonneg_of_nonpos_of_nonpos (show a<=0 by exact z275 ha) (show b<=0 by exact z21 q);exact (z22 hab this).elim
   exact z475 this ha hv.1 hp.2
  ·subst ha;simp at hab
  ·have:b<0:=by
    by_cases q:b<0
    ·exact q
    ·have:=Int.mul_nonneg (show 0<=a by exact z275 ha) (show 0<=b by exact z21 q);exact (z22 hab this).elim
   exact z476 ha this hv.2 hp.1).2 r hr
  simp only [wor_line]
  exact List.mem_map.mpr ⟨(dot e r+w).toNat,List.mem_range.mpr (z345 h2),by rw [Int.toNat_of_nonneg (z194 h1)];congr 1;funext a;congr 1;simp⟩
 rw [List.length_map,List.length_range] at this
 assumption
theorem Fits.line {as e:List Int}{n w:Nat}{once:Bool}(he:e.length=n)(hn:0<n)(hw:∀x∈e,-(w:Int)<=x/\x<=w)(h:(2*w+3)^(n-1)<=16000000)(hw2:w<=20:=by decide):Fits (as.map fun a=>e.map (a*·)) n once:=
 Fits.level (K:=2*w+2) (fun f hf=>by
  obtain ⟨a,_,rfl⟩:=List.mem_map.mp hf;simpa using he) hn (level_line he hw) h (z477 hw2)
theorem Fits.one {e:List Int}{n w:Nat}{once:Bool}(he:e.length=n)(hn:0<n)(hw:∀x∈e,-(w:Int)<=x/\x<=w)(h:(2*w+3)^(n-1)<=16000000)(hw2:w<=20:=by decide):Fits [e] n once:=by
 have:=Fits.line (as:=[1]) (once:=once) he hn hw h hw2
 have e1:([1]:List Int).map (fun a=>e.map (a*·))=[e]:=by simp
 rw [e1] at this;exact this
noncomputable def boxZ (lo:Int)(b:Nat):Nat->List (List Int)
 | 0=>[[]]
 | m+1=>(List.range b).flatMap fun (i:Nat)=>(boxZ lo b m).map fun r=>(lo+i)::r
theorem boxZ_mem {lo:Int}{b:Nat}:∀{v:List Int},(∀x∈v,lo<=x/\x<lo+b)->v∈boxZ lo b v.length
 | [],_=>by exact .head _
 | x::v,h=>by
  rw [List.length_cons,boxZ,List.mem_flatMap]
  have h0:=h x (.head _)
  exact ⟨(x-lo).toNat,List.mem_range.mpr (z478 h0.2 h0.1),List.mem_map.mpr ⟨v,boxZ_mem fun y hy=>h y (.tail _ hy),by rw [Int.toNat_of_nonneg (z13 h0.1)];congr 1;exact z479⟩⟩
theorem col_len (E:List (List Int))(n p:Nat):(col E n p).length=E.length:=wor_len _ _
theorem col_mem {E:List (List Int)}{n p:Nat}(hE:∀e∈E,e.length=n)(hp:p<n){w:Int}(hw:∀e∈E,∀x∈e,-w<=x/\x<=w):∀x∈col E n p,-w<=x/\x<=w:=fun x hx=>by
 obtain ⟨e,he,rfl⟩:=List.mem_map.mp hx
 exact (dot_unit (hE e he) hp)▸hw e he _ (get_mem (by exact (hE e he)▸hp))
end Mine
namespace Mine
theorem dot_col {E:List (List Int)}{n p:Nat}{v:List Int}(hE:∀e∈E,e.length=n)(r:Row n v):dot (wor E v) (col E n p)=sumN n (fun j=>v.getD j 0*dot (col E n p) (col E n j)):=by
 exact (dot_comm ..).trans (dot_wor hE r.len ..)
theorem no_steps {E:List (List Int)}{n:Nat}{once:Bool}(h:∀p,p<n->∀j,j<n->0<=dot (col E n p) (col E n j)):∀R v,Alive E n once R v->R=[]:=by
 intro R v x
 have:∀{R v},Reach E n once R v->R=[]:=by
  intro R v y
  induction y with
  | unit hp=>rfl
  | step y ne hp hd ho ih=>
   subst ih
   cases y with
   | unit hq=>exact absurd hd (Int.not_lt.mpr (h _ hq _ hp))
 exact this x.reach
theorem Fits.size1 {E:List (List Int)}{once:Bool}(hE:∀e∈E,e.length=1):Fits E 1 once:=
 Fits.level (K:=1) hE (by decide) (fun R v x=>by
  rw [x.reach.len,(no_steps (fun p hp j hj=>by
   obtain rfl:p=0:=z493 hp
   obtain rfl:j=0:=z493 hj
   exact dot_self_nonneg _) R v x)];decide) (by decide)
theorem dot_le {w:Nat}:∀{a b:List Int},a.length=b.length->(∀x∈a,-(w:Int)<=x/\x<=w)->(∀x∈b,-(w:Int)<=x/\x<=w)->-((a.length*(w*w):Nat):Int)<=dot a b/\dot a b<=(a.length*(w*w):Nat)
 | [],[],_,_,_=>by simp [dot_nil_l]
 | [],_::_,h,_,_=>by contradiction
 | _::_,[],h,_,_=>by contradiction
 | x::a,y::b,h,ha,hb=>by
  have ih:=dot_le (a:=a) (b:=b) (by simpa using h) (fun z hz=>ha z (.tail _ hz)) fun z hz=>hb z (.tail _ hz)
  have hx:=ha x (.head _)
  have hy:=hb y (.head _)
  simp only [dot_cons,List.length_cons]
  have h1:x.natAbs*y.natAbs<=w*w:=Nat.mul_le_mul (z192 hx.1 hx.2) (z192 hy.1 hy.2)
  rw [<-Int.natAbs_mul] at h1
  have h1:=nabs h1
  lia
theorem dot_zero_r:∀(w z:List Int),(∀x∈z,x=0)->dot w z=0:=by
 intro w
 induction w with
 | nil=>intro z _;rfl
 | cons a w ih=>
  intro z h
  cases z with
  | nil=>rfl
  | cons b z=>simp only [dot_cons,ih z fun x hx=>h x (.tail _ hx),h b (.head _)];simp
theorem le_mul_one {a b:Int}(ha:0<=a)(hb:1<=b):a<=b*a:=by
 have:=Int.mul_le_mul_of_nonneg_right hb ha
 exact z494 this
theorem mul_le_two {a b c d:Int}(h1:a<=c)(h2:b<=d)(ha:0<=a)(hd:0<=d):a*b<=c*d:=
 Int.le_trans (Int.mul_le_mul_of_nonneg_left h2 ha) (Int.mul_le_mul_of_nonneg_right h1 hd)
theorem size2_gram {E:List (List Int)}{once:Bool}(hE:∀e∈E,e.length=2){p q r:Int}(hp:dot (col E 2 0) (col E 2 0)=p)(hq:dot (col E 2 0) (col E 2 1)= -q)(hr:dot (col E 2 1) (col E 2 1)=r)(h0:0<q){R:List (List Int)}{v:List Int}(x:Reach E 2 once R v):
  p*v.getD 0 0-q*v.getD 1 0<=p/\r*v.getD 1 0-q*v.getD 0 0<=r:=by
 have hq':dot (col E 2 1) (col E 2 0)= -q:=by exact (dot_comm ..).trans (hq)
 have hp0:0<=p:=hp▸dot_self_nonneg _
 have hr0:0<=r:=hr▸dot_self_nonneg _
 have key:∀{v},Row 2 v->dot (wor E v) (col E 2 0)=p*v.getD 0 0-q*v.getD 1 0/\dot (wor E v) (col E 2 1)=r*v.getD 1 0-q*v.getD 0 0:=by
  intro v rv
  simp only [dot_col hE rv]
  simp only [sumN_succ,sumN_zero]
  simp only [hp,hq,hq',hr]
  refine ⟨?_,?_⟩
  ·simp only [Int.mul_neg,Int.mul_comm p,Int.mul_comm q];exact z495
  ·simp only [Int.mul_neg,Int.mul_comm r,Int.mul_comm q];exact z496
 refine (x.inv (P:=fun v=>p*v.getD 0 0-q*v.getD 1 0<=p/\r*v.getD 1 0-q*v.getD 0 0<=r) (fun j hj=> ?_) fun R v j y hv ne hj hd _=> ?_).1
 ·have:j=0\/j=1:=z252 hj
  rcases this with rfl| rfl
  ·rw [unitR_get 2 0 0 (by decide),unitR_get 2 0 1 (by decide)];simp;exact z497 h0 hr0
  ·rw [unitR_get 2 1 0 (by decide),unitR_get 2 1 1 (by decide)];simp;exact z497 h0 hp0
 ·have hl:v.length=(unitR 2 (j:Nat)).length:=by exact (y.row.len ..).trans (unitR_len ..).symm
  rw [addR_get hl,addR_get hl]
  refine And.elim (fun k1 k2=> ?_) (key y.row)
  have:j=0\/j=1:=z252 hj
  rcases this with rfl| rfl
  ·rw [k1] at hd
   rw [unitR_get 2 0 0 (by decide),unitR_get 2 0 1 (by decide)]
   lia
  ·rw [k2] at hd
   rw [unitR_get 2 1 0 (by decide),unitR_get 2 1 1 (by decide)]
   lia
theorem size2_bound {E:List (List Int)}{once:Bool}(hE:∀e∈E,e.length=2)(hm:E.length<=3)(hw:∀e∈E,∀x∈e,-20<=x/\x<=20):∀R v,Alive E 2 once R v->v.getD 0 0<=2880000/\v.getD 1 0<=2880000:=by
 intro R v x
 have hc:∀i j,i<2->j<2->-1200<=dot (col E 2 i) (col E 2 j)/\dot (col E 2 i) (col E 2 j)<=1200:=fun i j hi hj=>by
  have h1:=dot_le (w:=20) (a:=col E 2 i) (b:=col E 2 j) (by exact (col_len ..).trans (col_len ..).symm) (col_mem hE hi hw) (col_mem hE hj hw)
  rw [col_len] at h1
  exact z498 h1.1 h1.2 hm
 have hP:=hc 0 0 (by decide) (by decide)
 have hQ:=hc 0 1 (by decide) (by decide)
 have hR:=hc 1 1 (by decide) (by decide)
 have hp0:=dot_self_nonneg (col E 2 0)
 have hr0:=dot_self_nonneg (col E 2 1)
 obtain ⟨p,ep⟩:∃p,dot (col E 2 0) (col E 2 0)=p:=⟨_,rfl⟩
 obtain ⟨q,eq⟩:∃q,dot (col E 2 0) (col E 2 1)= -q:=⟨-dot (col E 2 0) (col E 2 1),by simp⟩
 obtain ⟨r,er⟩:∃r,dot (col E 2 1) (col E 2 1)=r:=⟨_,rfl⟩
 rw [ep] at hP hp0;rw [eq] at hQ;rw [er] at hR hr0
 have rv:=x.reach.row
 by_cases h0:0<q
 ·obtain ⟨k1,k2⟩:=size2_gram hE ep eq er h0 x.reach
  have hx:=rv.pos 0
  have hy:=rv.pos 1
  have hs0:=get_le_sum rv 0
  obtain ⟨X,eX⟩:∃X,v.getD 0 0=X:=⟨_,rfl⟩
  obtain ⟨Y,eY⟩:∃Y,v.getD 1 0=Y:=⟨_,rfl⟩
  rw [eX,eY] at k1 k2
  rw [eX] at hx⊢
  rw [eY] at hy⊢
  have hr1:1<=r:=by
   by_cases q1:1<=r
   ·exact q1
   ·have:=dot_zero_r (col E 2 0) (col E 2 1) (dot_self_zero (by rw [er];exact z273 q1));exact (z274 h0 eq this).elim
  have hp1:1<=p:=by
   by_cases q1:1<=p
   ·exact q1
   ·have:=dot_zero_r (col E 2 1) (col E 2 0) (dot_self_zero (by rw [ep];exact z273 q1));rw [dot_comm] at this;exact (z274 h0 eq this).elim
  by_cases hD:1<=p*r-q*q
  ·have a1:(p*r-q*q)*X=r*(p*X-q*Y)+q*(r*Y-q*X):=by grind
   have a2:(p*r-q*q)*Y=q*(p*X-q*Y)+p*(r*Y-q*X):=by grind
   have b1:=Int.mul_le_mul_of_nonneg_left k1 hr0
   have b2:=Int.mul_le_mul_of_nonneg_left k2 (show 0<=q by exact z275 h0)
   have b3:=Int.mul_le_mul_of_nonneg_left k1 (show 0<=q by exact z275 h0)
   have b4:=Int.mul_le_mul_of_nonneg_left k2 hp0
   have c1:=le_mul_one hx hD
   have c2:=le_mul_one hy hD
   have d1:=mul_le_two (show r<=1200 by exact hR.2) (show p<=1200 by exact hP.2) hr0 (by decide)
   have d2:=mul_le_two (show q<=1200 by exact z499 hQ.1) (show r<=1200 by exact hR.2) (z275 h0) (by decide)
   have d3:=mul_le_two (show q<=1200 by exact z499 hQ.1) (show p<=1200 by exact hP.2) (z275 h0) (by decide)
   have d4:=mul_le_two (show p<=1200 by exact hP.2) (show r<=1200 by exact hR.2) hp0 (by decide)
   exact z500 a2 a1 d4 d2 d3 d1 c2 b4 b3 b2 b1 c1
  ·have ru:Row 2 [q,p]:=.of rfl fun z hz=>by
    simp at hz;rcases hz with rfl| rfl<;>lia
   have eu:Even E [q,p]:=by
    refine dot_self_zero ?_
    have h1:∀w,dot w (wor E [q,p])=q*dot w (col E 2 0)+p*dot w (col E 2 1):=fun w=>by
     rw [dot_wor hE (d:=[q,p]) rfl]
     simp only [sumN_succ,sumN_zero]
     simp
     rfl
    rw [h1,dot_comm _ (col E 2 0),dot_comm _ (col E 2 1),h1,h1,ep,er,eq,dot_comm (col E 2 1),eq]
    have:q*(q*p+p* -q)+p*(q* -q+p*r)=p*(p*r-q*q):=by grind
    rw [this]
    exact Int.mul_nonpos_of_nonneg_of_nonpos hp0 (z273 hD)
   have hb:=x.bare [q,p] ru eu (by simp;exact z501 hp1 h0)
   by_cases hX:X<q
   ·have b1:=mul_le_two (show q<=1200 by exact z499 hQ.1) (show X<=1200 by exact z502 hQ.1 hX) (z275 h0) (by decide)
    have c2:=le_mul_one hy hr1
    exact z503 hQ.1 k2 hX hR.2 b1 c2
   ·by_cases hY:Y<p
    ·have b1:=Int.mul_le_mul_of_nonneg_left (show Y<=p by exact z275 hY) (show 0<=q by exact z275 h0)
     have b2:p*X<=p*(1+q):=by rw [Int.mul_add,Int.mul_one,Int.mul_comm p q];exact z504 k1 b1
     have:=Int.le_of_mul_le_mul_left b2 (z283 hp1)
     exact z505 hQ.1 hY this hP.2
    ·have:=hb fun i=>by
      match i with
      | 0=>rw [eX];simp;exact z21 hX
      | 1=>rw [eY];simp;exact z21 hY
      | i+2=>have:=rv.pos (i+2);simpa using this
     rw [<-this] at eX eY
     simp at eX eY
     exact z506 hQ.1 eX eY hP.2
 ·have h:=no_steps (fun i hi j hj=>by
   have:i=0\/i=1:=z252 hi
   have:j=0\/j=1:=z252 hj
   rcases ‹i=0\/i=1› with rfl| rfl<;>rcases ‹j=0\/j=1› with rfl| rfl
   ·rw [ep];exact hp0
   ·rw [eq];exact z61 h0
   ·rw [dot_comm,eq];exact z61 h0
   ·rw [er];exact hr0) R v x
  have h1:=x.reach.len
  rw [h] at h1
  have:=get_le_sum rv 0
  have:=get_le_sum rv 1
  simp at h1
  exact z507 h1 this ‹_›
theorem Fits.size2 {E:List (List Int)}{once:Bool}(hE:∀e∈E,e.length=2)(hm:E.length<=3)(hw:∀e∈E,∀x∈e,-20<=x/\x<=20):Fits E 2 once:=
 Fits.of (bs:=[2880001]) (K:=5760000) hE rfl (fun R v x=>by
  have h:=size2_bound hE hm hw R v x
  have hs:=x.reach.row.sum
  simp only [sumN_succ,sumN_zero] at hs
  exact z508 hs h.2 h.1) (fun R v x i hi=>by
  have h:=size2_bound hE hm hw R v x
  simp at hi;subst hi
  simp at h⊢
  exact z509 h.2) (by decide)
end Mine
namespace Mine
theorem two_cases {x:Int}(h: -2<=x/\x<=2):x= -2\/x= -1\/x=0\/x=1\/x=2:=z510 h.1 h.2
theorem sq_le {a w:Int}(h: -w<=a/\a<=w):a*a<=w*w:=by
 have h1:0<=(w-a)*(w+a):=Int.mul_nonneg (z13 h.2) (z511 h.1)
 lia
theorem sq3 {x:Int}(h: -2<=x/\x<=2):x*x<=1\/x=2\/x= -2:=by
 rcases two_cases h with rfl| rfl| rfl| rfl| rfl<;>decide
theorem grow2 {a b c x y z:Int}(ha: -2<=a/\a<=2)(hb: -2<=b/\b<=2)(hc: -2<=c/\c<=2)(h:x*a+(y*b+(z*c+0))<0):2*(x*a+(y*b+(z*c+0)))+(a*a+(b*b+(c*c+0)))<=8:=by
 have qa:=sq_le ha
 have qb:=sq_le hb
 have qc:=sq_le hc
 rcases sq3 ha with h1| h1
 ·exact z512 h h1 qc qb
 rcases sq3 hb with h2| h2
 ·exact z513 h h2 qc qa
 rcases sq3 hc with h3| h3
 ·exact z514 h h3 qb qa
 clear qa qb qc ha hb hc
 rcases h1 with rfl| rfl<;>rcases h2 with rfl| rfl<;>rcases h3 with rfl| rfl<;>lia
theorem dotL3:∀{w c:List Int},w.length=c.length->c.length<=3->dot w c=w.getD 0 0*c.getD 0 0+(w.getD 1 0*c.getD 1 0+(w.getD 2 0*c.getD 2 0+0))
 | [],[],_,_=>rfl
 | [x],[a],_,_=>rfl
 | [x,y],[a,b],_,_=>rfl
 | [x,y,z],[a,b,c],_,_=>rfl
 | [],_::_,h,_=>by contradiction
 | _::_,[],h,_=>by contradiction
 | [_],_::_::_,h,_=>by nomatch h
 | _::_::_,[_],h,_=>by nomatch h
 | [_,_],_::_::_::_,h,_=>by nomatch h
 | _::_::_::_,[_,_],h,_=>by nomatch h
 | _,_::_::_::_::_,_,h=>absurd h (by simp)
 | _::_::_::_::_,[_,_,_],h,_=>by nomatch h
theorem grow_list {w c:List Int}(hl:w.length=c.length)(h3:c.length<=3)(hc:∀x∈c,-2<=x/\x<=2)(h:dot w c<0):2*dot w c+dot c c<=8:=by
 have b:=fun i=>by
  by_cases q:i<c.length
  ·exact hc _ (get_mem q)
  ·rw [List.getD_eq_getElem?_getD,List.getElem?_eq_none (z12 q)];decide
 rw [dotL3 hl h3] at h⊢
 simp only [dotL3 rfl h3]
 exact grow2 (b 0) (b 1) (b 2) h
theorem norm_add {w c:List Int}(hl:w.length=c.length):dot (addR w c) (addR w c)=dot w w+(2*dot w c+dot c c):=by
 simp only [dot_comm (addR w c) w,dot_comm (addR w c) c,dot_addR hl,dot_comm c w];exact z523
theorem sq_pad {v:List Int}:∀{E:List (List Int)},E.length<=3->dot (wor E v) (wor E v)=dot (E.getD 0 []) v*dot (E.getD 0 []) v+dot (E.getD 1 []) v*dot (E.getD 1 []) v+dot (E.getD 2 []) v*dot (E.getD 2 []) v
 | [],_=>rfl
 | [e],_=>(dot_cons (dot e v) (dot e v) [] []).trans (Int.add_zero _).symm
 | [e,f],_=>by
  show dot [dot e v,dot f v] [dot e v,dot f v]=dot e v*dot e v+dot f v*dot f v+0*0
  simp only [dot_cons,dot_cons,dot_nil_l];simp
 | [e,f,g],_=>by
  show dot [dot e v,dot f v,dot g v] [dot e v,dot f v,dot g v]=dot e v*dot e v+dot f v*dot f v+dot g v*dot g v
  simp only [dot_cons,dot_cons,dot_cons,dot_nil_l];exact z525
 | _::_::_::_::_,h=>absurd h (by simp)
theorem three_get {e:List Int}(h:e.length=3):e=[e.getD 0 0,e.getD 1 0,e.getD 2 0]:=by
 obtain ⟨a,b,c,rfl⟩:=ln3 h
 rfl
theorem cs3 (a b c x y z:Int):(a*x+b*y+c*z)*(a*x+b*y+c*z)<=(a*a+b*b+c*c)*(x*x+y*y+z*z):=by
 have h1:=sq_nonneg (a*y-b*x)
 have h2:=sq_nonneg (a*z-c*x)
 have h3:=sq_nonneg (b*z-c*y)
 lia
theorem cross_le {a b c x y z:Int}:(b*z-c*y)*(b*z-c*y)+(c*x-a*z)*(c*x-a*z)+(a*y-b*x)*(a*y-b*x)<=(a*a+b*b+c*c)*(x*x+y*y+z*z):=by
 have h1:=sq_nonneg (a*x+b*y+c*z)
 lia
theorem sq_pos {a:Int}(h:a≠0):1<=a*a:=by
 have h1:=sq_nonneg a
 have:a*a≠0:=fun e=>by rcases Int.mul_eq_zero.mp e with h2| h2<;>exact h h2
 exact z527 h1 this
theorem lt_of_sq {a b:Int}(hb:0<=b)(h:a*a<b*b):a<b:=by
 by_cases q:a<b
 ·exact q
 ·have:=mul_le_two (show b<=a by exact z21 q) (show b<=a by exact z21 q) hb (z528 hb q);exact (z22 h this).elim
end Mine
namespace Mine
theorem mul_ge_right {a b:Int}(ha:1<=a)(hb:0<=b):b<=b*a:=by
 have:=Int.mul_le_mul_of_nonneg_left ha hb;exact z534 this
theorem opp {vi vj ui uj B:Int}(hi:0<=vi)(hj:0<=vj)(h1:1<=ui)(h2:uj<=-1)(h: -B<=vi*uj-vj*ui/\vi*uj-vj*ui<=B):vi+vj<=B:=by
 have b:=mul_ge_right (show 1<=-uj by exact z535 h2) hi
 rw [Int.mul_neg] at b
 exact z536 h.1 b (mul_ge_right h1 hj)
theorem third {vi vl ui ul B c:Int}(hi:0<=vi)(hc:vi<=c)(hl:0<=vl)(hu:1<=ui\/ui<=-1)(h8: -8<=ul/\ul<=8)(h: -B<=vi*ul-vl*ui/\vi*ul-vl*ui<=B):vl<=B+8*c:=by
 have p:vi*ul<=8*c:=by
  have:=mul_le_two hc h8.2 hi (by decide);exact z537 this
 have n: -(8*c)<=vi*ul:=by
  have:=mul_le_two hc (show-ul<=8 by exact z538 h8.1) hi (by decide);rw [Int.mul_neg] at this;exact z539 this
 rcases hu with hu| hu
 ·have:=mul_ge_right hu hl;exact z540 h.1 this p
 ·have:=mul_ge_right (show 1<=-ui by exact z535 hu) hl;rw [Int.mul_neg] at this;exact z541 n h.2 this
theorem same_sign {x y z u1 u2 u3 B:Int}(hx:0<=x)(hy:0<=y)(hz:0<=z)(hB:0<=B)(p1:0<=u1/\u1<=8)(p2:0<=u2/\u2<=8)(p3:0<=u3/\u3<=8)
  (h12: -B<=x*u2-y*u1/\x*u2-y*u1<=B) (h23: -B<=y*u3-z*u2/\y*u3-z*u2<=B) (h31: -B<=z*u1-x*u3/\z*u1-x*u3<=B) (hal:u1<=x->u2<=y->u3<=z->x=u1/\y=u2/\z=u3):x<=B+56/\y<=B+56/\z<=B+56:=by
 by_cases q1:u1<=x
 ·by_cases q2:u2<=y
  ·by_cases q3:u3<=z
   ·have:=hal q1 q2 q3;exact z542 hB this.1 this.2.1 this.2.2 p3.2 p2.2 p1.2
   ·have a:=third (vi:=z) (vl:=x) (ui:=u3) (ul:=u1) (B:=B) (c:=7) hz (z543 p3.2 q3) hx (.inl (z544 hz q3)) (z545 p1.1 p1.2) h31
    have b:=third (vi:=z) (vl:=y) (ui:=u3) (ul:=u2) (B:=B) (c:=7) hz (z543 p3.2 q3) hy (.inl (z544 hz q3)) (z545 p2.1 p2.2) (z421 h23.1 h23.2)
    exact z546 h12.1 p3.2 h12.2 b a q3
  ·have a:=third (vi:=y) (vl:=x) (ui:=u2) (ul:=u1) (B:=B) (c:=7) hy (z543 p2.2 q2) hx (.inl (z544 hy q2)) (z545 p1.1 p1.2) (z421 h12.1 h12.2)
   have b:=third (vi:=y) (vl:=z) (ui:=u2) (ul:=u3) (B:=B) (c:=7) hy (z543 p2.2 q2) hz (.inl (z544 hy q2)) (z545 p3.1 p3.2) h23
   exact z547 hB p2.2 b a q2
 ·have b:=third (vi:=x) (vl:=z) (ui:=u1) (ul:=u3) (B:=B) (c:=7) hx (z543 p1.2 q1) hz (.inl (z544 hx q1)) (z545 p3.1 p3.2) (z421 h31.1 h31.2)
  exact z548 hB p1.2 b (third (vi:=x) (vl:=y) (ui:=u1) (ul:=u2) (B:=B) (c:=7) hx (z543 p1.2 q1) hy (.inl (z544 hx q1)) (z545 p2.1 p2.2) h12) q1
theorem two_sign {vi vj vl ui uj ul B T:Int}(eB:B=2*T)(hi:0<=vi)(hj:0<=vj)(hl:0<=vl)(h1:1<=ui)(h2:uj<=-1)(h8: -8<=ul/\ul<=8)(hij: -B<=vi*uj-vj*ui/\vi*uj-vj*ui<=B)(hil: -B<=vi*ul-vl*ui/\vi*ul-vl*ui<=B)(hjl: -B<=vj*ul-vl*uj/\vj*ul-vl*uj<=B):vi+vj<=2*T/\vl<=10*T:=by
 have h:=opp hi hj h1 h2 hij
 refine ⟨z549 eB h,?_⟩
 by_cases q:vi<=T
 ·have:=third hi q hl (.inl h1) h8 hil;exact z550 eB this
 ·have:=third (c:=T) hj (z551 h eB q) hl (.inr h2) h8 hjl;exact z550 eB this
theorem pair_case {x y z u1 u2 u3 T:Int}(hx:0<=x)(hy:0<=y)(hz:0<=z)(hT:0<=T)(p1: -8<=u1/\u1<=8)(p2: -8<=u2/\u2<=8)(p3: -8<=u3/\u3<=8)
  (h12: -(2*T)<=x*u2-y*u1/\x*u2-y*u1<=2*T) (h23: -(2*T)<=y*u3-z*u2/\y*u3-z*u2<=2*T) (h31: -(2*T)<=z*u1-x*u3/\z*u1-x*u3<=2*T)
  (hal:0<=u1->0<=u2->0<=u3->u1<=x->u2<=y->u3<=z->x=u1/\y=u2/\z=u3) (hal2:0<=-u1->0<=-u2->0<=-u3->-u1<=x->-u2<=y->-u3<=z->x= -u1/\y= -u2/\z= -u3):
  x<=10*T+56/\y<=10*T+56/\z<=10*T+56/\x+y+z<=12*T+168:=by
 by_cases s1:1<=u1/\u2<=-1
 ·have:=two_sign (vl:=z) (ul:=u3) rfl hx hy hz s1.1 s1.2 p3 h12 (z421 h31.1 h31.2) h23;exact z552 hy hx this.1 this.2
 by_cases s2:1<=u2/\u1<=-1
 ·have:=two_sign (vl:=z) (ul:=u3) rfl hy hx hz s2.1 s2.2 p3 (z421 h12.1 h12.2) h23 (z421 h31.1 h31.2);exact z553 hy hx this.1 this.2
 by_cases s3:1<=u1/\u3<=-1
 ·have:=two_sign (vl:=y) (ul:=u2) rfl hx hz hy s3.1 s3.2 p2 (z421 h31.1 h31.2) h12 (z421 h23.1 h23.2);exact z554 hz hx this.1 this.2
 by_cases s4:1<=u3/\u1<=-1
 ·have:=two_sign (vl:=y) (ul:=u2) rfl hz hx hy s4.1 s4.2 p2 h31 (z421 h23.1 h23.2) h12;exact z555 hz hx this.1 this.2
 by_cases s5:1<=u2/\u3<=-1
 ·have:=two_sign (vl:=x) (ul:=u1) rfl hy hz hx s5.1 s5.2 p1 h23 (z421 h12.1 h12.2) h31;exact z556 hz hy this.1 this.2
 by_cases s6:1<=u3/\u2<=-1
 ·have:=two_sign (vl:=x) (ul:=u1) rfl hz hy hx s6.1 s6.2 p1 (z421 h23.1 h23.2) h31 (z421 h12.1 h12.2);exact z557 hz hy this.1 this.2
 by_cases t:0<=u1/\0<=u2/\0<=u3
 ·have:=same_sign hx hy hz (z558 hT) ⟨t.1,p1.2⟩ ⟨t.2.1,p2.2⟩ ⟨t.2.2,p3.2⟩ h12 h23 h31 (hal t.1 t.2.1 t.2.2);exact z559 hT this.1 this.2.1 this.2.2
 ·have:=same_sign (u1:= -u1) (u2:= -u2) (u3:= -u3) (B:=2*T) hx hy hz (z558 hT) (z560 p1.1 t s3 s1) (z561 p2.1 t s5 s2) (by lia) (by rw [Int.mul_neg,Int.mul_neg];lia) (by rw [Int.mul_neg,Int.mul_neg];lia) (by lia) (hal2 (by lia) (by lia) (by lia));lia
theorem mulb {a b:Int}(ha: -2<=a/\a<=2)(hb: -2<=b/\b<=2): -4<=a*b/\a*b<=4:=by
 rcases two_cases ha with rfl| rfl| rfl| rfl| rfl<;>lia
theorem small_prod {a b c d:Int}(ha: -2<=a/\a<=2)(hb: -2<=b/\b<=2)(hc: -2<=c/\c<=2)(hd: -2<=d/\d<=2): -8<=a*b-c*d/\a*b-c*d<=8:=by
 have:=mulb ha hb
 have:=mulb hc hd
 lia
theorem mulw {c w:Int}(hc: -2<=c/\c<=2): -(2*(w.natAbs:Int))<=c*w/\c*w<=2*(w.natAbs:Int):=by
 rcases two_cases hc with rfl| rfl| rfl| rfl| rfl<;>lia
theorem lin_abs {c d w w':Int}(hc: -2<=c/\c<=2)(hd: -2<=d/\d<=2): -(2*((w.natAbs+w'.natAbs:Nat):Int))<=c*w'-d*w/\c*w'-d*w<=2*((w.natAbs+w'.natAbs:Nat):Int):=by
 have:=mulw (w:=w') hc
 have:=mulw (w:=w) hd
 simp only [Int.natCast_add]
 lia
end Mine
namespace Mine
noncomputable abbrev Par (e f:List Int):Prop:=∀i j,e.getD i 0*f.getD j 0=e.getD j 0*f.getD i 0
theorem line_of {E:List (List Int)}{n:Nat}{e:List Int}{i:Nat}(hE:∀f∈E,f.length=n)(he:e.length=n)(hi:e.getD i 0=1\/e.getD i 0= -1)(hp:∀f∈E,Par e f):∃as:List Int,E=as.map fun a=>e.map (a*·):=by
 refine ⟨E.map fun f=>f.getD i 0*e.getD i 0,?_⟩
 rw [List.map_map]
 symm
 refine (List.map_congr_left (g:=id) fun f hf=> ?_).trans (List.map_id _)
 refine ext_get (by simp [he,hE f hf]) fun j hj=> ?_
 simp only [Function.comp_def,List.length_map] at hj⊢
 have hp1:=hp f hf i j
 have e1:(e.map (f.getD i 0*e.getD i 0*·)).getD j 0=f.getD i 0*e.getD i 0*e.getD j 0:=by
  simp [hj]
 simp only [e1]
 show _=f.getD j 0
 rcases hi with h| h
 ·rw [h] at hp1⊢
  rw [Int.mul_one,Int.mul_comm];exact z575 hp1
 ·rw [h] at hp1⊢
  simp only [Int.mul_neg,Int.mul_one,Int.mul_comm];exact z576 hp1
theorem half_get {e:List Int}(i:Nat):(e.map (· /2)).getD i 0=e.getD i 0/2:=by
 simp only [List.getElem?_map,List.getD_eq_getElem?_getD]
 cases e[i]? <;>rfl
theorem par3 {a b c a' b' c':Int}(h1:b*c'-c*b'=0)(h2:c*a'-a*c'=0)(h3:a*b'-b*a'=0):Par [a,b,c] [a',b',c']:=by
 intro i j
 have g:∀(a b c:Int) (k:Nat),[a,b,c].getD k 0=if k=0 then a else if k=1 then b else if k=2 then c else 0:=fun a b c k=>by
  match k with
  | 0=>rfl
  | 1=>rfl
  | 2=>rfl
  | k+3=>rfl
 simp only [g,g,g,g]
 by_cases i0:i=0<;>by_cases i1:i=1<;>by_cases i2:i=2<;>by_cases j0:j=0<;>by_cases j1:j=1<;>by_cases j2:j=2<;>simp [i0,i1,i2,j0,j1,j2]<;>omega
theorem Par.refl (e:List Int):Par e e:=fun i j=>Int.mul_comm _ _
theorem Par.symm {e f:List Int}(h:Par e f):Par f e:=fun i j=>by simp only [Int.mul_comm];exact (h j i).symm▸rfl
noncomputable def mostN (n m:Nat):Int:=if n<3 then 20 else if n=3 then (if m<2 then 5 else 2) else (if m<2 then 2 else 1)
end Mine
namespace Mine
noncomputable def comb:List Int->List (Nat->Int)->Nat->Int
 | a::as,v::vs,i=>a*v i+comb as vs i
 | _,_,_=>0
noncomputable def Dep (vs:List (Nat->Int)):Prop:=∃as:List Int,as.length=vs.length/\(∃a∈as,a≠0)/\∀i,comb as vs i=0
noncomputable def Dm (V:(Nat->Int)->Prop)(k:Nat):Prop:=∀vs:List (Nat->Int),vs.length=k+1->(∀v∈vs,V v)->Dep vs
theorem Dep.cons {vs:List (Nat->Int)}(v:Nat->Int)(h:Dep vs):Dep (v::vs):=by
 obtain ⟨as,h1,⟨a,ha,h2⟩,h3⟩:=h
 exact ⟨0::as,congrArg (· +1) h1,⟨a,.tail _ ha,h2⟩,fun i=>by simp only [comb,h3,Int.zero_mul];rfl⟩
theorem comb_perm {us vs:List (Nat->Int)}(h:us.Perm vs):∀as:List Int,as.length=us.length->∃bs:List Int,bs.length=vs.length/\(∀x∈as,x∈bs)/\∀i,comb bs vs i=comb as us i:=by
 induction h with
 | nil=>exact fun as h=>⟨as,h,fun _ h=>h,fun _=>rfl⟩
 | cons x _ ih=>
  intro as h
  cases as with
  | nil=>contradiction
  | cons a as=>
   obtain ⟨bs,h1,h2,h3⟩:=ih as (Nat.succ.inj h)
   refine ⟨a::bs,congrArg (· +1) h1,fun x hx=> ?_,fun i=>by simp only [comb,comb,h3]⟩
   rcases List.mem_cons.mp hx with h| h
   ·exact h▸.head _
   ·exact .tail _ (h2 x h)
 | swap x y l=>
  intro as h
  rcases as with _| ⟨a,_| ⟨b,as⟩⟩
  ·contradiction
  ·nomatch h
  ·refine ⟨b::a::as,h,fun x hx=>by simp only [List.mem_cons] at hx⊢;rcases hx with h| h| h<;>simp [h],fun i=> ?_⟩
   simp only [comb];exact z51
 | trans _ _ ih1 ih2=>
  intro as h
  obtain ⟨bs,h1,h2,h3⟩:=ih1 as h
  obtain ⟨cs,h4,h5,h6⟩:=ih2 bs h1
  exact ⟨cs,h4,fun x hx=>h5 x (h2 x hx),fun i=>(h6 i).trans (h3 i)⟩
theorem Dep.perm {us vs:List (Nat->Int)}(h:us.Perm vs)(d:Dep us):Dep vs:=by
 obtain ⟨as,h1,⟨a,ha,h2⟩,h3⟩:=d
 obtain ⟨bs,h4,h5,h6⟩:=comb_perm h as h1
 exact ⟨bs,h4,⟨a,h5 a ha,h2⟩,fun i=>(h6 i).trans (h3 i)⟩
theorem comb_scale (c:Int)(i:Nat):∀(as:List Int) (vs:List (Nat->Int)),comb (as.map (c*·)) vs i=c*comb as vs i
 | [],_=>by simp [comb]
 | _::_,[]=>by simp [comb]
 | a::as,v::vs=>by simp only [List.map_cons,comb,comb,comb_scale c i as vs,Int.mul_add,Int.mul_assoc]
theorem comb_elim (c:Int)(p:Nat->Int)(n i:Nat):∀(as:List Int) (vs:List (Nat->Int)),comb as (vs.map fun v i=>c*v i-v n*p i) i=c*comb as vs i-comb as vs n*p i
 | [],_=>by simp [comb]
 | _::_,[]=>by simp [comb]
 | a::as,v::vs=>by simp only [List.map_cons,comb,comb,comb,comb_elim c p n i as vs];grind
theorem Dm.all:∀n,Dm (fun v=>∀i,n<=i->v i=0) n
 | 0,[v],_,h=>⟨[1],rfl,⟨1,.head _,by decide⟩,fun i=>by simp only [comb,h v (.head _) i (Nat.zero_le _)];rfl⟩
 | n+1,vs,hl,h=>by
  by_cases q:∃p∈vs,p n≠0
  ·obtain ⟨p,hp,hn⟩:=q
   obtain ⟨l1,l2,rfl⟩:=List.append_of_mem hp
   refine Dep.perm List.perm_middle.symm ?_
   have hm:∀v∈l1++l2,v∈l1++p::l2:=fun v hv=>(List.perm_middle.mem_iff).mpr (.tail _ hv)
   have hl':=Nat.succ.inj ((List.perm_middle (a:=p) (l₁:=l1) (l₂:=l2)).length_eq.symm.trans hl)
   generalize l1++l2=us at hm hl'
   obtain ⟨as,h1,⟨a,ha,h2⟩,h3⟩:=Dm.all n (us.map fun v i=>p n*v i-v n*p i) (by exact (List.length_map ..).trans (hl' ..)) fun w hw=>by
    obtain ⟨v,hv,rfl⟩:=List.mem_map.mp hw
    intro i hi
    by_cases e:i=n
    ·subst e;show p i*v i-v i*p i=0;rw [Int.mul_comm];simp
    ·show p n*v i-v n*p i=0
     simp only [(h v (hm v hv)) i (z52 hi e),h p hp i (z52 hi e)];simp
   refine ⟨-(comb as us n)::as.map (p n*·),by rw [List.length_cons,List.length_map,h1,List.length_map];rfl,⟨p n*a,.tail _ (List.mem_map.mpr ⟨a,ha,rfl⟩),Int.mul_ne_zero hn h2⟩,fun i=> ?_⟩
   have:=h3 i
   rw [comb_elim] at this
   simp only [comb,comb_scale,Int.neg_mul];exact z53 this
  ·match vs,hl with
   | v::vs,hl=>
    refine Dep.cons v (Dm.all n vs (Nat.succ.inj hl) fun w hw i hi=> ?_)
    by_cases e:i=n
    ·subst e;exact Classical.byContradiction fun z=>q ⟨w,.tail _ hw,z⟩
    ·exact h w (.tail _ hw) i (z52 hi e)
structure Ln (f:(Nat->Int)->Int):Prop where
 add:∀a v w,f (fun i=>a*v i+w i)=a*f v+f w
 zero:f (fun _=>0)=0
theorem Ln.comb {f:(Nat->Int)->Int}(L:Ln f):∀(as:List Int) (vs:List (Nat->Int)),(∀v∈vs,f v=0)->f (Mine.comb as vs)=0
 | [],_,_=>L.zero
 | _::_,[],_=>L.zero
 | a::as,v::vs,h=>by
  have:=L.add a v (Mine.comb as vs)
  simp only [h v (.head _),L.comb as vs fun w hw=>h w (.tail _ hw),Int.mul_zero] at this
  exact this
theorem Dm.cut {V:(Nat->Int)->Prop}{k:Nat}{f:(Nat->Int)->Int}(D:Dm V (k+1))(L:Ln f){d:Nat->Int}(hd:V d)(hf:f d≠0):Dm (fun v=>V v/\f v=0) k:=fun vs hl hv=>by
 obtain ⟨as,h1,⟨b,hb,h2⟩,h3⟩:=D (d::vs) (congrArg (· +1) hl) fun v h=>by
  rcases List.mem_cons.mp h with h| h
  ·exact h▸hd
  ·exact (hv v h).1
 cases as with
 | nil=>contradiction
 | cons a as=>
  have h4:=L.add a d (Mine.comb as vs)
  simp only [L.comb as vs fun v h=>(hv v h).2,show (fun i=>a*d i+Mine.comb as vs i)=fun _=>0 from funext h3,L.zero,Int.add_zero] at h4
  have ha:a=0:=(Int.mul_eq_zero.mp h4.symm).resolve_right hf
  subst ha
  refine ⟨as,Nat.succ.inj h1,⟨b,(List.mem_cons.mp hb).resolve_left h2,h2⟩,fun i=> ?_⟩
  have:=h3 i
  simp only [Mine.comb,Int.zero_mul,Int.zero_add] at this
  exact this
theorem Dm.nil {V:(Nat->Int)->Prop}(D:Dm V 0){v:Nat->Int}(h:V v)(i:Nat):v i=0:=by
 obtain ⟨as,h1,⟨b,hb,h2⟩,h3⟩:=D [v] rfl fun w hw=>(List.mem_singleton.mp hw)▸h
 obtain ⟨a,rfl⟩:=List.length_eq_one_iff.mp h1
 ·have:a*v i+0=0:=h3 i
  rw [Int.add_zero] at this
  exact (Int.mul_eq_zero.mp this).resolve_left (List.mem_singleton.mp hb▸h2)
noncomputable def ev (n:Nat)(e:List Int)(v:Nat->Int):Int:=sumN n fun i=>e.getD i 0*v i
theorem ev_ln (n:Nat)(e:List Int):Ln (ev n e) where
 add:=fun a v w=>by
  unfold ev
  rw [<-sumN_mul,<-sumN_add]
  exact sumN_congr fun i _=>by rw [Int.mul_add,<-Int.mul_assoc,<-Int.mul_assoc,Int.mul_comm a]
 zero:=(sumN_congr fun i _=>Int.mul_zero _).trans (sumN_const0 n)
noncomputable def Ker (n:Nat)(F:List (List Int))(v:Nat->Int):Prop:=(∀i,n<=i->v i=0)/\∀f∈F,ev n f v=0
theorem basis (n:Nat):∀E:List (List Int),∃(F:List (List Int)) (k:Nat),F.Sublist E/\F.length+k=n/\Dm (Ker n F) k/\∀v,Ker n F v->Ker n E v
 | []=>⟨[],n,.slnil,by simp,fun vs hl h=>Dm.all n vs hl fun v hv=>(h v hv).1,fun _ h=>h⟩
 | e::E=>by
  obtain ⟨F,k,h1,h2,h3,h4⟩:=basis n E
  by_cases q:∃d,Ker n F d/\ev n e d≠0
  ·obtain ⟨d,hd,ne⟩:=q
   cases k with
   | zero=>exact absurd ((congrArg (ev n e) (funext (h3.nil hd))).trans (ev_ln n e).zero) ne
   | succ k=>
    refine ⟨e::F,k,h1.cons₂ e,by simp only [List.length_cons];exact z54 h2,fun vs hl h=>h3.cut (ev_ln n e) hd ne vs hl fun v hv=> ?_,fun v hv=> ?_⟩
    ·have:=h v hv
     exact ⟨⟨this.1,fun f hf=>this.2 f (.tail _ hf)⟩,this.2 e (.head _)⟩
    ·refine ⟨hv.1,fun f hf=> ?_⟩
     rcases List.mem_cons.mp hf with rfl| hf
     ·exact hv.2 _ (.head _)
     ·exact (h4 v ⟨hv.1,fun f hf=>hv.2 f (.tail _ hf)⟩).2 f hf
  ·refine ⟨F,k,h1.cons e,h2,h3,fun v hv=>⟨hv.1,fun f hf=> ?_⟩⟩
   rcases List.mem_cons.mp hf with rfl| hf
   ·exact Classical.byContradiction fun z=>q ⟨v,hv,z⟩
   ·exact (h4 v hv).2 f hf
end Mine
namespace Mine
section
variable {E:List (List Int)} {n:Nat} {x y:List Int}
theorem Row.beyond (r:Row n x){i:Nat}(h:n<=i):x.getD i 0=0:=by
 rw [List.getD_eq_getElem?_getD,List.getElem?_eq_none (by rw [r.len];exact h)];rfl
theorem ev_dot {e:List Int}(he:e.length=n)(r:Row n x):ev n e (fun i=>x.getD i 0)=dot e x:=by
 rw [dot_eq_sumN (by exact (he ..).trans (r.len ..).symm),r.len];rfl
theorem Least.ker (hE:∀e∈E,e.length=n)(L:Least E n x):Ker n E fun i=>x.getD i 0:=
 ⟨fun i h=>L.row.beyond h,fun e he=>(ev_dot (hE e he) L.row).trans (Even.iff.mp L.even e he)⟩
theorem Ker.even (hE:∀e∈E,e.length=n)(r:Row n x)(h:Ker n E fun i=>x.getD i 0):Even E x:=
 Even.iff.mpr fun e he=>(ev_dot (hE e he) r).symm.trans (h.2 e he)
theorem Least.via {F:List (List Int)}(hE:∀e∈E,e.length=n)(hs:F.Sublist E)(hk:∀v,Ker n F v->Ker n E v)(L:Least E n x):Least F n x where
 row:=L.row
 even:=Even.iff.mpr fun e he=>Even.iff.mp L.even e (hs.subset he)
 pos:=L.pos
 least:=fun g rg eg pg lg=>L.least g rg (Ker.even hE rg (hk _ ⟨fun i h=>rg.beyond h,fun e he=>(ev_dot (hE e (hs.subset he)) rg).trans (Even.iff.mp eg e he)⟩)) pg lg
theorem Least.ne (L:Least E n x):∃i,x.getD i 0≠0:=Classical.byContradiction fun q=>by
 have h:=L.pos
 rw [L.row.sum,sumN_congr (g:=fun _=>0) fun i _=>Classical.byContradiction fun z=>q ⟨i,z⟩,sumN_const0] at h
 exact absurd h (by decide)
theorem Least.le (a:Least E n x)(b:Least E n y)(h:∀i,x.getD i 0<=y.getD i 0):x=y:=b.least x a.row a.even a.pos h
theorem Least.prop (a:Least E n x)(b:Least E n y){p q:Int}{u:Nat->Int}(hp:p≠0)(h:∀i,p*(x.getD i 0-y.getD i 0)=q*u i)(hu:∀i,0<=u i):x=y:=by
 have aux:∀{p q t u:Int},0<p->0<=q->0<=u->p*t=q*u->0<=t:=fun {p q t u} hp hq hu e=>by
  apply Classical.byContradiction
  intro z
  have h1:=Int.mul_neg_of_pos_of_neg hp (show t<0 by exact z15 z)
  have h2:=Int.mul_nonneg hq hu
  exact z55 h1 e h2
 have key:∀{p q:Int},0<p->(∀i,p*(x.getD i 0-y.getD i 0)=q*u i)->x=y:=fun {p q} hp h=>by
  by_cases hq:0<=q
  ·exact (b.le a fun i=>Int.sub_nonneg.mp (aux hp hq (hu i) (h i))).symm
  ·refine a.le b fun i=>Int.sub_nonneg.mp (aux hp (show 0<=-q by exact z56 hq) (hu i) ?_)
   simp only [Int.neg_mul,<-(h i),<-Int.mul_neg,Int.neg_sub]
 rcases Int.lt_or_gt_of_ne hp with z| z
 ·exact key (p:= -p) (q:= -q) (z57 z) fun i=>by simp only [Int.neg_mul,h]
 ·exact key z h
noncomputable def Pr (d u:Nat->Int):Prop:=∃p q:Int,p≠0/\∀i,p*d i=q*u i
theorem Dm.ray:∀(k:Nat) {V:(Nat->Int)->Prop} {u:Nat->Int} {Z:Nat->Prop},Dm V (k+1)->V u->(∃i,u i≠0)->(∀i,Z i->u i=0)->(∀d,V d->(∀i,Z i->d i=0)->Pr d u)->∃is:List Nat,is.length<=k/\∀d,V d->(∀i∈is,d i=0)->Pr d u
 | 0,V,u,Z,D,hu,hne,hz,hp=>⟨[],Nat.le_refl _,fun d hd _=>by
  obtain ⟨as,h1,⟨c,hc,h2⟩,h3⟩:=D [d,u] rfl fun v hv=>by
   rcases List.mem_cons.mp hv with rfl| hv
   ·exact hd
   ·exact List.mem_singleton.mp hv▸hu
  obtain ⟨p,q,rfl⟩:=ln2 h1
  ·have h3:∀i,p*d i+(q*u i+0)=0:=h3
   refine ⟨p,-q,fun z=> ?_,fun i=>by have:=h3 i;simp only [Int.neg_mul];exact z58 this⟩
   subst z
   obtain ⟨i,hi⟩:=hne
   have h4:=h3 i
   have hq:=(Int.mul_eq_zero.mp (show q*u i=0 by exact z59 h4)).resolve_right hi
   subst hq
   rcases List.mem_cons.mp hc with e| e
   ·exact h2 e
   ·exact h2 (List.mem_singleton.mp e)⟩
 | k+1,V,u,Z,D,hu,hne,hz,hp=>by
  by_cases q:∀d,V d->Pr d u
  ·exact ⟨[],Nat.zero_le _,fun d hd _=>q d hd⟩
  ·refine Exists.elim (Classical.not_forall.mp q) fun d hd=> ?_
   obtain ⟨hd,nd⟩:=Classical.not_imp.mp hd
   obtain ⟨i,hi⟩:=Classical.not_forall.mp fun z=>nd (hp d hd z)
   obtain ⟨zi,di⟩:=Classical.not_imp.mp hi
   obtain ⟨is,h1,h2⟩:=Dm.ray k (Z:=Z) (D.cut (f:=fun v=>v i) ⟨fun _ _ _=>rfl,rfl⟩ hd di) ⟨hu,hz i zi⟩ hne hz fun d hd h=>hp d hd.1 h
   exact ⟨i::is,Nat.succ_le_succ h1,fun d hd h=>h2 d ⟨hd,h i (.head _)⟩ fun j hj=>h j (.tail _ hj)⟩
theorem ratio {x y:Nat->Int}{i:Nat}(hi:0<y i):∀m,∃i,0<y i/\∀j,j<m->0<y j->x i*y j<=x j*y i
 | 0=>⟨i,hi,fun j hj=>absurd hj (Nat.not_lt_zero _)⟩
 | m+1=>by
  obtain ⟨k,hk,h⟩:=ratio (x:=x) hi m
  by_cases z:0<y m/\x m*y k<x k*y m
  ·refine ⟨m,z.1,fun j hj hp=> ?_⟩
   by_cases e:j=m
   ·subst e;exact Int.le_refl _
   ·have h2:=Int.mul_le_mul_of_nonneg_right (Int.le_of_lt z.2) (Int.le_of_lt hp)
    refine Int.le_of_mul_le_mul_right (a:=y k) ?_ hk
    rw [Int.mul_right_comm (x m),Int.mul_right_comm (x j)]
    rw [Int.mul_right_comm (x k)] at h2
    exact Int.le_trans h2 (Int.mul_le_mul_of_nonneg_right (h j (z6 hj e) hp) (Int.le_of_lt z.1))
  ·refine ⟨k,hk,fun j hj hp=> ?_⟩
   by_cases e:j=m
   ·subst e;exact Int.not_lt.mp fun q=>z ⟨hp,q⟩
   ·exact h j (z6 hj e) hp
theorem exists_min {α:Type}{P:α->Prop}(f:α->Nat):∀(k:Nat) {a:α},f a<=k->P a->∃a,P a/\∀b,P b->f a<=f b
 | 0,a,h,pa=>⟨a,pa,fun b _=>Nat.le_trans h (Nat.zero_le _)⟩
 | k+1,a,h,pa=>by
  by_cases q:∃b,P b/\f b<=k
  ·obtain ⟨b,pb,hb⟩:=q;exact exists_min f k hb pb
  ·exact ⟨a,pa,fun b pb=>Nat.le_trans h (Nat.lt_of_not_le fun z=>q ⟨b,pb,z⟩)⟩
theorem row_of {f:Nat->Int}(hE:∀e∈E,e.length=n)(k:Ker n E f)(hp:∀i,0<=f i):∃z,Row n z/\Even E z/\∀i,z.getD i 0=f i:=by
 have hg:∀i,((List.range n).map f).getD i 0=f i:=fun i=>by
  by_cases h:i<n
  ·simp [h]
  ·simp only [k.1 i (z12 h)];simp [h]
 have r:Row n ((List.range n).map f):=⟨by simp,fun i=>by rw [hg];exact hp i⟩
 exact ⟨_,r,Ker.even hE r (by rw [show (fun i=>((List.range n).map f).getD i 0)=f from funext hg];exact k),hg⟩
theorem comb2 {e:List Int}{v w:Nat->Int}(h:ev n e v=0)(h':ev n e w=0)(p q:Int):ev n e (comb [p,q] [v,w])=0:=(ev_ln n e).comb _ _ fun z hz=>by
 rcases List.mem_cons.mp hz with rfl| hz
 ·exact h
 ·exact List.mem_singleton.mp hz▸h'
theorem Least.ray (hE:∀e∈E,e.length=n)(a:Least E n x):∃u,Least E n u/\∀d,Ker n E d->(∀i,u.getD i 0=0->d i=0)->Pr d fun i=>u.getD i 0:=by
 obtain ⟨u,lu,hu⟩:=exists_min (P:=Least E n) (fun s=>(sumN n fun i=>if s.getD i 0=0 then 0 else 1).toNat) _ (Nat.le_refl _) a
 have key:∀d,Ker n E d->(∀i,u.getD i 0=0->d i=0)->(∃j,0<d j)->Pr d fun i=>u.getD i 0:=by
  intro d kd hv ⟨j,hj⟩
  obtain ⟨i,hi,h⟩:=ratio (x:=fun i=>u.getD i 0) hj n
  have ui:u.getD i 0≠0:=fun z=>by rw [hv i z] at hi;exact absurd hi (by decide)
  have hz:∀j,comb [d i,-u.getD i 0] [fun i=>u.getD i 0,d] j=d i*u.getD j 0-u.getD i 0*d j:=fun j=>by
   show d i*u.getD j 0+(-u.getD i 0*d j+0)=_
   rw [Int.neg_mul];exact z60
  obtain ⟨z,rz,ez,gz⟩:=row_of (f:=comb [d i,-u.getD i 0] [fun i=>u.getD i 0,d]) hE ⟨fun j hj=>by
   simp only [hz,lu.row.beyond hj,kd.1 j hj];simp,fun e he=>comb2 ((lu.ker hE).2 e he) (kd.2 e he) _ _⟩ fun j=>by
   rw [hz]
   by_cases q:0<d j
   ·by_cases hn:j<n
    ·have h1:=h j hn q
     rw [Int.mul_comm (d i)];exact z13 h1
    ·rw [kd.1 j (z12 hn)] at q;exact absurd q (by decide)
   ·have h1:=Int.mul_nonneg (Int.le_of_lt hi) (lu.row.pos j)
    have h2:=Int.mul_nonneg (lu.row.pos i) (show 0<=-d j by exact z61 q)
    rw [Int.mul_neg] at h2;exact z62 h2 h1
  by_cases pz:0<z.sum
  ·obtain ⟨s,ls,hs⟩:=least_below _ (Nat.le_refl _) rz ez pz
   exfalso
   have h0:s.getD i 0=0:=by
    have h1:=hs i
    simp only [gz,hz,Int.mul_comm (d i),Int.sub_self] at h1
    exact Int.le_antisymm h1 (ls.row.pos i)
   have m2:=sumN_mono (n:=n) fun j _=>(fun j=>by
    by_cases q:j=i
    ·cases q;rw [if_pos h0,if_pos rfl,if_neg ui];exact (by decide:(0:Int)+1*1<=1)
    ·rw [if_neg q]
     by_cases q2:u.getD j 0=0
     ·rw [if_pos q2,if_pos ((fun j q=>by
    have h1:=hs j
    simp only [gz,hz,q,hv j q,Int.mul_zero] at h1
    exact Int.le_antisymm h1 (ls.row.pos j):∀j,u.getD j 0=0->s.getD j 0=0) j q2)];exact (by decide:(0:Int)+1*0<=0)
     ·rw [if_neg q2];split
      ·exact (by decide:(0:Int)+1*0<=1)
      ·exact (by decide:(1:Int)+1*0<=1):∀j,(if s.getD j 0=0 then (0:Int) else 1)+(fun _=>1) j*(if j=i then 1 else 0)<=if u.getD j 0=0 then 0 else 1) j
   simp only [sumN_add,sumN_one (Nat.lt_of_not_le fun q=>ui (lu.row.beyond q))] at m2
   have m3:=hu s ls
   have m4:=sumN_mono (n:=n) (f:=fun _=>0) (g:=fun j=>if s.getD j 0=0 then (0:Int) else 1) fun j _=>by split<;>decide
   simp only [sumN_const0] at m4
   exact z63 m4 m2 m3
  ·have h1:=fun j=>Int.le_antisymm (Int.le_trans (get_le_sum rz j) (z21 pz)) (rz.pos j)
   refine ⟨u.getD i 0,d i,ui,fun j=> ?_⟩
   have h2:=h1 j
   rw [gz,hz] at h2
   exact (Int.eq_of_sub_eq_zero h2).symm
 refine ⟨u,lu,fun d kd hv=> ?_⟩
 by_cases q:∃j,0<d j
 ·exact key d kd hv q
 ·by_cases q2:∃j,d j<0
  ·obtain ⟨j,hj⟩:=q2
   obtain ⟨p,r,hp,h⟩:=key (comb [-1,0] [d,d]) ⟨fun i hi=>by show-1*d i+(0*d i+0)=0;rw [kd.1 i hi];rfl,fun e he=>comb2 (kd.2 e he) (kd.2 e he) _ _⟩ (fun i hi=>by show-1*d i+(0*d i+0)=0;rw [hv i hi];rfl) ⟨j,by show 0< -1*d j+(0*d j+0);exact z64 hj⟩
   refine ⟨p,-r,hp,fun i=> ?_⟩
   have h1:p*(-1*d i+(0*d i+0))=r*u.getD i 0:=h i
   simp only [show-1*d i+(0*d i+0)= -d i by simp,Int.mul_neg] at h1
   simp only [Int.neg_mul,<-h1,Int.neg_neg]
  ·refine ⟨1,0,by decide,fun i=> ?_⟩
   have:d i=0:=Int.le_antisymm (Int.not_lt.mp fun z=>q ⟨i,z⟩) (Int.not_lt.mp fun z=>q2 ⟨i,z⟩)
   simp only [this,Int.mul_zero,Int.zero_mul]
end
section
variable {E:List (List Int)} {n:Nat} {l:List (List Int)}
theorem boxZ_len (lo:Int)(b:Nat):∀m,(boxZ lo b m).length=b^m
 | 0=>rfl
 | m+1=>by
  simp only [boxZ,List.length_flatMap]
  simp only [List.length_map,boxZ_len lo b m,List.map_const',List.sum_replicate_nat,List.length_range]
  simp only [Nat.pow_succ,Nat.mul_comm]
theorem Dm.count {k B:Nat}(D:Dm (Ker n E) (k+1))(hE:∀e∈E,e.length=n)(nd:l.Nodup)(hl:∀s∈l,Least E n s)(hB:∀s∈l,∀i,s.getD i 0<=B):l.length<=(B+1)^k:=by
 match l,nd,hl,hB with
 | [],_,_,_=>exact Nat.zero_le _
 | x::l,nd,hl,hB=>
  obtain ⟨u,lu,hu⟩:=(hl x (.head _)).ray hE
  obtain ⟨is,h1,h2⟩:=D.ray k (Z:=fun i=>u.getD i 0=0) (lu.ker hE) lu.ne (fun _ h=>h) hu
  refine Nat.le_trans ?_ (Nat.pow_le_pow_right (Nat.succ_pos B) h1)
  rw [<-boxZ_len 0 (B+1) is.length,<-List.length_map (f:=fun s:List Int=>is.map fun i=>s.getD i 0)]
  refine length_le_of_nodup ?_ fun v hv=> ?_
  ·rw [List.Nodup,List.pairwise_map]
   refine List.Pairwise.imp_of_mem (fun {a b} ha hb hab e=>hab ?_) nd
   have e:=List.map_inj_left.mp e
   have hc:∀i,comb [1,-1] [fun i=>a.getD i 0,fun i=>b.getD i 0] i=a.getD i 0-b.getD i 0:=fun i=>by
    show 1*a.getD i 0+(-1*b.getD i 0+0)=_
    exact z65
   obtain ⟨p,q,hp,h⟩:=h2 (comb [1,-1] [fun i=>a.getD i 0,fun i=>b.getD i 0]) ⟨fun j hj=>by
     rw [hc,(hl a ha).row.beyond hj,(hl b hb).row.beyond hj];rfl,fun e he=>comb2 (((hl a ha).ker hE).2 e he) (((hl b hb).ker hE).2 e he) _ _⟩ fun i hi=>by rw [hc,e i hi,Int.sub_self]
   exact (hl a ha).prop (hl b hb) hp (fun i=>by exact (congrArg _ (hc ..).symm).trans (h i)) lu.row.pos
  ·obtain ⟨s,hs,rfl⟩:=List.mem_map.mp hv
   have:=boxZ_mem (lo:=0) (b:=B+1) (v:=is.map fun i=>s.getD i 0) fun x hx=>by
    obtain ⟨i,_,rfl⟩:=List.mem_map.mp hx
    have:=hB s hs i
    have:=(hl s hs).row.pos i
    exact z66 this ‹_›
   rwa [List.length_map] at this
noncomputable def rowsTo:Nat->Nat->List (List Int)
 | 0,_=>[[]]
 | n+1,s=>(List.range (s+1)).flatMap fun (i:Nat)=>(rowsTo n (s-i)).map fun r=>(i:Int)::r
theorem mem_rowsTo:∀{v:List Int} {s:Nat},(∀x∈v,0<=x)->v.sum<=s->v∈rowsTo v.length s
 | [],s,_,_=>by exact .head _
 | x::v,s,h,hs=>by
  have h0:=h x (.head _)
  have h1:=(Row.of (n:=v.length) rfl fun y hy=>h y (.tail _ hy)).sum_nonneg
  simp only [List.sum_cons] at hs
  rw [List.length_cons,rowsTo,List.mem_flatMap]
  exact ⟨x.toNat,List.mem_range.mpr (z67 h1 hs),List.mem_map.mpr ⟨v,mem_rowsTo (fun y hy=>h y (.tail _ hy)) (by lia),by rw [Int.toNat_of_nonneg h0]⟩⟩
theorem rowsTo_len (n:Nat)(h:n<=5):(rowsTo n 3).length<64:=by
 have:n∈List.range 6:=List.mem_range.mpr (z69 h)
 exact (show ∀n∈List.range 6,(rowsTo n 3).length<64 by decide+kernel) n this
theorem count_sum (h5:n<=5)(nd:l.Nodup)(hl:∀s∈l,Least E n s)(hB:∀s∈l,s.sum<=3):l.length<64:=
 Nat.lt_of_le_of_lt (length_le_of_nodup nd fun s hs=>by
  have:=mem_rowsTo (v:=s) (s:=3) (hl s hs).row.mem (hB s hs)
  rwa [(hl s hs).row.len] at this) (rowsTo_len n h5)
end
end Mine
namespace Mine
theorem sumN_pos_some {n:Nat}{f:Nat->Int}(h:0<sumN n f):∃i,i<n/\0<f i:=Classical.byContradiction fun q=>by
 have:=sumN_mono (n:=n) (f:=f) (g:=fun _=>0) fun i hi=>Int.not_lt.mp fun z=>q ⟨i,hi,z⟩
 simp only [sumN_const0] at this
 exact absurd h (Int.not_lt.mpr this)
section
variable {α:Type} [DecidableEq α] {n:Nat} {c:Nat->α} {x:Nat->Int}
noncomputable def tot (n:Nat)(c:Nat->α)(x:Nat->Int)(t:α):Int:=sumN n fun i=>if c i=t then x i else 0
theorem tot_nonneg (h:∀i,0<=x i)(t:α):0<=tot n c x t:=by
 exact (sumN_const0 n)▸sumN_mono fun i _=>by split;exact h i;exact Int.le_refl _
theorem pickT {t:α}:∀(k:Nat) {x:Nat->Int},(∀i,0<=x i)->(k:Int)<=tot n c x t->∃is:List Nat,is.map c=List.replicate k t/\(∀i∈is,i<n)/\∀j,(is.count j:Int)<=x j
 | 0,x,h,_=>⟨[],rfl,fun _ h=>(List.not_mem_nil h).elim,h⟩
 | k+1,x,h,hk=>by
  obtain ⟨i,hi,hp⟩:=sumN_pos_some (show 0<tot n c x t by exact z70 hk)
  have hc:c i=t:=Classical.byContradiction fun z=>by rw [if_neg z] at hp;exact absurd hp (by decide)
  rw [if_pos hc] at hp
  have ht:tot n c (fun j=>x j+ -1*if j=i then 1 else 0) t=tot n c x t+ -1:=by
   have e1:=sumN_add n (fun j=>if c j=t then x j else 0) (fun j=> -1*if j=i then 1 else 0)
   simp only [sumN_one hi (fun _=> -1)] at e1
   refine (sumN_congr fun j _=> ?_).trans e1
   show (if c j=t then x j+ -1*(if j=i then 1 else 0) else 0)=_
   by_cases q:j=i
   ·cases q;rw [if_pos hc,if_pos hc]
   ·rw [if_neg q,Int.mul_zero,Int.add_zero]
    exact (Int.add_zero _).symm
  obtain ⟨is,h1,h2,h3⟩:=pickT k (x:=fun j=>x j+ -1*if j=i then 1 else 0) (fun j=>by
   by_cases q:j=i
   ·subst q;lia
   ·rw [if_neg q];have:=h j;exact z71 this) (by rw [ht];exact z72 hk)
  refine ⟨i::is,by simp only [List.map_cons,h1,hc];rfl,fun j hj=> ?_,fun j=> ?_⟩
  ·rcases List.mem_cons.mp hj with rfl| hj
   ·exact hi
   ·exact h2 j hj
  ·have h4:=h3 j
   by_cases q:j=i
   ·subst q;rw [List.count_cons_self];lia
   ·rw [if_neg q] at h4;rw [List.count_cons_of_ne (fun e=>q e.symm)];exact z73 h4
noncomputable def flatT (ts:List (α × Nat)):List α:=ts.flatMap fun q=>List.replicate q.2 q.1
theorem flatT_mem {ts:List (α × Nat)}{t:α}(h:t∈flatT ts):t∈ts.map (·.1):=by
 obtain ⟨q,hq,h⟩:=List.mem_flatMap.mp h
 exact List.mem_map.mpr ⟨q,hq,(List.eq_of_mem_replicate h).symm⟩
theorem pickTs (h:∀i,0<=x i):∀ts:List (α × Nat),(ts.map (·.1)).Nodup->(∀q∈ts,(q.2:Int)<=tot n c x q.1)->∃is:List Nat,is.map c=flatT ts/\(∀i∈is,i<n)/\∀j,(is.count j:Int)<=x j
 | [],_,_=>⟨[],rfl,fun _ h=>(List.not_mem_nil h).elim,h⟩
 | q::ts,nd,hq=>by
  rw [List.map_cons,List.nodup_cons] at nd
  obtain ⟨is,a1,a2,a3⟩:=pickT q.2 h (hq q (.head _))
  obtain ⟨js,b1,b2,b3⟩:=pickTs h ts nd.2 fun r hr=>hq r (.tail _ hr)
  refine ⟨is++js,by simp only [List.map_append,a1,b1];rfl,fun i hi=>(List.mem_append.mp hi).elim (a2 i) (b2 i),fun j=> ?_⟩
  rw [List.count_append]
  by_cases e:j∈is
  ·have:js.count j=0:=List.count_eq_zero.mpr fun e2=>nd.1 ((List.eq_of_mem_replicate (a1▸List.mem_map.mpr ⟨j,e,rfl⟩))▸flatT_mem (b1▸List.mem_map.mpr ⟨j,e2,rfl⟩))
   exact this▸a3 j
  ·rw [List.count_eq_zero.mpr e,Nat.zero_add];exact b3 j
theorem one_hot {w:α->Int}{y:Int}{a:α}:∀{all:List α},all.Nodup->a∈all->(all.map fun t=>w t*if a=t then y else 0).sum=w a*y
 | b::all,nd,h=>by
  rw [List.nodup_cons] at nd
  simp only [List.map_cons,List.sum_cons]
  by_cases e:a=b
  ·subst e
   have:∀l:List α,a∉l->(l.map fun t=>w t*if a=t then y else 0).sum=0:=by
    intro l
    induction l with
    | nil=>intro _;rfl
    | cons d l ih=>intro h;simp only [List.map_cons,List.sum_cons,ih fun q=>h (.tail _ q),if_neg (fun (q:a=d)=>h (q▸.head _)),Int.mul_zero];rfl
   rw [if_pos rfl,this all nd.1,Int.add_zero]
  ·rw [if_neg e,Int.mul_zero,Int.zero_add,one_hot nd.2 ((List.mem_cons.mp h).resolve_left e)]
theorem sum_map_add (f g:α->Int):∀l:List α,(l.map fun t=>f t+g t).sum=(l.map f).sum+(l.map g).sum
 | []=>rfl
 | a::l=>by simp only [List.map_cons,List.sum_cons,sum_map_add f g l];exact z1
theorem tot_sum (w:α->Int){all:List α}(nd:all.Nodup):∀{n:Nat},(∀i,i<n->c i∈all)->sumN n (fun i=>w (c i)*x i)=(all.map fun t=>w t*tot n c x t).sum
 | 0,_=>by
  have:∀l:List α,0=(l.map fun t=>w t*0).sum:=by
   intro l
   induction l with
   | nil=>rfl
   | cons a l ih=>rw [List.map_cons,List.sum_cons,<-ih,Int.mul_zero];rfl
  exact this all
 | n+1,h=>by
  rw [sumN_succ,tot_sum w nd fun i hi=>h i (z0 hi),<-one_hot (w:=w) (y:=x n) nd (h n (by simp)),<-sum_map_add]
  refine congrArg List.sum (List.map_congr_left fun t _=> ?_)
  unfold tot
  simp only [sumN_succ,Int.mul_add]
end
theorem count_sumN {n:Nat}(f:Nat->Int):∀{is:List Nat},(∀i∈is,i<n)->sumN n (fun j=>f j*(is.count j:Int))=(is.map f).sum
 | [],_=>by
  exact (sumN_congr fun i _=>by exact Int.mul_zero _).trans (sumN_const0 n)
 | i::is,h=>by
  simp only [List.map_cons,List.sum_cons,<-count_sumN f fun j hj=>h j (.tail _ hj),<-sumN_one (h i (.head _)) f,<-sumN_add]
  refine sumN_congr fun j _=> ?_
  by_cases q:j=i
  ·subst q;rw [List.count_cons_self,if_pos rfl,<-Int.mul_add,Int.add_comm];rfl
  ·rw [List.count_cons_of_ne fun e=>q e.symm,if_neg q,Int.mul_zero,Int.zero_add]
theorem Least.hit {E:List (List Int)}{n:Nat}{x:List Int}(hE:∀e∈E,e.length=n)(L:Least E n x){is:List Nat}(ne:is≠[])(hi:∀i∈is,i<n)(hc:∀j,(is.count j:Int)<=x.getD j 0)(hz:∀e∈E,(is.map fun i=>e.getD i 0).sum=0):
  (∀j,x.getD j 0=is.count j)/\x.sum=is.length:=by
 obtain ⟨z,rz,ez,gz⟩:=row_of (f:=fun j=>(is.count j:Int)) hE ⟨fun j hj=>by
  have:is.count j=0:=List.count_eq_zero.mpr fun q=>by have:=hi j q;exact z74 this hj
  show ((is.count j:Nat):Int)=0
  rw [this];rfl,fun e he=>(count_sumN _ hi).trans (hz e he)⟩ fun j=>Int.natCast_nonneg _
 have hs:z.sum=is.length:=by
  rw [rz.sum,sumN_congr (g:=fun j=>1*(is.count j:Int)) fun j _=>by exact (gz ..).trans (Int.one_mul ..).symm,count_sumN (fun _=>1) hi]
  clear hi hc hz ez gz rz ne
  induction is with
  | nil=>rfl
  | cons a is ih=>simp only [List.map_cons,List.sum_cons,ih,List.length_cons];exact z75
 have e:=L.least z rz ez (by rw [hs];have:=List.length_pos_iff.mpr ne;exact z76 this) fun j=>by rw [gz];exact hc j
 subst e
 exact ⟨gz,hs⟩
theorem sum_none {n:Nat}{x:List Int}(L:Least [] n x):x.sum<=3:=by
 have h:=L.pos
 rw [L.row.sum] at h
 obtain ⟨i,hi,hp⟩:=sumN_pos_some h
 rw [((L.hit (by simp) (is:=[i]) (by simp) (fun j hj=>List.mem_singleton.mp hj▸hi) (fun j=>by
  by_cases q:i=j
  ·subst q;rw [List.count_cons_self];exact hp
  ·rw [List.count_cons_of_ne q];exact L.row.pos j) fun e he=>(List.not_mem_nil he).elim).2)];show (1:Int)<=3;decide
noncomputable def okT {α:Type} [DecidableEq α] (B m:Nat)(ws:List (α->Int))(ts:List (α × Nat)):Bool:=decide (ts.map (·.1)).Nodup&&(ws.all fun w=>decide (((flatT ts).map w).sum=0))&&((flatT ts).all fun t=>decide ((flatT ts).count t<=B))&&decide ((flatT ts).length<=m)&& !(flatT ts).isEmpty
noncomputable def Has {α:Type}(T:α->Int):List (α × Nat)->Prop
 | []=>True
 | q::ts=>(q.2:Int)<=T q.1/\Has T ts
theorem Has.mem {α:Type}{T:α->Int}:∀{ts:List (α × Nat)},Has T ts->∀q∈ts,(q.2:Int)<=T q.1
 | _::_,h,q,hq=>(List.mem_cons.mp hq).elim (fun e=>e▸h.1) (Has.mem h.2 q)
theorem Least.take {α:Type} [DecidableEq α] {E:List (List Int)}{n:Nat}{x:List Int}(hE:∀e∈E,e.length=n)(L:Least E n x){c:Nat->α}{ws:List (α->Int)}(hw:∀e∈E,∃w∈ws,∀i,e.getD i 0=w (c i)){B m:Nat}(ts:List (α × Nat))(ok:okT B m ws ts=true)(h:Has (tot n c fun i=>x.getD i 0) ts):
  (∀i,x.getD i 0<=B)/\x.sum<=m:=by
 simp only [okT,Bool.and_eq_true,decide_eq_true_eq,List.all_eq_true] at ok
 obtain ⟨⟨⟨⟨nd,hs⟩,hc⟩,hm⟩,ne⟩:=ok
 obtain ⟨is,a,b,d⟩:=pickTs L.row.pos ts nd h.mem
 obtain ⟨h5,h6⟩:=L.hit hE (is:=is) (fun q=>by rw [<-a,q] at ne;contradiction) b d fun e he=>by
  obtain ⟨w,hw,he⟩:=hw e he
  have:=hs w hw
  rw [<-a,List.map_map] at this
  rw [show (fun i=>e.getD i 0)=w∘c from funext he];exact this
 refine ⟨fun i=> ?_,?_⟩
 ·rw [h5 i]
  refine Int.ofNat_le.mpr (Nat.le_trans (List.count_le_count_map (f:=c)) ?_)
  rw [a]
  by_cases q:c i∈flatT ts
  ·exact hc _ q
  ·rw [List.count_eq_zero.mpr q];exact Nat.zero_le _
 ·rw [h6,<-List.length_map (f:=c),a];exact Int.ofNat_le.mpr hm
theorem Least.even0 {E:List (List Int)}{n:Nat}{x:List Int}(hE:∀e∈E,e.length=n)(L:Least E n x){α:Type} [DecidableEq α] {c:Nat->α}{w:α->Int}{all:List α}(nd:all.Nodup)(hc:∀i,i<n->c i∈all)(h:∃e∈E,∀i,e.getD i 0=w (c i)):(all.map fun t=>w t*tot n c (fun i=>x.getD i 0) t).sum=0:=by
 obtain ⟨e,he,hw⟩:=h
 have h1:=Even.iff.mp L.even e he
 rw [dot_eq_sumN (by exact (hE e he ..).trans (L.row.len ..).symm),L.row.len] at h1
 exact (tot_sum w nd hc ..).symm.trans ((sumN_congr fun i _=>by rw [hw]).trans h1)
theorem Least.pos1 {E:List (List Int)}{n:Nat}{x:List Int}(L:Least E n x){α:Type} [DecidableEq α] {c:Nat->α}{all:List α}(nd:all.Nodup)(hc:∀i,i<n->c i∈all):∃t∈all,1<=tot n c (fun i=>x.getD i 0) t:=by
 have h1:=L.pos
 rw [L.row.sum] at h1
 obtain ⟨i,hi,hp⟩:=sumN_pos_some h1
 refine ⟨c i,hc i hi,?_⟩
 have:=sumN_mono (n:=n) (f:=fun j=>(fun _=>1) j*if j=i then 1 else 0) (g:=fun j=>if c j=c i then x.getD j 0 else 0) fun j _=>by
  by_cases q:j=i
  ·subst q;lia
  ·rw [if_neg q];split
   ·exact L.row.pos j
   ·exact Int.le_refl _
 rwa [sumN_one hi] at this
theorem p1 {u v:Int}(h:0<u-v)(hv:0<=v):1<=u:=z77 h hv
theorem tri {u v:Int}:0<u-v\/0<v-u\/u-v=0/\v-u=0:=z80
theorem sum_single {n:Nat}{x e:List Int}(he:e.length=n)(hw:∀y∈e,-2<=y/\y<=2)(L:Least [e] n x):x.sum<=3:=by
 have all:∀i,i<n->e.getD i 0∈[0,1,-1,2,-2]:=fun i hi=>by
  have:=hw _ (get_mem (a:=e) (i:=i) (z23 hi he))
  generalize e.getD i 0=a at this
  simp;exact z81 this.1 this.2
 have hE:∀g∈[e],g.length=n:=fun g hg=>List.mem_singleton.mp hg▸he
 have fin:=fun ts ok h=>(L.take (c:=fun i=>e.getD i 0) (ws:=[id]) (B:=3) (m:=3) hE (fun g hg=>⟨id,.head _,fun i=>by rw [List.mem_singleton.mp hg];rfl⟩) ts ok h).2
 have h1:=L.even0 (c:=fun i=>e.getD i 0) (w:=id) hE (by decide) all ⟨e,.head _,fun i=>rfl⟩
 obtain ⟨t,ht,hp⟩:=L.pos1 (c:=fun i=>e.getD i 0) (by decide) all
 have p:=tot_nonneg (n:=n) (c:=fun i=>e.getD i 0) (x:=fun i=>x.getD i 0) L.row.pos
 generalize tot n (fun i=>e.getD i 0) (fun i=>x.getD i 0)=T at*
 have e1:T 1-T (-1)+2*(T 2-T (-2))=0:=by
  simp only [List.map_cons,List.map_nil,List.sum_cons,List.sum_nil,id] at h1
  exact z82 h1
 have p1':=p 1;have p2':=p (-1)
 rcases tri (u:=T 2) (v:=T (-2)) with h| h| h
 ·exact fin [(-1,2),(2,1)] (by decide) ⟨by clear fin hp h1;lia,p1 h (p (-2)),trivial⟩
 ·exact fin [(1,2),(-2,1)] (by decide) ⟨by clear fin hp h1;lia,p1 h (p 2),trivial⟩
 ·have k1:T 1=T (-1):=by clear fin hp h1;exact z83 e1 h.2
  have k2:T 2=T (-2):=by clear fin hp h1;exact z84 h.2
  simp only [List.mem_cons,List.not_mem_nil,or_false] at ht
  rcases ht with rfl| rfl| rfl| rfl| rfl
  ·exact fin [(0,1)] (by decide) ⟨hp,trivial⟩
  ·exact fin [(1,1),(-1,1)] (by decide) ⟨hp,k1▸hp,trivial⟩
  ·exact fin [(1,1),(-1,1)] (by decide) ⟨k1▸hp,hp,trivial⟩
  ·exact fin [(2,1),(-2,1)] (by decide) ⟨hp,k2▸hp,trivial⟩
  ·exact fin [(2,1),(-2,1)] (by decide) ⟨k2▸hp,hp,trivial⟩
theorem Dm.mono {V:(Nat->Int)->Prop}{k:Nat}(D:Dm V k):Dm V (k+1):=fun vs hl h=>by
 cases vs with
 | nil=>contradiction
 | cons v vs=>exact (D vs (Nat.succ.inj hl) fun w hw=>h w (.tail _ hw)).cons v
theorem few1 {E:List (List Int)}{n:Nat}{l:List (List Int)}(D:Dm (Ker n E) 1)(hE:∀e∈E,e.length=n)(nd:l.Nodup)(hl:∀s∈l,Least E n s):l.length<64:=by
 have:∀l:List (List Int),∃B:Nat,∀s∈l,∀i,s.getD i 0<=B:=fun l=>by
  induction l with
  | nil=>exact ⟨0,fun s hs=>(List.not_mem_nil hs).elim⟩
  | cons a l ih=>
   obtain ⟨B,hB⟩:=ih
   refine ⟨B+(a.map Int.natAbs).sum,fun s hs i=> ?_⟩
   rcases List.mem_cons.mp hs with rfl| hs
   ·have:∀(a:List Int) (i:Nat),a.getD i 0<=((a.map Int.natAbs).sum:Nat):=fun a=>by
     induction a with
     | nil=>intro i;simp
     | cons y a ih=>
      intro i
      cases i with
      | zero=>simp only [List.map_cons,List.sum_cons,List.getD_cons_zero];exact z89
      | succ i=>have:=ih i;simp only [List.map_cons,List.sum_cons,List.getD_cons_succ];exact z90 this
    have:=this s i
    exact z90 this
   ·have:=hB s hs i;exact z91 this
 obtain ⟨B,hB⟩:=this l
 exact Nat.lt_of_le_of_lt (D.count (k:=0) hE nd hl hB) (by simp only [Nat.pow_zero];decide)
end Mine
namespace Mine
noncomputable def Fits6 (E:List (List Int))(n:Nat):Prop:=Fits E n false/\∀l:List (List Int),l.Nodup->(∀s∈l,Least E n s)->l.length<64
end Mine
namespace Mine
theorem unit_get' {n p:Nat}(hp:p<n)(i:Nat):(unitR n p).getD i 0=if i=p then 1 else 0:=by
 by_cases hi:i<n
 ·exact unitR_get n p i hi
 ·exact (Row.beyond (Row.unit (n:=n) (p:=p)) (z12 hi) ..).trans (if_neg (z182 hp hi) ..).symm
theorem step_get {n j:Nat}{v:List Int}(r:Row n v)(hj:j<n)(i:Nat):(addR v (unitR n j)).getD i 0=v.getD i 0+if i=j then 1 else 0:=by
 rw [addR_get (by exact (r.len ..).trans (unitR_len ..).symm),unit_get' hj]
structure Two (E:List (List Int))(p q r a b:Int):Prop where
 len:∀e∈E,e.length=3
 ep:dot (col E 3 0) (col E 3 0)=p
 eq:dot (col E 3 0) (col E 3 1)= -q
 er:dot (col E 3 1) (col E 3 1)=r
 ea:dot (col E 3 0) (col E 3 2)=a
 eb:dot (col E 3 1) (col E 3 2)=b
 pb:0<=p/\p<=1200
 rb:0<=r/\r<=1200
 qb: -1200<=q/\q<=1200
 ab: -1200<=a/\a<=1200
 bb: -1200<=b/\b<=1200
section
variable {E:List (List Int)} {p q r a b:Int} {R:List (List Int)} {v:List Int}
theorem Two.of (hE:∀e∈E,e.length=3)(hm:E.length<=3)(hw:∀e∈E,∀x∈e,-20<=x/\x<=20):∃p q r a b,Two E p q r a b:=by
 have hc:=fun i j hi hj=>by
  have h1:=dot_le (w:=20) (a:=col E 3 i) (b:=col E 3 j) (by exact (col_len ..).trans (col_len ..).symm) (col_mem hE hi hw) (col_mem hE hj hw)
  rw [col_len] at h1
  have:E.length*(20*20)<=3*(20*20):=Nat.mul_le_mul_right _ hm
  exact z256 h1.1 h1.2 this
 have h01:=hc 0 1 (by decide) (by decide)
 exact ⟨_,-dot (col E 3 0) (col E 3 1),_,_,_,hE,rfl,z257,rfl,rfl,rfl,⟨dot_self_nonneg _,(hc 0 0 (by decide) (by decide)).2⟩,⟨dot_self_nonneg _,(hc 1 1 (by decide) (by decide)).2⟩,z258 h01.1 h01.2,hc 0 2 (by decide) (by decide),hc 1 2 (by decide) (by decide)⟩
theorem Two.g0 (T:Two E p q r a b)(rv:Row 3 v):dot (wor E v) (col E 3 0)=p*v.getD 0 0-q*v.getD 1 0+a*v.getD 2 0:=by
 rw [dot_col T.len rv]
 simp only [sumN_succ,sumN_zero]
 simp only [T.ep,T.eq,T.ea,Int.mul_neg,Int.mul_comm p,Int.mul_comm q,Int.mul_comm a];exact z259
theorem Two.g1 (T:Two E p q r a b)(rv:Row 3 v):dot (wor E v) (col E 3 1)=r*v.getD 1 0-q*v.getD 0 0+b*v.getD 2 0:=by
 rw [dot_col T.len rv]
 simp only [sumN_succ,sumN_zero]
 simp only [T.er,T.eb,dot_comm (col E 3 1) (col E 3 0),T.eq,Int.mul_neg,Int.mul_comm r,Int.mul_comm q,Int.mul_comm b];exact z260
theorem once_mul {a y:Int}(h: -1200<=a/\a<=1200)(h0:0<=y)(h1:y<2): -1200<=a*y:=by
 have:y=0\/y=1:=z261 h0 h1
 rcases this with rfl| rfl<;>lia
theorem Two.inv (T:Two E p q r a b)(h0:0<q)(x:Reach E 3 true R v):p*v.getD 0 0-q*v.getD 1 0<=p+1200/\r*v.getD 1 0-q*v.getD 0 0<=r+1200:=by
 refine And.elim (fun p0 p1=> ?_) (T.pb)
 refine And.elim (fun r0 r1=> ?_) (T.rb)
 refine (x.inv (P:=fun v=>p*v.getD 0 0-q*v.getD 1 0<=p+1200/\r*v.getD 1 0-q*v.getD 0 0<=r+1200) (fun j hj=> ?_) fun R v j y hv ne hj hd _=> ?_).1
 ·have:j=0\/j=1\/j=2:=z202 hj
  rcases this with rfl| rfl| rfl<;>rw [unit_get' hj,unit_get' hj]<;>skip<;>lia
 ·have y2:=y.row.pos 2
  have y3:=y.last rfl
  simp only [step_get y.row hj]
  have:j=0\/j=1\/j=2:=z202 hj
  rcases this with rfl| rfl| rfl
  ·have hd:=hd
   rw [T.g0 y.row] at hd
   simp only [if_true,Nat.one_ne_zero,if_false,Int.mul_add,Int.mul_one,Int.add_zero]
   exact z267 (once_mul T.ab y2 y3) h0 hd hv.2
  ·rw [T.g1 y.row] at hd
   simp only [if_true,Nat.zero_ne_one,if_false,Int.mul_add,Int.mul_one,Int.add_zero]
   exact z268 (once_mul T.bb y2 y3) h0 hd hv.1
  ·simpa using hv
theorem Two.flat (T:Two E p q r a b)(h0:q<=0)(x:Reach E 3 true R v):v.getD 0 0<=1201/\v.getD 1 0<=1201:=by
 refine (x.inv (P:=fun v=>v.getD 0 0<=1201/\v.getD 1 0<=1201) (fun j hj=> ?_) fun R v j y hv ne hj hd _=> ?_).1
 ·rw [unit_get' hj,unit_get' hj]
  constructor<;>split<;>decide
 ·have y2:=y.row.pos 2
  have y3:=y.last rfl
  have q0:=Int.mul_nonneg (z269 h0) (y.row.pos 1)
  have q1:=Int.mul_nonneg (z269 h0) (y.row.pos 0)
  rw [Int.neg_mul] at q0 q1
  simp only [step_get y.row hj]
  have:j=0\/j=1\/j=2:=z202 hj
  rcases this with rfl| rfl| rfl
  ·have hp:1<=p:=by
    by_cases e:p=0
    ·rw [(fun e=>dot_zero_r _ _ (dot_self_zero (by rw [T.ep,e];decide))) e] at hd;exact absurd hd (by decide)
    ·have:=T.pb;exact z270 this.1 e
   rw [T.g0 y.row] at hd
   have:=le_mul_one (y.row.pos 0) hp
   simp only [Nat.one_ne_zero,if_false,Int.add_zero]
   exact z271 (once_mul T.ab y2 y3) hd q0 hv.2 this
  ·have hd:=hd
   have hp:1<=r:=by
    by_cases e:r=0
    ·rw [(fun e=>dot_zero_r _ _ (dot_self_zero (by rw [T.er,e];decide))) e] at hd;exact absurd hd (by decide)
    ·have:=T.rb;exact z270 this.1 e
   rw [T.g1 y.row] at hd
   simp only [Nat.zero_ne_one,if_false,Int.add_zero]
   exact z272 (once_mul T.bb y2 y3) hd q1 hv.1 (le_mul_one (y.row.pos 1) hp)
  ·simpa using hv
theorem Two.bound (T:Two E p q r a b)(x:Alive E 3 true R v):v.getD 0 0<=5760000/\v.getD 1 0<=5760000:=by
 have rv:=x.reach.row
 obtain ⟨p0,hP⟩:=T.pb
 obtain ⟨r0,hR⟩:=T.rb
 obtain ⟨q0,hQ⟩:=T.qb
 by_cases h0:0<q
 ·obtain ⟨k1,k2⟩:=T.inv h0 x.reach
  have hx:=rv.pos 0
  have hy:=rv.pos 1
  obtain ⟨X,eX⟩:∃X,v.getD 0 0=X:=⟨_,rfl⟩
  obtain ⟨Y,eY⟩:∃Y,v.getD 1 0=Y:=⟨_,rfl⟩
  rw [eX,eY] at k1 k2
  rw [eX] at hx⊢
  rw [eY] at hy⊢
  have hr1:1<=r:=by
   by_cases q1:1<=r
   ·exact q1
   ·have:=dot_zero_r (col E 3 0) (col E 3 1) (dot_self_zero (by rw [T.er];exact z273 q1));have:=T.eq;exact (z274 h0 this ‹_›).elim
  have hp1:1<=p:=by
   by_cases q1:1<=p
   ·exact q1
   ·have h:=dot_zero_r (col E 3 1) (col E 3 0) (dot_self_zero (by rw [T.ep];exact z273 q1));rw [dot_comm] at h;have:=T.eq;exact (z274 h0 this h).elim
  by_cases hD:1<=p*r-q*q
  ·have a1:(p*r-q*q)*X=r*(p*X-q*Y)+q*(r*Y-q*X):=by grind
   have a2:(p*r-q*q)*Y=q*(p*X-q*Y)+p*(r*Y-q*X):=by grind
   have b1:=Int.mul_le_mul_of_nonneg_left k1 r0
   have b2:=Int.mul_le_mul_of_nonneg_left k2 (show 0<=q by exact z275 h0)
   have b3:=Int.mul_le_mul_of_nonneg_left k1 (show 0<=q by exact z275 h0)
   have b4:=Int.mul_le_mul_of_nonneg_left k2 p0
   have c2:=le_mul_one hy hD
   exact z277 a2 a1 (mul_le_two (show p<=1200 by exact hP) (show r+1200<=2400 by exact z276 hR) p0 (by decide)) (mul_le_two (show q<=1200 by exact hQ) (show r+1200<=2400 by exact z276 hR) (z275 h0) (by decide)) (mul_le_two (show q<=1200 by exact hQ) (show p+1200<=2400 by exact z276 hP) (z275 h0) (by decide)) (mul_le_two (show r<=1200 by exact hR) (show p+1200<=2400 by exact z276 hP) r0 (by decide)) c2 b4 b3 b2 b1 (le_mul_one hx hD)
  ·have ru:Row 3 [q,p,0]:=.of rfl fun z hz=>by
    simp at hz;rcases hz with rfl| rfl| rfl<;>lia
   have eu:Even E [q,p,0]:=by
    refine dot_self_zero ?_
    have h1:∀w,dot w (wor E [q,p,0])=q*dot w (col E 3 0)+p*dot w (col E 3 1):=fun w=>by
     rw [dot_wor T.len (d:=[q,p,0]) rfl]
     simp only [sumN_succ,sumN_zero]
     simp
     rfl
    rw [h1,dot_comm _ (col E 3 0),dot_comm _ (col E 3 1),h1,h1,T.ep,T.er,dot_comm (col E 3 1),T.eq]
    have:q*(q*p+p* -q)+p*(q* -q+p*r)=p*(p*r-q*q):=by grind
    rw [this]
    exact Int.mul_nonpos_of_nonneg_of_nonpos p0 (z273 hD)
   by_cases hX:X<q
   ·have b1:=mul_le_two (show q<=1200 by exact hQ) (show X<=1200 by exact z280 hX hQ) (z275 h0) (by decide)
    have c2:=le_mul_one hy hr1
    exact z281 k2 hX hR hQ b1 c2
   ·by_cases hY:Y<p
    ·have:=Int.le_of_mul_le_mul_left (by rw [Int.mul_add,Int.mul_add,Int.mul_one,Int.mul_comm p q];exact z282 k1 (le_mul_one (show (0:Int)<=1200 by decide) hp1) (Int.mul_le_mul_of_nonneg_left (show Y<=p by exact z275 hY) (show 0<=q by exact z275 h0)):p*X<=p*(1+q+1200)) (z283 hp1)
     exact z284 hY this hP hQ
    ·have:=(x.bare [q,p,0] ru eu (by simp;exact z279 h0 p0)) fun i=>by
      match i with
      | 0=>rw [eX];simp;exact z21 hX
      | 1=>rw [eY];simp;exact z21 hY
      | 2=>have:=rv.pos 2;simpa using this
      | i+3=>have:=rv.pos (i+3);simpa using this
     rw [<-this] at eX eY
     simp at eX eY
     exact z285 eX eY hP hQ
 ·have:=T.flat (z21 h0) x.reach
  exact z286 this.2 this.1
end
theorem Fits.size2w {E:List (List Int)}(hE:∀e∈E,e.length=3)(hm:E.length<=3)(hw:∀e∈E,∀x∈e,-20<=x/\x<=20):Fits E 3 true:=by
 obtain ⟨p,q,r,a,b,T⟩:=Two.of hE hm hw
 refine Fits.of (bs:=[5760001,2]) (K:=11520001) hE rfl (fun R v x=> ?_) (fun R v x i hi=> ?_) (by decide)
 ·have h:=T.bound x
  have hl:v.getD 2 0<2:=x.reach.last rfl
  have hs:=x.reach.row.sum
  simp only [sumN_succ,sumN_zero] at hs
  exact z287 hl hs h.2 h.1
 ·rcases ((z252 hi):i=0\/i=1) with rfl| rfl
  ·exact z288 (T.bound x).2
  ·exact (x.reach.last rfl)
end Mine
namespace Mine
theorem pair_bound2 {a b c a' b' c' x y z N:Int}(hx:0<=x)(hy:0<=y)(hz:0<=z)(A: -2<=a/\a<=2)(B: -2<=b/\b<=2)(C: -2<=c/\c<=2)(A': -2<=a'/\a'<=2)(B': -2<=b'/\b'<=2)(C': -2<=c'/\c'<=2)
  (hN:(a*x+b*y+c*z)*(a*x+b*y+c*z)+(a'*x+b'*y+c'*z)*(a'*x+b'*y+c'*z)<=N) (h8:N<=10*(x+y+z)+690)
  (hal:∀u1 u2 u3,(u1=b*c'-c*b'/\u2=c*a'-a*c'/\u3=a*b'-b*a')\/(u1= -(b*c'-c*b')/\u2= -(c*a'-a*c')/\u3= -(a*b'-b*a'))->0<=u1->0<=u2->0<=u3->u1<=x->u2<=y->u3<=z->x=u1/\y=u2/\z=u3):
  x<2800/\y<2800/\z<2800:=by
 obtain ⟨w,ew⟩:∃w,a*x+b*y+c*z=w:=⟨_,rfl⟩
 obtain ⟨w',ew'⟩:∃w,a'*x+b'*y+c'*z=w:=⟨_,rfl⟩
 rw [ew,ew'] at hN
 have j1:=lin_abs (w:=w) (w':=w') C C'
 have j2:=lin_abs (w:=w) (w':=w') A A'
 have j3:=lin_abs (w:=w) (w':=w') B B'
 obtain ⟨T,eT⟩:∃T:Int,((w.natAbs+w'.natAbs:Nat):Int)=T:=⟨_,rfl⟩
 rw [eT] at j1 j2 j3
 have hT:0<=T:=by exact eT▸z289
 have k:=pair_case hx hy hz hT (small_prod B C' C B') (small_prod C A' A C') (small_prod A B' B A') (by rw [(by rw [<-ew,<-ew'];grind:x*(c*a'-a*c')-y*(b*c'-c*b')=c*w'-c'*w)];exact j1) (by rw [(by rw [<-ew,<-ew'];grind:y*(a*b'-b*a')-z*(c*a'-a*c')=a*w'-a'*w)];exact j2) (by rw [(by rw [<-ew,<-ew'];grind:z*(b*c'-c*b')-x*(a*b'-b*a')=b*w'-b'*w)];exact j3) (hal _ _ _ (.inl ⟨rfl,rfl,rfl⟩)) (hal _ _ _ (.inr ⟨rfl,rfl,rfl⟩))
 have hTT:T*T<=2*N:=by
  have:=sq_nonneg ((w.natAbs:Int)-(w'.natAbs:Int))
  exact z291 this (by rw [(z290 eT)];grind:2*((w.natAbs:Int)*(w.natAbs:Int))+2*((w'.natAbs:Int)*(w'.natAbs:Int))-T*T=((w.natAbs:Int)-(w'.natAbs:Int))*((w.natAbs:Int)-(w'.natAbs:Int))) hN (by exact (Int.natCast_mul ..).symm.trans (Int.natAbs_mul_self ..)) (by rw [<-Int.natCast_mul,Int.natAbs_mul_self])
 have hT2:T<=258:=by
  apply Classical.byContradiction
  intro q
  have:=Int.mul_le_mul_of_nonneg_right (show 259<=T by exact z292 q) hT
  exact z293 this h8 k.2.2.2 hTT q
 exact z294 k.2.2.1 k.1 k.2.1 hT2
theorem nine {a b c:Int}(ha: -2<=a/\a<=2)(hb: -2<=b/\b<=2)(hc: -2<=c/\c<=2):a*a+b*b+c*c<=9\/∃a' b' c',a=2*a'/\b=2*b'/\c=2*c':=by
 have k:∀{x:Int},-2<=x/\x<=2->x*x<=1\/(x*x<=4/\∃y,x=2*y):=fun h=>by
  rcases two_cases h with rfl| rfl| rfl| rfl| rfl
  ·exact .inr ⟨by decide,-1,rfl⟩
  ·exact .inl (by decide)
  ·exact .inl (by decide)
  ·exact .inl (by decide)
  ·exact .inr ⟨by decide,1,rfl⟩
 rcases k ha with h1| ⟨h1,x,hx⟩
 ·have:=k hb;have:=k hc;left;lia
 rcases k hb with h2| ⟨h2,y,hy⟩
 ·have:=k hc;left;lia
 rcases k hc with h3| ⟨h3,z,hz⟩
 ·left;exact z295 h3 h1 h2
 ·exact .inr ⟨x,y,z,hx,hy,hz⟩
theorem cramer9 {D x w1 w2 w3 y1 y2 y3 N:Int}(hD:D≠0)(e:D*x=w1*y1+w2*y2+w3*y3)(hN:w1*w1+w2*w2+w3*w3=N)(hM:y1*y1+y2*y2+y3*y3<=81*(D*D)):x*x<=81*N:=by
 have h1:=cs3 w1 w2 w3 y1 y2 y3
 rw [<-e,hN] at h1
 exact Int.le_of_mul_le_mul_left (z297 (by grind) (by grind) h1 (Int.mul_le_mul_of_nonneg_left hM (by rw [<-hN];have:=sq_nonneg w1;have:=sq_nonneg w2;exact z296 (sq_nonneg w3) ‹_› ‹_›:0<=N)):D*D*(x*x)<=D*D*(81*N)) (by exact z283 (sq_pos hD))
theorem det_bound2 {a1 b1 c1 a2 b2 c2 a3 b3 c3 x y z N:Int}(A1: -2<=a1/\a1<=2)(B1: -2<=b1/\b1<=2)(C1: -2<=c1/\c1<=2)(A2: -2<=a2/\a2<=2)(B2: -2<=b2/\b2<=2)(C2: -2<=c2/\c2<=2)(A3: -2<=a3/\a3<=2)(B3: -2<=b3/\b3<=2)(C3: -2<=c3/\c3<=2)
  (hx:0<=x) (hy:0<=y) (hz:0<=z) (eN:(a1*x+b1*y+c1*z)*(a1*x+b1*y+c1*z)+(a2*x+b2*y+c2*z)*(a2*x+b2*y+c2*z)+(a3*x+b3*y+c3*z)*(a3*x+b3*y+c3*z)=N) (h:N<=10*(x+y+z)+690)
  (hD:a1*(b2*c3-c2*b3)-b1*(a2*c3-c2*a3)+c1*(a2*b3-b2*a3)≠0):x<2800/\y<2800/\z<2800:=by
 obtain ⟨D,eD⟩:∃D,a1*(b2*c3-c2*b3)-b1*(a2*c3-c2*a3)+c1*(a2*b3-b2*a3)=D:=⟨_,rfl⟩
 have hD':D≠0:=by rw [<-eD];exact hD
 have four:(∃k,D=2*k)->4<=D*D:=fun ⟨k,e⟩=>by
  have:k≠0:=fun z=>hD' (by rw [e,z];decide)
  have h1:=sq_pos this
  have h2:D*D=4*(k*k):=by rw [e];grind
  exact z298 h1 h2
 have q:∀{a:Int},-2<=a/\a<=2->a*a<=4:=fun h=>sq_le h
 have pos:∀a b c:Int,0<=a*a+b*b+c*c:=fun a b c=>by have:=sq_nonneg a;have:=sq_nonneg b;have:=sq_nonneg c;exact z296 this ‹_› ‹_›
 have na:a1*a1+a2*a2+a3*a3<=9\/(a1*a1+a2*a2+a3*a3<=12/\4<=D*D):=by
  rcases nine A1 A2 A3 with h| ⟨p,r,s,e1,e2,e3⟩
  ·exact .inl h
  ·exact .inr ⟨by have:=q A1;have:=q A2;have:=q A3;exact z299 this ‹_› ‹_›,four ⟨p*(b2*c3-c2*b3)-b1*(r*c3-c2*s)+c1*(r*b3-b2*s),by rw [<-eD,e1,e2,e3];grind⟩⟩
 have nb:b1*b1+b2*b2+b3*b3<=9\/(b1*b1+b2*b2+b3*b3<=12/\4<=D*D):=by
  rcases nine B1 B2 B3 with h| ⟨p,r,s,e1,e2,e3⟩
  ·exact .inl h
  ·exact .inr ⟨by have:=q B1;have:=q B2;have:=q B3;exact z299 this ‹_› ‹_›,four ⟨a1*(r*c3-c2*s)-p*(a2*c3-c2*a3)+c1*(a2*s-r*a3),by rw [<-eD,e1,e2,e3];grind⟩⟩
 have nc:c1*c1+c2*c2+c3*c3<=9\/(c1*c1+c2*c2+c3*c3<=12/\4<=D*D):=by
  rcases nine C1 C2 C3 with h| ⟨p,r,s,e1,e2,e3⟩
  ·exact .inl h
  ·exact .inr ⟨by have:=q C1;have:=q C2;have:=q C3;exact z299 this ‹_› ‹_›,four ⟨a1*(b2*s-r*b3)-b1*(a2*s-r*a3)+p*(a2*b3-b2*a3),by rw [<-eD,e1,e2,e3];grind⟩⟩
 have pr:∀{a b c x y z:Int},(a*a+b*b+c*c<=9\/(a*a+b*b+c*c<=12/\4<=D*D))->(x*x+y*y+z*z<=9\/(x*x+y*y+z*z<=12/\4<=D*D))->(b*z-c*y)*(b*z-c*y)+(c*x-a*z)*(c*x-a*z)+(a*y-b*x)*(a*y-b*x)<=81*(D*D):=fun {a b c x y z} h1 h2=>by
  have k:=cross_le (a:=a) (b:=b) (c:=c) (x:=x) (y:=y) (z:=z)
  rcases h1 with h1| ⟨h1,h3⟩
  ·rcases h2 with h2| ⟨h2,h3⟩
   ·have:=mul_le_two h1 h2 (pos _ _ _) (by decide);exact z300 (sq_pos hD') this k
   ·have:=mul_le_two h1 h2 (pos _ _ _) (by decide);exact z301 h3 this k
  ·have h2:x*x+y*y+z*z<=12:=z302 h2
   have:=mul_le_two h1 h2 (pos _ _ _) (by decide);exact z303 h3 this k
 have kx:=cramer9 (x:=x) hD (w1:=a1*x+b1*y+c1*z) (w2:=a2*x+b2*y+c2*z) (w3:=a3*x+b3*y+c3*z) (y1:=b2*c3-b3*c2) (y2:=b3*c1-b1*c3) (y3:=b1*c2-b2*c1) (by grind) eN (by rw [eD];exact pr nb nc)
 have ky:=cramer9 (x:=y) hD (w1:=a1*x+b1*y+c1*z) (w2:=a2*x+b2*y+c2*z) (w3:=a3*x+b3*y+c3*z) (y1:=c2*a3-c3*a2) (y2:=c3*a1-c1*a3) (y3:=c1*a2-c2*a1) (by grind) eN (by rw [eD];exact pr nc na)
 have kz:=cramer9 (x:=z) hD (w1:=a1*x+b1*y+c1*z) (w2:=a2*x+b2*y+c2*z) (w3:=a3*x+b3*y+c3*z) (y1:=a2*b3-a3*b2) (y2:=a3*b1-a1*b3) (y3:=a1*b2-a2*b1) (by grind) eN (by rw [eD];exact pr na nb)
 have hk:x+y+z<=7400:=by
  apply Classical.byContradiction
  intro hk
  obtain ⟨k,ek⟩:∃k,x+y+z=k:=⟨_,rfl⟩
  rw [ek] at h hk
  have h1:(x+y+z)*(x+y+z)<=3*(x*x+y*y+z*z):=by
   have:=sq_nonneg (x-y);have:=sq_nonneg (x-z);have:=sq_nonneg (y-z)
   have e:3*(x*x+y*y+z*z)-(x+y+z)*(x+y+z)=(x-y)*(x-y)+(x-z)*(x-z)+(y-z)*(y-z):=by grind
   exact z304 this ‹_› ‹_› e
  rw [ek] at h1
  have h2:=Int.mul_le_mul_of_nonneg_right (show 7401<=k by exact z305 hk) (show 0<=k by exact z306 hk)
  exact z307 h2 h h1 kx ky kz hk
 have f:∀{t:Int},t*t<=81*N->t<2800:=fun {t} ht=>lt_of_sq (by decide) (z308 h hk ht)
 exact ⟨f kx,f ky,f kz⟩
end Mine
namespace Mine
theorem dot4 {x y z:Int}:∀{e:List Int},e.length=4\/e=[]->dot e [x,y,z,0]=e.getD 0 0*x+e.getD 1 0*y+e.getD 2 0*z
 | [],_=>by simp only [dot_nil_l];simp
 | [a,b,c,d],_=>by simp only [dot_cons,dot_nil_l,Int.mul_zero];exact z315
 | [_],h=>by simp at h
 | [_,_],h=>by simp at h
 | [_,_,_],h=>by simp at h
 | _::_::_::_::_::_,h=>by simp at h
theorem getD_or {E:List (List Int)}{P:List Int->Prop}(h:∀e∈E,P e)(h0:P [])(k:Nat):P (E.getD k []):=by
 by_cases hk:k<E.length
 ·rw [List.getD_eq_getElem?_getD,List.getElem?_eq_getElem hk];exact h _ (List.getElem_mem hk)
 ·rw [List.getD_eq_getElem?_getD,List.getElem?_eq_none (z12 hk)];exact h0
structure Fou (W:List (List Int))(a1 b1 c1 a2 b2 c2 a3 b3 c3:Int):Prop where
 norm:∀x y z,dot (wor W [x,y,z,0]) (wor W [x,y,z,0])=(a1*x+b1*y+c1*z)*(a1*x+b1*y+c1*z)+(a2*x+b2*y+c2*z)*(a2*x+b2*y+c2*z)+(a3*x+b3*y+c3*z)*(a3*x+b3*y+c3*z)
 s1:(-2<=a1/\a1<=2)/\(-2<=b1/\b1<=2)/\(-2<=c1/\c1<=2)
 s2:(-2<=a2/\a2<=2)/\(-2<=b2/\b2<=2)/\(-2<=c2/\c2<=2)
 s3:(-2<=a3/\a3<=2)/\(-2<=b3/\b3<=2)/\(-2<=c3/\c3<=2)
section
variable {W:List (List Int)} {a1 b1 c1 a2 b2 c2 a3 b3 c3:Int} {R:List (List Int)} {v:List Int}
theorem Fou.of (hE:∀e∈W,e.length=4)(hm:W.length<=3)(hw:∀e∈W,∀i,i<3->-2<=e.getD i 0/\e.getD i 0<=2):Fou W ((W.getD 0 []).getD 0 0) ((W.getD 0 []).getD 1 0) ((W.getD 0 []).getD 2 0) ((W.getD 1 []).getD 0 0) ((W.getD 1 []).getD 1 0) ((W.getD 1 []).getD 2 0) ((W.getD 2 []).getD 0 0) ((W.getD 2 []).getD 1 0) ((W.getD 2 []).getD 2 0):=by
 have hl:=getD_or (P:=fun e=>e.length=4\/e=[]) (fun e he=>.inl (hE e he)) (.inr rfl)
 have hb:∀k,(-2<=(W.getD k []).getD 0 0/\(W.getD k []).getD 0 0<=2)/\(-2<=(W.getD k []).getD 1 0/\(W.getD k []).getD 1 0<=2)/\(-2<=(W.getD k []).getD 2 0/\(W.getD k []).getD 2 0<=2):=
  getD_or (P:=fun e=>(-2<=e.getD 0 0/\e.getD 0 0<=2)/\(-2<=e.getD 1 0/\e.getD 1 0<=2)/\(-2<=e.getD 2 0/\e.getD 2 0<=2)) (fun e he=>⟨hw e he 0 (by decide),hw e he 1 (by decide),hw e he 2 (by decide)⟩) (by decide)
 exact ⟨fun x y z=>by simp only [sq_pad hm,dot4 (hl 0),dot4 (hl 1),dot4 (hl 2)],hb 0,hb 1,hb 2⟩
theorem col4_mem (hE:∀e∈W,e.length=4)(hw:∀e∈W,∀i,i<3->-2<=e.getD i 0/\e.getD i 0<=2){j:Nat}(hj:j<3):∀x∈col W 4 j,-2<=x/\x<=2:=fun x hx=>by
 obtain ⟨e,he,rfl⟩:=List.mem_map.mp hx
 exact (dot_unit (hE e he) (z316 hj))▸hw e he j hj
theorem col4_sq (hE:∀e∈W,e.length=4)(hm:W.length<=3){w:Nat}{j:Nat}(hj:j<4)(h:∀e∈W,-(w:Int)<=e.getD j 0/\e.getD j 0<=w):dot (col W 4 j) (col W 4 j)<=((3*(w*w):Nat):Int):=by
 have cm:∀x∈col W 4 j,-(w:Int)<=x/\x<=w:=fun x hx=>by
  obtain ⟨e,he,rfl⟩:=List.mem_map.mp hx
  exact (dot_unit (hE e he) hj)▸h e he
 have:=(dot_le (w:=w) rfl cm cm).2
 rw [col_len] at this
 exact z317 this (Nat.mul_le_mul_right _ hm)
theorem norm4 (hE:∀e∈W,e.length=4)(hm:W.length<=3)(hw:∀e∈W,∀i,i<3->-2<=e.getD i 0/\e.getD i 0<=2)(ht:∀e∈W,-6<=e.getD 3 0/\e.getD 3 0<=6)(x:Reach W 4 true R v):dot (wor W v) (wor W v)<=8*v.sum+4+106*v.getD 3 0:=by
 have hcl:=col4_sq (w:=6) hE hm (by decide) ht
 refine (x.inv (P:=fun v=>dot (wor W v) (wor W v)<=8*v.sum+4+106*v.getD 3 0) (fun j hj=> ?_) fun R v j y hv ne hj hd _=> ?_).1
 ·rw [sum_unit hj,unit_get' hj]
  by_cases q:j=3
  ·rw [q];exact z318 hcl
  ·have:=col4_sq (w:=2) hE hm hj fun e he=>hw e he j (z319 hj q)
   rw [if_neg (fun e=>q e.symm)]
   exact z320 this
 ·rw [wor_step y.row,norm_add (by exact (wor_len ..).trans (col_len ..).symm),sum_add_unit y.row hj,step_get y.row hj]
  by_cases q:j=3
  ·subst q
   exact (if_pos rfl)▸z321 hd hcl hv
  ·rw [if_neg (fun e=>q e.symm)]
   exact z322 (grow_list (w:=wor W v) (c:=col W 4 j) (by exact (wor_len ..).trans (col_len ..).symm) (by rw [col_len];exact hm) (col4_mem hE hw (z319 hj q)) hd) hv
theorem four_row (r:Row 4 v):∃x y z l,v=[x,y,z,l]/\0<=x/\0<=y/\0<=z/\0<=l:=by
 obtain ⟨x,y,z,l,rfl⟩:=ln4 (r.len)
 exact ⟨x,y,z,l,rfl,r.pos 0,r.pos 1,r.pos 2,r.pos 3⟩
theorem norm3 (hE:∀e∈W,e.length=4)(hm:W.length<=3)(hw:∀e∈W,∀i,i<3->-2<=e.getD i 0/\e.getD i 0<=2)(ht:∀e∈W,-6<=e.getD 3 0/\e.getD 3 0<=6){x y z l:Int}(h:Reach W 4 true R [x,y,z,l])(hl:l=0\/l=1):dot (wor W [x,y,z,0]) (wor W [x,y,z,0])<=10*(x+y+z)+690:=by
 have n:=norm4 hE hm hw ht h
 rw [(by simp;exact z323:[x,y,z,l].sum=x+y+z+l)] at n
 have hx:=h.row.pos 0
 have hy:=h.row.pos 1
 have hz:=h.row.pos 2
 rcases hl with rfl| rfl
 ·exact z324 ‹_› ‹_› ‹_› n
 ·have e:[x,y,z,1]=addR [x,y,z,0] (unitR 4 (3:Nat)):=by
   rw [show unitR 4 (3:Nat)=[0,0,0,1] from rfl];simp [addR]
  rw [e,wor_addR (by rfl),norm_add (by exact (wor_len ..).trans (wor_len ..).symm)] at n
  have k:=dot_self_nonneg (addR (wor W [x,y,z,0]) ((col W 4 3).map (5*·)))
  rw [norm_add (by simp only [wor_len,List.length_map,col_len]),dot_comm _ ((col W 4 3).map (5*·)),dot_scale,dot_scale,dot_comm (col W 4 3) ((col W 4 3).map (5*·)),dot_scale,dot_comm (col W 4 3) (wor W [x,y,z,0])] at k
  exact z325 k n (col4_sq (w:=6) hE hm (by decide) ht)
end
end Mine
namespace Mine
theorem par_line {E:List (List Int)}{n:Nat}(hE:∀f∈E,f.length=n)(hw:∀e∈E,∀x∈e,-2<=x/\x<=2)(hp:∀e∈E,∀f∈E,Par e f):∃as e:List Int,e.length=n/\(∀x∈e,-2<=x/\x<=2)/\E=as.map fun a=>e.map (a*·):=by
 by_cases h1:∃e∈E,∃i,e.getD i 0=1\/e.getD i 0= -1
 ·obtain ⟨e,he,i,hi⟩:=h1
  obtain ⟨as,h⟩:=line_of hE (hE e he) hi (hp e he)
  exact ⟨as,e,hE e he,hw e he,h⟩
 ·have ev:∀e∈E,∀i,e.getD i 0= -2\/e.getD i 0=0\/e.getD i 0=2:=fun e he i=>by
   have h2:¬(e.getD i 0=1\/e.getD i 0= -1):=fun q=>h1 ⟨e,he,i,q⟩
   have h3: -2<=e.getD i 0/\e.getD i 0<=2:=by
    by_cases q:i<e.length
    ·exact hw e he _ (get_mem q)
    ·rw [List.getD_eq_getElem?_getD,List.getElem?_eq_none (z12 q)];decide
   exact z326 h3.1 h3.2 h2
  by_cases h2:∃e∈E,∃i,e.getD i 0=2\/e.getD i 0= -2
  ·obtain ⟨e,he,i,hi⟩:=h2
   have hl:(e.map (· /2)).length=n:=by exact (List.length_map ..).trans (hE e he)
   obtain ⟨as,h⟩:=line_of (e:=e.map (· /2)) (i:=i) hE hl (by rw [half_get];exact z327 hi) fun f hf a b=>by
    have h3:=hp e he f hf a b
    simp only [half_get,half_get]
    have ha:=ev e he a
    have hb:=ev e he b
    rcases ha with ha| ha| ha<;>rcases hb with hb| hb| hb<;>rw [ha,hb] at h3⊢<;>lia
   refine ⟨as,_,hl,fun x hx=> ?_,h⟩
   obtain ⟨y,hy,rfl⟩:=List.mem_map.mp hx
   have:=hw e he y hy
   exact z337 this.1 this.2
  ·refine ⟨E.map fun _=>(0:Int),List.replicate n 0,by simp,fun x hx=>by have:=(List.mem_replicate.mp hx).2;exact z338 this,?_⟩
   rw [List.map_map]
   symm
   refine (List.map_congr_left (g:=id) fun f hf=> ?_).trans (List.map_id _)
   refine ext_get (by simp [hE f hf]) fun j hj=> ?_
   have:f.getD j 0=0:=by
    have:=ev f hf j
    have h3:¬(f.getD j 0=2\/f.getD j 0= -2):=fun q=>h2 ⟨f,hf,j,q⟩
    exact z339 this h3
   show _=f.getD j 0
   simp only [this]
   simp [List.getElem?_replicate]
   split<;>rfl
theorem dot_six:∀{a c:List Int},a.length=c.length->(∀x∈c,-6<=x/\x<=6)->-(6*dot a a)<=dot a c/\dot a c<=6*dot a a
 | [],[],_,_=>by decide
 | [],_::_,h,_=>by contradiction
 | _::_,[],h,_=>by contradiction
 | x::a,y::c,h,hc=>by
  have ih:=dot_six (a:=a) (c:=c) (by simpa using h) fun z hz=>hc z (.tail _ hz)
  have hy:=hc y (.head _)
  rw [dot_cons,dot_cons]
  have h1:x.natAbs*y.natAbs<=x.natAbs*6:=Nat.mul_le_mul_left _ (z340 hy.1 hy.2)
  rw [<-Int.natAbs_mul] at h1
  have h2:x.natAbs<=x.natAbs*x.natAbs:=by
   rcases Nat.eq_zero_or_pos x.natAbs with q| q
   ·rw [q];exact Nat.le_refl _
   ·exact Nat.le_mul_of_pos_left _ q
  have h3:((x.natAbs*x.natAbs:Nat):Int)=x*x:=Int.natAbs_mul_self
  have h1:=nabs h1
  generalize x.natAbs*x.natAbs=xx at h2 h3
  generalize x.natAbs=ax at h1 h2
  exact z341 h3 ih.1 h1.1 h1.2 ih.2 h2
noncomputable def lineW (as c:List Int)(z l:Int):List Int:=(as.zip c).map fun q=>q.1*z+l*q.2
theorem lineW_get {as c:List Int}{z l:Int}(h:as.length=c.length)(i:Nat):(lineW as c z l).getD i 0=as.getD i 0*z+l*c.getD i 0:=by
 unfold lineW
 by_cases hi:i<as.length
 ·have hi2:i<c.length:=z39 hi h
  have:i<(as.zip c).length:=by rw [List.length_zip];exact z342 hi h
  simp only [List.getElem?_map,List.getElem?_eq_getElem this,List.getElem_zip,List.getElem?_eq_getElem hi,List.getD_eq_getElem?_getD,List.getElem?_eq_getElem hi2]
  rfl
 ·rw [List.getD_eq_getElem?_getD,List.getElem?_eq_none (by simp;exact z343 hi),List.getD_eq_getElem?_getD,List.getElem?_eq_none (z12 hi),List.getD_eq_getElem?_getD,List.getElem?_eq_none (z40 h hi)]
  simp
theorem lineW_len {as c:List Int}{z l:Int}(h:as.length=c.length):(lineW as c z l).length=as.length:=by
 unfold lineW;simp only [List.length_map,List.length_zip];exact z344 h
theorem dot_lineW {z l:Int}:∀{as c:List Int},as.length=c.length->dot (lineW as c z l) as=dot as as*z+l*dot as c
 | [],[],_=>by simp [lineW,dot_nil_l]
 | [],_::_,h=>by contradiction
 | _::_,[],h=>by contradiction
 | x::a,y::c,h=>by
  have e:lineW (x::a) (y::c) z l=(x*z+l*y)::lineW a c z l:=rfl
  simp only [e,dot_cons,dot_cons,dot_cons,(dot_lineW (z:=z) (l:=l) (as:=a) (c:=c) (by simpa using h)),Int.add_mul,Int.mul_add,Int.mul_right_comm x z x,Int.mul_assoc l y x,Int.mul_comm y x]
  exact z1
noncomputable def tabAll' (b:Nat):List Int:=(List.range (2*b+1)).map fun (i:Nat)=>(i:Int)-b
theorem tabAll'_mem {b:Nat}{x:Int}(h: -(b:Int)<=x/\x<=b):x∈tabAll' b:=
 List.mem_map.mpr ⟨(x+b).toNat,List.mem_range.mpr (z345 h.2),z346 h.1⟩
noncomputable def Low4 (W:List (List Int)):Prop:=∀R v,Alive W 4 true R v->v.getD 0 0<2800/\v.getD 1 0<2800/\v.getD 2 0<2800/\v.getD 3 0<2
theorem Low4.of {W:List (List Int)}(h:∀R v,Alive W 4 true R v->v.sum<=(35:Nat)):Low4 W:=fun R v x=>by
 have g:=get_le_sum x.reach.row
 have g0:=g 0
 have g1:=g 1
 have g2:=g 2
 have hs:=h R v x
 refine ⟨?_,?_,?_,(x.reach.last rfl)⟩<;>lia
section
variable {W:List (List Int)} {as e c:List Int} {R:List (List Int)} {v:List Int}
structure Ln4 (W:List (List Int))(as e c:List Int):Prop where
 len:as.length=c.length
 col:∀j,j<3->Mine.col W 4 j=as.map (· *e.getD j 0)
 last:Mine.col W 4 3=c
 e2:∀j,-2<=e.getD j 0/\e.getD j 0<=2
 c6:∀x∈c,-6<=x/\x<=6
theorem map_lineW {as c:List Int}{z:Int}(h:as.length=c.length):as.map (· *z)=lineW as c z 0:=by
 refine ext_get (by exact (List.length_map ..).trans (lineW_len h ..).symm) fun i hi=> ?_
 simp only [lineW_get h,Int.zero_mul,Int.add_zero]
 simp only [List.length_map] at hi
 simp [hi]
theorem add_lineW {as c:List Int}{z l z' l':Int}(h:as.length=c.length):addR (lineW as c z l) (lineW as c z' l')=lineW as c (z+z') (l+l'):=by
 refine ext_get (by exact (addR_len (lineW_len h) (lineW_len h) ..).trans (lineW_len h ..).symm) fun i _=> ?_
 rw [addR_get (by exact (lineW_len h ..).trans (lineW_len h ..).symm),lineW_get h,lineW_get h,lineW_get h,Int.mul_add,Int.add_mul]
 exact z1
theorem self_lineW {as c:List Int}(h:as.length=c.length):c=lineW as c 0 1:=by
 refine ext_get (by rw [lineW_len h,h]) fun i _=> ?_
 simp only [lineW_get h,Int.mul_zero,Int.one_mul,Int.zero_add]
theorem Ln4.atR (L:Ln4 W as e c)(x:Reach W 4 true R v):∃z,(-8<=z/\z<=8)/\wor W v=lineW as c z (v.getD 3 0):=by
 refine (x.inv (P:=fun v=>∃z,(-8<=z/\z<=8)/\wor W v=lineW as c z (v.getD 3 0)) (fun j hj=> ?_) fun R v j y hv ne hj hd _=> ?_).1
 ·rw [unit_get' hj]
  by_cases q:j=3
  ·subst q
   refine ⟨0,by decide,?_⟩
   exact L.last.trans (self_lineW L.len)
  ·have:=L.e2 j
   refine ⟨e.getD j 0,z348 this.1 this.2,?_⟩
   rw [if_neg (fun e=>q e.symm)]
   exact (L.col j (z319 hj q)).trans (map_lineW L.len)
 ·obtain ⟨z,hz,hw⟩:=hv
  have y2:=y.row.pos 3
  have y3:v.getD 3 0<2:=y.last rfl
  simp only [wor_step y.row,step_get y.row hj,hw]
  by_cases q:j=3
  ·subst q
   refine ⟨z,hz,?_⟩
   rw [(L.last.trans (self_lineW L.len)),if_pos rfl,add_lineW L.len,Int.add_zero]
  ·have hj3:j<3:=z319 hj q
   have e2:=L.e2 j
   have hd:dot (wor W v) (Mine.col W 4 j)<0:=hd
   rw [hw,L.col j hj3] at hd
   rw [(List.map_congr_left fun x _=>Int.mul_comm _ _),dot_comm,dot_scale,dot_comm,dot_lineW L.len] at hd
   have h6:=dot_six L.len L.c6
   have hq:=dot_self_nonneg as
   refine ⟨z+e.getD j 0,?_,by rw [L.col j hj3,map_lineW L.len,add_lineW L.len,if_neg (fun e=>q e.symm)]⟩
   generalize e.getD j 0=k at*
   generalize dot as as=Q at*
   generalize dot as c=τ at*
   have hl:v.getD 3 0=0\/v.getD 3 0=1:=z261 y2 y3
   have key:∀{S:Int},k*S<0->(0<k/\S<0)\/(k<0/\0<S):=fun {S} h=>by
    rcases Int.lt_trichotomy k 0 with q| q| q
    ·refine .inr ⟨q,Classical.byContradiction fun n=> ?_⟩
     have:=Int.mul_nonneg (show 0<=-k by exact z349 q) (show 0<=-S by exact z61 n)
     rw [Int.neg_mul_neg] at this;exact z22 h this
    ·rw [q,Int.zero_mul] at h;exact (z350 h).elim
    ·refine .inl ⟨q,Classical.byContradiction fun n=> ?_⟩
     have:=Int.mul_nonneg (show 0<=k by exact z275 q) (show 0<=S by exact z21 n)
     exact z22 h this
   have hh:(Q*z+v.getD 3 0*τ<0->z<6)/\(0<Q*z+v.getD 3 0*τ->-6<z):=by
    rcases hl with h0| h0<;>rw [h0] at* <;>refine (fun {t} t1 t2=>by
    constructor
    ·intro h
     apply Classical.byContradiction
     intro n
     have:=Int.mul_le_mul_of_nonneg_left (show 6<=z by lia) hq
     lia
    ·intro h
     apply Classical.byContradiction
     intro n
     have:=Int.mul_le_mul_of_nonneg_left (show z<=-6 by lia) hq
     lia:∀{t:Int},-(6*Q)<=t->t<=6*Q->(Q*z+t<0->z<6)/\(0<Q*z+t->-6<z)) ?_ ?_<;>lia
   rcases key hd with ⟨h1,h2⟩| ⟨h1,h2⟩
   ·exact z357 h1 h2 hh.1 e2.2 hz.1
   ·exact z358 e2.1 h2 hh.2 h1 hz.2
theorem Ln4.low (L:Ln4 W as e c):Low4 W:=Low4.of fun R v x=>by
 refine Int.le_trans (x.level (F:=(tabAll' 8).flatMap fun z=>[lineW as c z 0,lineW as c z 1]) fun r hr=> ?_) (by show (((((tabAll' 8).map fun _=>2).sum:Nat):Int)+1<=((35:Nat):Int));decide)
 have hre:∀{R:List (List Int)} {v:List Int},Reach W 4 true R v->∀r∈R,∃R',Reach W 4 true R' r:=by
  intro R v y
  induction y with
  | unit hp=>intro r hr;contradiction
  | step y ne hp hd ho ih=>
   intro r hr
   rcases List.mem_cons.mp hr with rfl| hr
   ·exact ⟨_,y⟩
   ·exact ih r hr
 obtain ⟨R',y⟩:=hre x.reach r hr
 obtain ⟨z,hz,hw⟩:=L.atR y
 have y2:=y.row.pos 3
 have y3:r.getD 3 0<2:=y.last rfl
 simp only [hw]
 refine List.mem_flatMap.mpr ⟨z,tabAll'_mem hz,?_⟩
 have hl:r.getD 3 0=0\/r.getD 3 0=1:=z261 y2 y3
 rcases hl with h0| h0<;>simp only [h0]<;>simp
end
theorem take3_get {e:List Int}(i:Nat)(hi:i<3):(e.take 3).getD i 0=e.getD i 0:=by
 simp only [List.getD_eq_getElem?_getD,List.getElem?_take,if_pos hi]
set_option maxHeartbeats 1000000 in
theorem Low4.size3w {W:List (List Int)}(hE:∀e∈W,e.length=4)(hm:W.length<=3)(hw:∀e∈W,∀i,i<3->-2<=e.getD i 0/\e.getD i 0<=2)(ht:∀e∈W,-6<=e.getD 3 0/\e.getD 3 0<=6):Low4 W:=by
 have T:=Fou.of hE hm hw
 have mem:∀e∈W,e=W.getD 0 []\/e=W.getD 1 []\/e=W.getD 2 []:=fun e he=>by
  obtain ⟨i,hi,q⟩:=List.mem_iff_getElem.mp he
  have:e=W.getD i []:=by rw [List.getD_eq_getElem?_getD,List.getElem?_eq_getElem hi,q];rfl
  have:i=0\/i=1\/i=2:=z359 hi hm
  rcases this with rfl| rfl| rfl
  ·exact .inl ‹_›
  ·exact .inr (.inl ‹_›)
  ·exact .inr (.inr ‹_›)
 generalize W.getD 0 []=r1 at T mem
 generalize W.getD 1 []=r2 at T mem
 generalize W.getD 2 []=r3 at T mem
 have fin:(∀R x y z l,Alive W 4 true R [x,y,z,l]->0<=x->0<=y->0<=z->(l=0\/l=1)->x<2800/\y<2800/\z<2800)->Low4 W:=fun h R v x=>by
  have hl:v.getD 3 0<2:=x.reach.last rfl
  obtain ⟨a,b,c,l,rfl,ha,hb,hc,h0⟩:=four_row x.reach.row
  have hl:l<2:=hl
  obtain ⟨k1,k2,k3⟩:=h R a b c l x ha hb hc (z261 h0 hl)
  exact ⟨k1,k2,k3,hl⟩
 have nn:∀{R x y z l},Alive W 4 true R [x,y,z,l]->(l=0\/l=1)->dot (wor W [x,y,z,0]) (wor W [x,y,z,0])<=10*(x+y+z)+690:=fun x h=>norm3 hE hm hw ht x.reach h
 have ev:∀{u1 u2 u3:Int},r1.getD 0 0*u1+r1.getD 1 0*u2+r1.getD 2 0*u3=0->r2.getD 0 0*u1+r2.getD 1 0*u2+r2.getD 2 0*u3=0->r3.getD 0 0*u1+r3.getD 1 0*u2+r3.getD 2 0*u3=0->Even W [u1,u2,u3,0]:=fun h1 h2 h3=>dot_self_zero (by rw [T.norm,h1,h2,h3];decide)
 obtain ⟨A1,B1,C1⟩:=T.s1
 obtain ⟨A2,B2,C2⟩:=T.s2
 obtain ⟨A3,B3,C3⟩:=T.s3
 have tn:=T.norm
 clear T
 generalize ha1:r1.getD 0 0=a1 at*
 generalize hb1:r1.getD 1 0=b1 at*
 generalize hc1:r1.getD 2 0=c1 at*
 generalize ha2:r2.getD 0 0=a2 at*
 generalize hb2:r2.getD 1 0=b2 at*
 generalize hc2:r2.getD 2 0=c2 at*
 generalize ha3:r3.getD 0 0=a3 at*
 generalize hb3:r3.getD 1 0=b3 at*
 generalize hc3:r3.getD 2 0=c3 at*
 by_cases hD:a1*(b2*c3-c2*b3)-b1*(a2*c3-c2*a3)+c1*(a2*b3-b2*a3)≠0
 ·exact fin fun R x y z l al hx hy hz hl=>det_bound2 A1 B1 C1 A2 B2 C2 A3 B3 C3 hx hy hz rfl (by rw [<-tn];exact nn al hl) hD
 have hD:a1*(b2*c3-c2*b3)-b1*(a2*c3-c2*a3)+c1*(a2*b3-b2*a3)=0:=Classical.byContradiction hD
 have sq:=sq_nonneg
 have bnd:∀{a b c a' b' c':Int},(-2<=a/\a<=2)->(-2<=b/\b<=2)->(-2<=c/\c<=2)->(-2<=a'/\a'<=2)->(-2<=b'/\b'<=2)->(-2<=c'/\c'<=2)->
   (∀x y z,(a*x+b*y+c*z)*(a*x+b*y+c*z)+(a'*x+b'*y+c'*z)*(a'*x+b'*y+c'*z)<=dot (wor W [x,y,z,0]) (wor W [x,y,z,0]))->
   Even W [b*c'-c*b',c*a'-a*c',a*b'-b*a',0]->(b*c'-c*b'≠0\/c*a'-a*c'≠0\/a*b'-b*a'≠0)->Low4 W:=by
  intro a b c a' b' c' A B C A' B' C' hn hev hne
  refine fin fun R X Y Z l al hx hy hz hl=> ?_
  have hev2:Even W [-(b*c'-c*b'),-(c*a'-a*c'),-(a*b'-b*a'),0]:=fun t ht=>by
   obtain ⟨f,hf,rfl⟩:=List.mem_map.mp ht
   have h1:=Even.iff.mp hev f hf
   rw [dot4 (.inl (hE f hf))] at h1⊢
   rw [Int.mul_neg,Int.mul_neg,Int.mul_neg];exact z360 h1
  exact pair_bound2 hx hy hz A B C A' B' C' (hn X Y Z) (nn al hl) fun u1 u2 u3 hu p1 p2 p3 l1 l2 l3=>by
   have heu:Even W [u1,u2,u3,0]:=by
    rcases hu with ⟨rfl,rfl,rfl⟩| ⟨rfl,rfl,rfl⟩
    ·exact hev
    ·exact hev2
   have h:=al.bare [u1,u2,u3,0] (.of rfl fun t ht=>by
    simp at ht;rcases ht with rfl| rfl| rfl| rfl
    ·exact p1
    ·exact p2
    ·exact p3
    ·decide) heu (by
    simp only [List.sum_cons,List.sum_nil]
    rcases hu with ⟨e1,e2,e3⟩| ⟨e1,e2,e3⟩<;>lia) fun i=>by
     match i with
     | 0=>exact l1
     | 1=>exact l2
     | 2=>exact l3
     | 3=>show 0<=l;exact z363 hl
     | i+4=>simp
   simp at h
   exact z364 h.2.2.1 h.1 h.2.1
 by_cases h12:b1*c2-c1*b2≠0\/c1*a2-a1*c2≠0\/a1*b2-b1*a2≠0
 ·exact bnd A1 B1 C1 A2 B2 C2 (fun x y z=>by rw [tn];have:=sq (a3*x+b3*y+c3*z);exact z115 this) (ev (by grind) (by grind) (by grind)) h12
 by_cases h13:b1*c3-c1*b3≠0\/c1*a3-a1*c3≠0\/a1*b3-b1*a3≠0
 ·exact bnd A1 B1 C1 A3 B3 C3 (fun x y z=>by rw [tn];have:=sq (a2*x+b2*y+c2*z);exact z365 this) (ev (by grind) (by grind) (by grind)) h13
 by_cases h23:b2*c3-c2*b3≠0\/c2*a3-a2*c3≠0\/a2*b3-b2*a3≠0
 ·exact bnd A2 B2 C2 A3 B3 C3 (fun x y z=>by rw [tn];have:=sq (a1*x+b1*y+c1*z);exact z366 this) (ev (by grind) (by grind) (by grind)) h23
 have tl:∀{e},e∈W->(e.take 3).length=3:=fun he=>by rw [List.length_take,hE _ he];rfl
 have tk:∀{e},e∈W->e.take 3=[e.getD 0 0,e.getD 1 0,e.getD 2 0]:=fun he=>by
  rw [three_get (tl he),take3_get 0 (by decide),take3_get 1 (by decide),take3_get 2 (by decide)]
 have q12:Par [a1,b1,c1] [a2,b2,c2]:=par3 (z367 h12) (z368 h12) (z369 h12)
 have q13:Par [a1,b1,c1] [a3,b3,c3]:=par3 (z367 h13) (z368 h13) (z369 h13)
 have q23:Par [a2,b2,c2] [a3,b3,c3]:=par3 (z367 h23) (z368 h23) (z369 h23)
 have pk:∀e∈W,e.take 3=[a1,b1,c1]\/e.take 3=[a2,b2,c2]\/e.take 3=[a3,b3,c3]:=fun e he=>by
  rw [tk he]
  rcases mem e he with rfl| rfl| rfl
  ·rw [ha1,hb1,hc1];exact .inl rfl
  ·rw [ha2,hb2,hc2];exact .inr (.inl rfl)
  ·rw [ha3,hb3,hc3];exact .inr (.inr rfl)
 have pa:∀e∈W,∀f∈W,Par (e.take 3) (f.take 3):=fun e he f hf=>by
  rcases pk e he with h| h| h<;>rcases pk f hf with h'| h'| h'<;>rw [h,h']
  ·exact .refl _
  ·exact q12
  ·exact q13
  ·exact q12.symm
  ·exact .refl _
  ·exact q23
  ·exact q13.symm
  ·exact q23.symm
  ·exact .refl _
 obtain ⟨as,e,he,h2,hW⟩:=par_line (E:=W.map (·.take 3)) (n:=3) (fun f hf=>by obtain ⟨g,hg,rfl⟩:=List.mem_map.mp hf;exact tl hg) (fun f hf x hx=>by
  obtain ⟨g,hg,rfl⟩:=List.mem_map.mp hf
  obtain ⟨i,hi,rfl⟩:=mem_get hx
  rw [tl hg] at hi
  rw [take3_get _ hi]
  exact hw g hg i hi) (fun f hf g hg=>by
  obtain ⟨f',hf',rfl⟩:=List.mem_map.mp hf
  obtain ⟨g',hg',rfl⟩:=List.mem_map.mp hg
  exact pa f' hf' g' hg')
 have hal:as.length=W.length:=by have:=congrArg List.length hW;rw [List.length_map,List.length_map] at this;exact this.symm
 refine Ln4.low (as:=as) (e:=e) (c:=col W 4 3) ⟨by rw [col_len,hal],fun j hj=> ?_,rfl,fun j=> ?_,fun x hx=> ?_⟩
 ·have e1:col W 4 j=(W.map (·.take 3)).map fun f=>f.getD j 0:=by
   rw [List.map_map]
   refine List.map_congr_left fun f hf=> ?_
   show dot f (unitR 4 j)=(f.take 3).getD j 0
   rw [dot_unit (hE f hf) (z316 hj),take3_get _ hj]
  rw [e1,hW,List.map_map]
  refine List.map_congr_left fun a _=> ?_
  show (e.map (a*·)).getD j 0=a*e.getD j 0
  have:j<e.length:=z23 hj he
  simp [List.getD_eq_getElem?_getD,this]
 ·by_cases q:j<e.length
  ·exact h2 _ (get_mem q)
  ·rw [List.getD_eq_getElem?_getD,List.getElem?_eq_none (z12 q)];decide
 ·obtain ⟨f,hf,rfl⟩:=List.mem_map.mp hx
  rw [dot_unit (hE f hf) (by decide)]
  exact ht f hf
theorem Fits.size3w {W:List (List Int)}(hE:∀e∈W,e.length=4)(hm:W.length<=3)(hw:∀e∈W,∀i,i<3->-2<=e.getD i 0/\e.getD i 0<=2)(ht:∀e∈W,-6<=e.getD 3 0/\e.getD 3 0<=6):Fits W 4 true:=by
 have low:=Low4.size3w hE hm hw ht
 refine Fits.of (bs:=[2800,2800,2]) (K:=8400) hE rfl (fun R v x=> ?_) (fun R v x i hi=> ?_) (by decide)
 ·obtain ⟨k1,k2,k3,k4⟩:=low R v x
  have hs:=x.reach.row.sum
  simp only [sumN_succ,sumN_zero] at hs
  exact z370 k4 k1 k3 k2 hs
 ·obtain ⟨k1,k2,k3,k4⟩:=low R v x
  have hi:i<3:=hi
  rcases ((z202 hi):i=0\/i=1\/i=2) with rfl| rfl| rfl
  ·exact k2
  ·exact k3
  ·exact k4
end Mine
namespace Mine
theorem block {a:Nat}(ha:0<a){js:List Int}(hl:js.length=a):∃p q,p<q/\q<=a/\∃t:Int,(js.take q).sum-(js.take p).sum=a*t:=by
 apply Classical.byContradiction
 intro h
 have nd:((List.range (a+1)).map fun k=>(js.take k).sum % (a:Int)).Nodup:=by
  rw [List.Nodup,List.pairwise_map]
  refine List.Pairwise.imp_of_mem (fun {p q} hp hq lt e=>h ⟨p,q,lt,by have:=List.mem_range.mp hq;exact z371 this,?_⟩) List.pairwise_lt_range
  have h1:=Int.emod_add_mul_ediv (js.take q).sum a
  have h2:=Int.emod_add_mul_ediv (js.take p).sum a
  exact ⟨(js.take q).sum/a-(js.take p).sum/a,by rw [Int.mul_sub];exact z372 h1 h2 e⟩
 have:=length_le_of_nodup (F:=(List.range a).map fun (k:Nat)=>(k:Int)) nd fun x hx=>by
  obtain ⟨k,_,rfl⟩:=List.mem_map.mp hx
  have h1:=Int.emod_nonneg (js.take k).sum (show (a:Int)≠0 by exact z373 ha)
  exact List.mem_map.mpr ⟨((js.take k).sum % (a:Int)).toNat,List.mem_range.mpr (z309 h1 (Int.emod_lt_of_pos (js.take k).sum (show (0:Int)<a by exact z76 ha))),z374 h1⟩
 simp only [List.length_map,List.length_range] at this
 exact z375 this
theorem sum_take_drop (js:List Int){p q:Nat}(h:p<=q):(js.take q).sum=(js.take p).sum+((js.take q).drop p).sum:=by
 conv=>lhs;rw [<-List.take_append_drop p (js.take q)]
 simp only [List.sum_append,List.take_take,Nat.min_eq_left h]
theorem sum_ge {js:List Int}{w:Nat}(h:∀x∈js,-(w:Int)<=x/\x<=-1): -((w*js.length:Nat):Int)<=js.sum/\js.sum<=-(js.length:Int):=by
 induction js with
 | nil=>simp
 | cons a js ih=>
  have h1:=h a (.head _)
  have h2:=ih fun x hx=>h x (.tail _ hx)
  exact z376 h1.1 h2.1 h2.2 h1.2
theorem sum_rep (k:Nat)(a:Int):(List.replicate k a).sum=k*a:=by
 induction k with
 | zero=>simp
 | succ k ih=>simp only [List.replicate_succ,List.sum_cons,ih,Int.natCast_add,Int.add_mul];exact z377
theorem entry_pos {n w:Nat}{x e:List Int}(he:e.length=n)(L:Least [e] n x){v:Nat->Int}(hv:(∀i,v i=e.getD i 0)\/(∀i,v i= -e.getD i 0))(hw:∀i,-(w:Int)<=v i/\v i<=w){i:Nat}(hi:i<n)(hp:0<v i):x.getD i 0<=w:=by
 apply Classical.byContradiction
 intro hx
 have ev:sumN n (fun j=>v j*x.getD j 0)=0:=by
  have h1:=Even.iff.mp L.even e (.head _)
  rw [dot_eq_sumN (by exact (he ..).trans (L.row.len ..).symm),L.row.len] at h1
  rcases hv with h| h
  ·exact (sumN_congr fun j _=>by rw [h]).trans h1
  ·have:=sumN_mul n (-1) (fun j=>e.getD j 0*x.getD j 0)
   rw [h1] at this
   exact (sumN_congr fun j _=>by simp only [h,Int.neg_mul,Int.one_mul]).trans this
 obtain ⟨a,ea⟩:∃a:Nat,v i=a:=⟨(v i).toNat,z378 hp⟩
 have ht:(a:Int)<=tot n (fun j=>decide (v j<0)) (fun j=>x.getD j 0) true:=by
  have k:=sumN_mono (n:=n) (f:=fun j=> -(w:Int)*(if decide (v j<0)=true then x.getD j 0 else 0)+(fun _=>(a:Int)*x.getD i 0) j*if j=i then 1 else 0) (g:=fun j=>v j*x.getD j 0) fun j _=>by
   have xj:=L.row.pos j
   by_cases q:j=i
   ·subst q
    rw [if_neg (by simp;exact z275 hp),if_pos rfl,ea,Int.mul_zero,Int.mul_one,Int.zero_add];exact Int.le_refl _
   ·rw [if_neg q,Int.mul_zero,Int.add_zero]
    by_cases s:v j<0
    ·rw [if_pos (by simpa using s)];exact Int.mul_le_mul_of_nonneg_right (hw j).1 xj
    ·rw [if_neg (by simpa using s),Int.mul_zero];exact Int.mul_nonneg (z21 s) xj
  simp only [sumN_add,sumN_mul,sumN_one hi,ev] at k
  have k: -(w:Int)*tot n (fun j=>decide (v j<0)) (fun j=>x.getD j 0) true+(a:Int)*x.getD i 0<=0:=k
  generalize tot n (fun j=>decide (v j<0)) (fun j=>x.getD j 0) true=t at*
  apply Classical.byContradiction
  intro q
  have h1:(a:Int)*(w+1)<=a*x.getD i 0:=Int.mul_le_mul_of_nonneg_left (z128 hx) z289
  have h2:(w:Int)*t<=w*(a-1):=Int.mul_le_mul_of_nonneg_left (z379 q) z289
  simp only [Int.mul_sub,Int.mul_one,Int.mul_comm (w:Int) a] at h2
  rw [Int.neg_mul] at k
  exact z380 k h1 hp ea h2
 obtain ⟨is,hc,hin,hcount⟩:=pickT (t:=true) a (fun j=>L.row.pos j) ht
 have hneg:∀j∈is,v j<0:=fun j hj=>by
  have:=List.mem_map_of_mem (f:=fun j=>decide (v j<0)) hj
  rw [hc] at this
  simpa using (List.mem_replicate.mp this).2
 have hlen:is.length=a:=by have:=congrArg List.length hc;simpa using this
 have a0:0<a:=z381 hp ea
 obtain ⟨p,q,hpq,hqa,t,hs⟩:=block a0 (js:=is.map v) (by rw [List.length_map];exact hlen)
 have hsp:=sum_take_drop (is.map v) (Nat.le_of_lt hpq)
 have hB:((is.map v).take q).drop p=((is.take q).drop p).map v:=by rw [<-List.map_take,<-List.map_drop]
 rw [hB] at hsp
 have sub:((is.take q).drop p).Sublist is:=(List.drop_sublist _ _).trans (List.take_sublist _ _)
 have bl:((is.take q).drop p).length=q-p:=by rw [List.length_drop,List.length_take];exact z382 hlen hqa
 generalize hBB:(is.take q).drop p=B at*
 have hb:=sum_ge (js:=B.map v) (w:=w) fun y hy=>by
  obtain ⟨j,hj,rfl⟩:=List.mem_map.mp hy
  have:=hneg j (sub.subset hj)
  have:=hw j
  exact z383 ‹_› this.1
 rw [List.length_map] at hb
 have st:(B.map v).sum=a*t:=z384 hs hsp
 have hwl:w*B.length<=w*a:=Nat.mul_le_mul_left _ (z385 bl hqa)
 have t1:t<0:=by
  apply Classical.byContradiction
  intro z
  have:=Int.mul_nonneg (show 0<=(a:Int) by exact z289) (show 0<=t by lia)
  exact z386 this hs hsp hb.2 hpq bl
 have t2: -(w:Int)<=t:=by
  apply Classical.byContradiction
  intro z
  have:=Int.mul_le_mul_of_nonneg_left (show t<=-(w:Int)-1 by exact z379 z) (show 0<=(a:Int) by exact z289)
  rw [Int.mul_sub,Int.mul_one,Int.mul_neg] at this
  have c:((w*a:Nat):Int)=(a:Int)*w:=by rw [Int.natCast_mul,Int.mul_comm]
  exact z387 c hb.1 hp ea st this hwl
 obtain ⟨k,ek⟩:∃k:Nat,t= -(k:Int):=⟨(-t).toNat,z388 t1⟩
 have nin:i∉B:=fun hi'=>by have:=hneg i (sub.subset hi');exact z389 hp this
 have hz:((B++List.replicate k i).map v).sum=0:=by
  rw [List.map_append,List.sum_append,st,List.map_replicate,ek,ea]
  rw [sum_rep,Int.mul_neg,Int.mul_comm];exact z390
 have cnt:∀j,((B++List.replicate k i).count j:Int)<=x.getD j 0:=fun j=>by
  rw [List.count_append,List.count_replicate]
  by_cases q:i=j
  ·subst q
   rw [List.count_eq_zero.mpr nin,if_pos (beq_self_eq_true i),Nat.zero_add]
   exact z391 t2 ek hx
  ·have:¬(i==j)=true:=by simpa using q
   have h1:=hcount j
   have h2:=sub.count_le j
   rw [if_neg this,Nat.add_zero]
   exact z392 h1 h2
 have hit:=(L.hit (fun f hf=>by rw [List.mem_singleton.mp hf];exact he) (is:=B++List.replicate k i) (fun z=>by
   have:=congrArg List.length z
   rw [List.length_append] at this
   simp at this
   have:B=[]:=this.1
   rw [this] at bl;simp at bl;exact z393 bl hpq) (fun j hj=>by
   rcases List.mem_append.mp hj with z| z
   ·exact hin j (sub.subset z)
   ·rw [(List.mem_replicate.mp z).2];exact hi) cnt fun f hf=>by
   rw [List.mem_singleton.mp hf]
   rcases hv with h| h
   ·exact (congrArg List.sum (List.map_congr_left fun j _=>(h j).symm)).trans hz
   ·have:∀l:List Nat,(l.map fun j=>e.getD j 0).sum= -(l.map v).sum:=fun l=>by
     induction l with
     | nil=>rfl
     | cons b l ih=>rw [List.map_cons,List.sum_cons,ih,List.map_cons,List.sum_cons,h];exact z394
    rw [this,hz];rfl).1 i
 rw [List.count_append,List.count_replicate,List.count_eq_zero.mpr nin,if_pos (beq_self_eq_true i),Nat.zero_add] at hit
 exact z395 t2 ek hit hx
theorem entry_le {n w:Nat}{x e:List Int}(he:e.length=n)(L:Least [e] n x)(hw:∀i,-(w:Int)<=e.getD i 0/\e.getD i 0<=w)(w1:1<=w)(i:Nat):x.getD i 0<=w:=by
 by_cases hi:i<n
 ·rcases Int.lt_trichotomy (e.getD i 0) 0 with q| q| q
  ·exact entry_pos he L (v:=fun i=> -e.getD i 0) (.inr fun _=>rfl) (fun j=>by have:=hw j;exact z258 this.1 this.2) hi (z57 q)
  ·by_cases z:0<x.getD i 0
   ·rw [((L.hit (fun f hf=>by rw [List.mem_singleton.mp hf];exact he) (is:=[i]) (by simp) (fun j hj=>List.mem_singleton.mp hj▸hi) (fun j=>by
     by_cases q:i=j
     ·subst q;rw [List.count_cons_self];exact z
     ·rw [List.count_cons_of_ne q];exact L.row.pos j) fun f hf=>by rw [List.mem_singleton.mp hf];simpa using q).1 i)];simp;exact z177 w1
   ·exact z396 z
  ·exact entry_pos he L (v:=fun i=>e.getD i 0) (.inl fun _=>rfl) hw hi q
 ·rw [Row.beyond L.row (z12 hi)];exact z289
end Mine
namespace Mine
end Mine
namespace Mine
end Mine
namespace Mine
end Mine
namespace Mine
end Mine
namespace Mine
end Mine
namespace Mine
end Mine
namespace Mine
end Mine
namespace Mine
theorem few3 {E:List (List Int)}{n:Nat}(h3:n<=3)(hE:∀e∈E,e.length=n)(hm:E.length<=3)(hw:∀e∈E,∀x∈e,-20<=x/\x<=20){l:List (List Int)}(nd:l.Nodup)(hl:∀s∈l,Least E n s):l.length<64:=by
 obtain ⟨F,k,hs,hk,D,hK⟩:=basis n E
 have hF:=fun e he=>hE e (hs.subset he)
 have hw:=fun e he=>hw e (hs.subset he)
 have hl:=fun s h=>(hl s h).via hE hs hK
 rcases F with _| ⟨e,_| ⟨f,F⟩⟩
 ·exact count_sum (z397 h3) nd hl fun s hs=>sum_none (hl s hs)
 ·have D2:Dm (Ker n [e]) 2:=by
   have:k=0\/k=1\/k=2:=by simp at hk;exact z398 hk h3
   rcases this with rfl| rfl| rfl
   ·exact D.mono.mono
   ·exact D.mono
   ·exact D
  refine Nat.lt_of_le_of_lt (D2.count (k:=1) (B:=42) hF nd hl fun s hs i=>Int.le_trans (get_le_sum (hl s hs).row i) ?_) (by decide)
  refine most_of (once:=false) (K:=42) hF (fun R v x=> ?_) (hl s hs) fun q=>by contradiction
  have e1:([1]:List Int).map (fun a=>e.map (a*·))=[e]:=by simp
  exact level_line (w:=20) (hF e (.head _)) (fun y hy=>hw e (.head _) y hy) R v (e1▸x)
 ·have D1:Dm (Ker n (e::f::F)) 1:=by
   have:k=0\/k=1:=by simp at hk;exact z399 hk h3
   rcases this with rfl| rfl
   ·exact D.mono
   ·exact D
  exact few1 D1 hF nd hl
theorem few4_one {e:List Int}(he:e.length=4)(hw:∀i,-6<=e.getD i 0/\e.getD i 0<=6){l:List (List Int)}(nd:l.Nodup)(hl:∀s∈l,Least [e] 4 s):l.length<64:=by
 have hE:∀f∈[e],f.length=4:=fun f hf=>by rw [List.mem_singleton.mp hf];exact he
 obtain ⟨F,k,hs,hk,D,hK⟩:=basis 4 [e]
 have hsl:=hs.length_le
 have hl2:=fun s h=>(hl s h).via hE hs hK
 rcases F with _| ⟨f,_| ⟨f2,F⟩⟩
 ·exact count_sum (by decide) nd hl2 fun s hs=>sum_none (hl2 s hs)
 ·have:f=e:=List.mem_singleton.mp (hs.subset (.head _))
  subst this
  have:k=3:=by simp at hk;exact z400 hk
  subst this
  exact Nat.lt_of_le_of_lt (D.count (k:=2) (B:=6) hE nd hl2 fun s hs i=>entry_le (w:=6) he (hl2 s hs) hw (by decide) i) (by decide)
 ·simp at hsl
theorem count_at {l:List (List Int)}{i b:Nat}(nd:l.Nodup)(hb:∀s∈l,0<=s.getD i 0/\s.getD i 0<=b)(inj:∀s∈l,∀t∈l,s.getD i 0=t.getD i 0->s=t):l.length<=b+1:=by
 have:=length_le_of_nodup (l:=l.map fun s=>s.getD i 0) (F:=(List.range (b+1)).map fun (k:Nat)=>(k:Int)) (by
  rw [List.Nodup,List.pairwise_map]
  exact List.Pairwise.imp_of_mem (fun {s t} hs ht ne e=>ne (inj s hs t ht e)) nd) fun x hx=>by
  obtain ⟨s,hs,rfl⟩:=List.mem_map.mp hx
  have:=hb s hs
  exact List.mem_map.mpr ⟨(s.getD i 0).toNat,List.mem_range.mpr (z401 this.2),z374 this.1⟩
 rwa [List.length_map,List.length_map,List.length_range] at this
noncomputable def crs (e f:List Int):Nat->Int
 | 0=>e.getD 1 0*f.getD 2 0-e.getD 2 0*f.getD 1 0
 | 1=>e.getD 2 0*f.getD 0 0-e.getD 0 0*f.getD 2 0
 | 2=>e.getD 0 0*f.getD 1 0-e.getD 1 0*f.getD 0 0
 | _=>0
noncomputable def d3 (e s:List Int):Int:=e.getD 0 0*s.getD 0 0+e.getD 1 0*s.getD 1 0+e.getD 2 0*s.getD 2 0
theorem dot_d3 {e s:List Int}(he:e.length=4)(hs:s.length=4):dot e s=d3 e s+e.getD 3 0*s.getD 3 0:=by
 rw [dot_eq_sumN (by exact (he ..).trans (hs ..).symm),hs,sumN_succ,sumN_succ,sumN_succ,sumN_succ,sumN_zero,Int.zero_add];rfl
theorem crs_eq (e f s:List Int):∀i j,i<3->j<3->i=j\/∃k,k<3/\(s.getD i 0*crs e f j-s.getD j 0*crs e f i=e.getD k 0*d3 f s-f.getD k 0*d3 e s\/s.getD i 0*crs e f j-s.getD j 0*crs e f i= -(e.getD k 0*d3 f s-f.getD k 0*d3 e s)):=by
 intro i j hi hj
 have:i=0\/i=1\/i=2:=z202 hi
 have:j=0\/j=1\/j=2:=z202 hj
 unfold d3
 rcases ‹i=0\/i=1\/i=2› with rfl| rfl| rfl<;>rcases ‹j=0\/j=1\/j=2› with rfl| rfl| rfl
 ·exact .inl rfl
 ·exact .inr ⟨2,by decide,.inl (by simp only [crs];grind)⟩
 ·exact .inr ⟨1,by decide,.inr (by simp only [crs];grind)⟩
 ·exact .inr ⟨2,by decide,.inr (by simp only [crs];grind)⟩
 ·exact .inl rfl
 ·exact .inr ⟨0,by decide,.inl (by simp only [crs];grind)⟩
 ·exact .inr ⟨1,by decide,.inl (by simp only [crs];grind)⟩
 ·exact .inr ⟨0,by decide,.inr (by simp only [crs];grind)⟩
 ·exact .inl rfl
theorem few4_two {W:List (List Int)}(hE:∀e∈W,e.length=4)(hw:∀e∈W,∀i,i<3->-2<=e.getD i 0/\e.getD i 0<=2)(ht:∀e∈W,-6<=e.getD 3 0/\e.getD 3 0<=6){e f:List Int}(he:e∈W)(hf:f∈W)(hu:∃k,k<3/\crs e f k≠0)
  {l:List (List Int)} (nd:l.Nodup) (hl:∀s∈l,Least W 4 s/\s.getD 3 0=1):l.length<=25:=by
 have wh:∀{g s},g∈W->s∈l->d3 g s= -g.getD 3 0:=fun hg hs=>by
  have h1:=Even.iff.mp (hl _ hs).1.even _ hg
  simp only [dot_d3 (hE _ hg) (hl _ hs).1.row.len,(hl _ hs).2,Int.mul_one] at h1
  exact z402 h1
 have lean:∀s,s∈l->∀i j,i<3->j<3->-24<=s.getD i 0*crs e f j-s.getD j 0*crs e f i/\s.getD i 0*crs e f j-s.getD j 0*crs e f i<=24:=fun s hs i j hi hj=>by
  rcases crs_eq e f s i j hi hj with rfl| ⟨k,hk,h⟩
  ·rw [Int.sub_self];decide
  ·simp only [wh he hs,wh hf hs] at h
   have m:∀{x y:Int},-2<=x/\x<=2->-6<=y/\y<=6->-12<=x* -y/\x* -y<=12:=fun hx hy=>by
    rcases two_cases hx with rfl| rfl| rfl| rfl| rfl<;>lia
   have a:=m (hw e he k hk) (ht f hf)
   have b:=m (hw f hf k hk) (ht e he)
   exact z408 a.1 b.1 h b.2 a.2
 have diff:∀s t,s∈l->t∈l->∀i j,i<3->j<3->(s.getD i 0-t.getD i 0)*crs e f j=(s.getD j 0-t.getD j 0)*crs e f i:=fun s t hs ht i j hi hj=>by
  have h1:=crs_eq e f s i j hi hj
  have h2:=crs_eq e f t i j hi hj
  rw [Int.sub_mul,Int.sub_mul]
  have:i=0\/i=1\/i=2:=z202 hi
  have:j=0\/j=1\/j=2:=z202 hj
  have e1:=wh he hs
  have e2:=wh he ht
  have f1:=wh hf hs
  have f2:=wh hf ht
  unfold d3 at e1 e2 f1 f2
  rcases ‹i=0\/i=1\/i=2› with rfl| rfl| rfl<;>rcases ‹j=0\/j=1\/j=2› with rfl| rfl| rfl<;>simp only [crs]<;>grind
 rcases l with _| ⟨s,_| ⟨t,l'⟩⟩
 ·exact Nat.zero_le _
 ·exact Nat.le_trans (Nat.le_refl 1) (by decide)
 ·have hs:s∈s::t::l':=.head _
  have ht':t∈s::t::l':=.tail _ (.head _)
  have ne:s≠t:=fun q=>by rw [List.nodup_cons,q] at nd;exact nd.1 (.head _)
  have ls:=(hl s hs).1
  have lt:=(hl t ht').1
  have l3:s.getD 3 0=t.getD 3 0:=by rw [(hl s hs).2,(hl t ht').2]
  have ex:∀{a b:List Int},Least W 4 a->Least W 4 b->a≠b->a.getD 3 0=b.getD 3 0->∃i,i<3/\b.getD i 0<a.getD i 0:=fun {a b} la lb ne e3=>Classical.byContradiction fun q=>ne (lb.least a la.row la.even la.pos fun i=>by
   by_cases hi:i<3
   ·exact Int.not_lt.mp fun z=>q ⟨i,hi,z⟩
   ·by_cases h3:i=3
    ·rw [h3,e3];exact Int.le_refl _
    ·rw [Row.beyond la.row (z409 hi h3),Row.beyond lb.row (z409 hi h3)];decide)
  obtain ⟨i,hi,di⟩:=ex ls lt ne l3
  obtain ⟨j,hj,dj⟩:=ex lt ls ne.symm l3.symm
  have dd:=diff s t hs ht' i j hi hj
  have ui:crs e f i≠0:=fun z=>by
   obtain ⟨k,hk,hku⟩:=hu
   have:=diff s t hs ht' i k hi hk
   rw [z,Int.mul_zero] at this
   rcases Int.mul_eq_zero.mp this with q| q
   ·exact z410 q di
   ·exact hku q
  have opp':(1<=crs e f i/\crs e f j<=-1)\/(crs e f i<=-1/\1<=crs e f j):=by
   generalize ha:s.getD i 0-t.getD i 0=a at*
   generalize hb:s.getD j 0-t.getD j 0=b at*
   generalize crs e f i=p at*
   generalize crs e f j=r at*
   have a0:0<a:=z411 ha di
   have b0:b<0:=z412 hb dj
   rcases Int.lt_or_gt_of_ne ui with q| q
   ·right
    have h1:0<b*p:=by
     have:=Int.mul_pos (show 0< -b by exact z57 b0) (show 0< -p by exact z57 q)
     rwa [Int.neg_mul_neg] at this
    refine ⟨z413 q,Classical.byContradiction fun n=> ?_⟩
    have:=Int.mul_nonneg (show 0<=a by exact z414 ha di) (show 0<=-r by exact z415 n)
    rw [Int.mul_neg] at this;exact z416 h1 this dd
   ·left
    have h1:b*p<0:=by
     have:=Int.mul_pos (show 0< -b by exact z57 b0) q
     rw [Int.neg_mul] at this;exact z417 this
    refine ⟨z172 q,Classical.byContradiction fun n=> ?_⟩
    have:=Int.mul_nonneg (show 0<=a by exact z414 ha di) (show 0<=r by exact z418 n)
    exact z419 h1 dd this
  refine count_at (i:=i) (b:=24) nd (fun y hy=>⟨(hl y hy).1.row.pos i,?_⟩) fun y hy z hz e0=> ?_
  ·have hb:=lean y hy i j hi hj
   have yi:=(hl y hy).1.row.pos i
   have yj:=(hl y hy).1.row.pos j
   rcases opp' with ⟨h1,h2⟩| ⟨h1,h2⟩
   ·have:=opp yi yj h1 h2 hb;exact z420 yj this
   ·have:=opp (B:=24) yj yi h2 h1 (z421 hb.1 hb.2);exact z422 yj this
  ·have z3:y.getD 3 0=z.getD 3 0:=by rw [(hl y hy).2,(hl z hz).2]
   refine ext_get (by rw [(hl y hy).1.row.len,(hl z hz).1.row.len]) fun k hk=> ?_
   rw [(hl y hy).1.row.len] at hk
   by_cases k3:k<3
   ·have:=diff y z hy hz k i k3 hi
    rw [show y.getD i 0-z.getD i 0=0 by exact z423 e0,Int.zero_mul] at this
    rcases Int.mul_eq_zero.mp this with q| q
    ·exact z424 q
    ·exact absurd q ui
   ·rw [show k=3 by exact z425 hk k3];exact z3
theorem few4 {W:List (List Int)}(hE:∀e∈W,e.length=4)(hw:∀e∈W,∀i,i<3->-2<=e.getD i 0/\e.getD i 0<=2)(ht:∀e∈W,-6<=e.getD 3 0/\e.getD 3 0<=6){l:List (List Int)}(nd:l.Nodup)(hl:∀s∈l,Least W 4 s/\s.getD 3 0=1):l.length<64:=by
 by_cases hu:∃e∈W,∃f∈W,∃k,k<3/\crs e f k≠0
 ·obtain ⟨e,he,f,hf,hk⟩:=hu
  exact Nat.lt_of_le_of_lt (few4_two hE hw ht he hf hk nd hl) (by decide)
 have par:=fun e he f hf k hk=>Classical.byContradiction fun q=>hu ⟨e,he,f,hf,k,hk,q⟩
 rcases l with _| ⟨s,l⟩
 ·exact Nat.zero_lt_succ _
 ·have ls:=(hl s (.head _)).1
  have wh:∀{g},g∈W->g.getD 3 0= -d3 g s:=fun hg=>by
   have h1:=Even.iff.mp ls.even _ hg
   simp only [dot_d3 (hE _ hg) ls.row.len,((hl s (.head _)).2),Int.mul_one] at h1
   exact z183 h1
  by_cases hz:∃e∈W,∃k,k<3/\e.getD k 0≠0
  ·obtain ⟨e,he,k,hk,hne⟩:=hz
   have c01:∀{f},f∈W->e.getD 1 0*f.getD 2 0=e.getD 2 0*f.getD 1 0/\e.getD 2 0*f.getD 0 0=e.getD 0 0*f.getD 2 0/\e.getD 0 0*f.getD 1 0=e.getD 1 0*f.getD 0 0:=fun {f} hf=>by
    have h0:=par e he f hf 0 (by decide)
    have h1:=par e he f hf 1 (by decide)
    have h2:=par e he f hf 2 (by decide)
    simp only [crs] at h0 h1 h2
    exact z426 h0 h2 h1
   have full:∀{f},f∈W->∀j,j<4->e.getD k 0*f.getD j 0=f.getD k 0*e.getD j 0:=fun {f} hf j hj=>by
    obtain ⟨h0,h1,h2⟩:=c01 hf
    have t3:∀j,j<3->e.getD k 0*f.getD j 0=f.getD k 0*e.getD j 0:=fun j hj=>by
     have:k=0\/k=1\/k=2:=z202 hk
     have:j=0\/j=1\/j=2:=z202 hj
     rcases ‹k=0\/k=1\/k=2› with rfl| rfl| rfl<;>rcases ‹j=0\/j=1\/j=2› with rfl| rfl| rfl<;>grind
    by_cases q:j<3
    ·exact t3 j q
    ·have:j=3:=z425 hj q
     subst this
     simp only [wh hf,wh he,Int.mul_neg,Int.mul_neg]
     have a0:=t3 0 (by decide)
     have a1:=t3 1 (by decide)
     have a2:=t3 2 (by decide)
     unfold d3
     rw [Int.mul_add,Int.mul_add,Int.mul_add,Int.mul_add,<-Int.mul_assoc,<-Int.mul_assoc,<-Int.mul_assoc,<-Int.mul_assoc,<-Int.mul_assoc,<-Int.mul_assoc,a0,a1,a2]
   have tell:∀v,Ker 4 [e] v->Ker 4 W v:=fun v ⟨h1,h2⟩=>⟨h1,fun f hf=>by
    have he0:=h2 e (.head _)
    have h3:e.getD k 0*ev 4 f v=f.getD k 0*ev 4 e v:=by
     unfold ev
     rw [<-sumN_mul,<-sumN_mul]
     exact sumN_congr fun j hj=>by rw [<-Int.mul_assoc,<-Int.mul_assoc,full hf j hj]
    rw [he0,Int.mul_zero] at h3
    exact (Int.mul_eq_zero.mp h3).resolve_left hne⟩
   exact few4_one (hE e he) ((fun e he i=>by
  by_cases hi:i<3
  ·have:=hw e he i hi;exact z427 this.1 this.2
  ·by_cases h3:i=3
   ·rw [h3];exact ht e he
   ·rw [List.getD_eq_getElem?_getD,List.getElem?_eq_none (by rw [hE e he];exact z409 hi h3)];decide:∀e∈W,∀i,-6<=e.getD i 0/\e.getD i 0<=6) e he) nd fun t ht=>((hl t ht).1.via hE (List.singleton_sublist.mpr he) tell)
  ·have z0:∀e∈W,∀k,k<3->e.getD k 0=0:=fun e he k hk=>Classical.byContradiction fun q=>hz ⟨e,he,k,hk,q⟩
   have tell:∀v,Ker 4 [] v->Ker 4 W v:=fun v ⟨h1,_⟩=>⟨h1,fun f hf=>by
    have h3:f.getD 3 0=0:=by
     rw [wh hf];unfold d3
     rw [z0 f hf 0 (by decide),z0 f hf 1 (by decide),z0 f hf 2 (by decide)]
     simp
    unfold ev
    rw [sumN_succ,sumN_succ,sumN_succ,sumN_succ,sumN_zero,z0 f hf 0 (by decide),z0 f hf 1 (by decide),z0 f hf 2 (by decide),h3]
    simp⟩
   have hl2:∀t∈s::l,Least [] 4 t:=fun t ht=>(hl t ht).1.via hE (List.nil_sublist _) tell
   exact count_sum (by decide) nd hl2 fun t ht=>sum_none (hl2 t ht)
end Mine
namespace Mine
theorem sum_begin {n:Nat}{x e:List Int}(he:e.length=n+1)(hw:∀i,i<n->-2<=e.getD i 0/\e.getD i 0<=2)(ht: -3<=e.getD n 0/\e.getD n 0<=3)(L:Least [e] (n+1) x)(h1:x.getD n 0=1):x.sum<=4:=by
 let c:Nat->Int × Bool:=fun i=>(e.getD i 0,decide (i=n))
 let all:List (Int × Bool):=[(0,false),(1,false),(-1,false),(2,false),(-2,false),(e.getD n 0,true)]
 have nd:all.Nodup:=by simp [all]
 have hc:∀i,i<n+1->c i∈all:=fun i hi=>by
  by_cases q:i=n
  ·cases q;simp [c,all]
  ·have:=hw i (z6 hi q)
   show (e.getD i 0,decide (i=n))∈all
   rw [(decide_eq_false q)]
   rcases (z81 this.1 this.2) with h| h| h| h| h<;>rw [h]<;>simp [all]
 have tn:=fun t=>tot_nonneg (n:=n+1) (c:=c) (x:=fun i=>x.getD i 0) (fun i=>L.row.pos i) t
 have fin:∀ts:List ((Int × Bool) × Nat),okT 3 3 [Prod.fst] ts=true->Has (tot (n+1) c fun i=>x.getD i 0) ts->x.sum<=4:=fun ts ok h=>by
  have:=(L.take (fun f hf=>by rw [List.mem_singleton.mp hf];exact he) (c:=c) (ws:=[Prod.fst]) (fun f hf=>⟨Prod.fst,.head _,fun i=>by rw [List.mem_singleton.mp hf]⟩) ts ok h).2
  exact z428 this
 have s0:=tot_sum (x:=fun i=>x.getD i 0) (fun t=>t.1) nd hc
 have s1:=tot_sum (x:=fun i=>x.getD i 0) (fun _=>1) nd hc
 have s2:=tot_sum (x:=fun i=>x.getD i 0) (fun t=>if t.2=true then 1 else 0) nd hc
 have z:sumN (n+1) (fun i=>(c i).1*x.getD i 0)=0:=by
  have:=Even.iff.mp L.even e (.head _)
  rwa [dot_eq_sumN (by exact (he ..).trans (L.row.len ..).symm),L.row.len] at this
 have zs:sumN (n+1) (fun i=>1*x.getD i 0)=x.sum:=by
  simp only [L.row.sum];exact sumN_congr fun i _=>Int.one_mul _
 have zl:sumN (n+1) (fun i=>(if (c i).2=true then 1 else 0)*x.getD i 0)=1:=by
  have:=sumN_one (n:=n+1) (p:=n) z429 (fun i=>x.getD i 0)
  simp only [h1] at this
  refine (sumN_congr fun i _=> ?_).trans this
  rw [Int.mul_comm]
  show x.getD i 0*(if decide (i=n)=true then 1 else 0)=_
  by_cases q:i=n
  ·rw [if_pos (decide_eq_true q),if_pos q]
  ·rw [if_neg (by rw [decide_eq_false q];decide),if_neg q]
 rw [z] at s0
 rw [zs] at s1
 rw [zl] at s2
 simp only [all,List.map_cons,List.map_nil,List.sum_cons,List.sum_nil,Bool.false_eq_true,if_false,if_true] at s0 s1 s2
 have t0:=tn (0,false)
 have t1:=tn (1,false)
 have tm:=tn (-1,false)
 have t2:=tn (2,false)
 have tw:=tn (-2,false)
 by_cases k0:1<=tot (n+1) c (fun i=>x.getD i 0) (0,false)
 ·exact fin [((0,false),1)] (by decide) ⟨k0,trivial⟩
 by_cases k1:1<=tot (n+1) c (fun i=>x.getD i 0) (1,false)/\1<=tot (n+1) c (fun i=>x.getD i 0) (-1,false)
 ·exact fin [((1,false),1),((-1,false),1)] (by decide) ⟨k1.1,k1.2,trivial⟩
 by_cases k2:1<=tot (n+1) c (fun i=>x.getD i 0) (2,false)/\1<=tot (n+1) c (fun i=>x.getD i 0) (-2,false)
 ·exact fin [((2,false),1),((-2,false),1)] (by decide) ⟨k2.1,k2.2,trivial⟩
 by_cases k3:2<=tot (n+1) c (fun i=>x.getD i 0) (1,false)/\1<=tot (n+1) c (fun i=>x.getD i 0) (-2,false)
 ·exact fin [((1,false),2),((-2,false),1)] (by decide) ⟨k3.1,k3.2,trivial⟩
 by_cases k4:1<=tot (n+1) c (fun i=>x.getD i 0) (2,false)/\2<=tot (n+1) c (fun i=>x.getD i 0) (-1,false)
 ·exact fin [((2,false),1),((-1,false),2)] (by decide) ⟨k4.1,k4.2,trivial⟩
 have s2':tot (n+1) c (fun i=>x.getD i 0) (e.getD n 0,true)=1:=z430 s2
 rw [s2',Int.mul_one] at s0 s1
 generalize tot (n+1) c (fun i=>x.getD i 0) (0,false)=a at*
 generalize tot (n+1) c (fun i=>x.getD i 0) (1,false)=b at*
 generalize tot (n+1) c (fun i=>x.getD i 0) (-1,false)=d at*
 generalize tot (n+1) c (fun i=>x.getD i 0) (2,false)=f at*
 generalize tot (n+1) c (fun i=>x.getD i 0) (-2,false)=g at*
 clear fin tn hc nd z zs zl s2
 exact z431 ht.1 s0 t2 tw s1 ht.2 k0 k1 k2 k4 k3
theorem count_begin {n:Nat}(h5:n<=5){l:List (List Int)}(nd:l.Nodup)(hl:∀s∈l,Row (n+1) s/\s.getD n 0=1/\s.sum<=4):l.length<64:=by
 refine Nat.lt_of_le_of_lt ?_ (rowsTo_len n h5)
 have:=length_le_of_nodup (l:=l.map fun s=>s.take n) (F:=rowsTo n 3) (by
  rw [List.Nodup,List.pairwise_map]
  refine List.Pairwise.imp_of_mem (fun {s t} hs ht ne e=>ne ?_) nd
  refine ext_get (by exact ((hl s hs).1.len ..).trans ((hl t ht).1.len ..).symm) fun i hi=> ?_
  rw [(hl s hs).1.len] at hi
  by_cases q:i<n
  ·have k:∀u:List Int,(u.take n).getD i 0=u.getD i 0:=fun u=>by
    rw [List.getD_eq_getElem?_getD,List.getD_eq_getElem?_getD,List.getElem?_take,if_pos q]
   simp only [<-k s,<-k t,e]
  ·simp only [show i=n by exact z26 hi q,(hl s hs).2.1,(hl t ht).2.1]) fun x hx=>by
  obtain ⟨s,hs,rfl⟩:=List.mem_map.mp hx
  obtain ⟨r,e1,e4⟩:=hl s hs
  have hsum:s.sum=(s.take n).sum+1:=by
   conv=>lhs;rw [<-List.take_append_drop n s]
   rw [List.sum_append]
   have:s.drop n=[1]:=by
    match hh:s.drop n,(by rw [List.length_drop,r.len];exact z433:(s.drop n).length=1) with
    | [y],_=>
     have:s.getD n 0=y:=by
      rw [List.getD_eq_getElem?_getD,<-Nat.add_zero n,<-List.getElem?_drop,hh];rfl
     rw [e1] at this;rw [this]
   rw [this];rfl
  have:=mem_rowsTo (v:=s.take n) (s:=3) (fun y hy=>r.mem y (List.mem_of_mem_take hy)) (z434 hsum e4)
  rwa [(by rw [List.length_take,r.len];exact z432:(s.take n).length=n)] at this
 rwa [List.length_map] at this
theorem Fits.level9 {W:List (List Int)}{n:Nat}(hE:∀e∈W,e.length=n+1)(hc:∀R v,Alive W (n+1) true R v->∀j,v.getD j 0<=8)(h5:n<=5):Fits W (n+1) true:=by
 refine Fits.of (bs:=List.replicate n 9) (K:=48) hE (by simp) (fun R v x=> ?_) (fun R v x i hi=> ?_) ?_
 ·rw [x.reach.row.sum]
  have h:=sumN_mono (n:=n+1) (f:=fun i=>v.getD i 0) (g:=fun _=>8) fun i _=>hc R v x i
  have:∀m:Nat,sumN m (fun _=>8)=8*m:=fun m=>by
   induction m with
   | zero=>rfl
   | succ m ih=>rw [sumN_succ,ih];exact z435
  simp only [this] at h
  exact z436 h h5
 ·rw [List.length_replicate] at hi
  have:=hc R v x (i+1)
  rw [List.getD_eq_getElem?_getD (l:=List.replicate n 9),List.getElem?_replicate,if_pos hi]
  exact z437 this
 ·have:∀(m b:Nat),(List.replicate m b).foldr (· *·) 1=b^m:=by
   intro m b
   induction m with
   | zero=>rfl
   | succ m ih=>simp only [List.replicate_succ,List.foldr_cons,ih,Nat.pow_succ,Nat.mul_comm]
  rw [this]
  exact Nat.le_trans (Nat.pow_le_pow_right (by decide) h5) (by decide)
theorem Fits.cap {W:List (List Int)}{n:Nat}(h3:n=3\/n=4\/n=5)(hE:∀e∈W,e.length=n+1)(hc:∀R v,Reach W (n+1) true R v->∀j,j<n->dot (wor W v) (col W (n+1) j)<0->v.getD j 0<8):Fits W (n+1) true:=by
 have cap:∀{R v},Reach W (n+1) true R v->∀j,v.getD j 0<=8:=fun {R v} x=>by
  have k:=(x.inv (P:=fun v=>∀j,j<n->v.getD j 0<=8) (fun j hj i hi=>by rw [unit_get' hj];split<;>decide) fun R v j y hv ne hj hd _ i hi=>by
   rw [step_get y.row hj]
   split
   ·rename_i q
    subst q
    have:=hc R v y i hi hd
    exact z107 this
   ·exact z132 (hv i hi)).1
  intro j
  by_cases hj:j<n
  ·exact k j hj
  ·by_cases q:j=n
   ·have:v.getD (n+1-1) 0<2:=x.last rfl
    rw [q];exact z438 this
   ·rw [Row.beyond x.row (z439 hj q)];decide
 refine Fits.level9 hE (fun R v x=>cap x.reach) ?_
 exact z440 h3
end Mine
namespace Mine
theorem mostN_anti {n m m':Nat}(h:m<=m'):mostN n m'<=mostN n m:=by
 unfold mostN
 repeat' split
 all_goals lia
end Mine
namespace Mine
end Mine
namespace Mine
theorem dot_append {a b a' b':List Int}(h:a.length=a'.length):dot (a++b) (a'++b')=dot a a'+dot b b':=by
 simp [dot,List.zip_append h]
theorem Le.append {a b a' b':List Int}(h:a.length=a'.length):Le (a++b) (a'++b')↔Le a a'/\Le b b':=by
 have g1:∀(a b:List Int) (i:Nat),i<a.length->(a++b).getD i 0=a.getD i 0:=fun a b i hi=>by
  simp only [List.getD_eq_getElem?_getD];rw [List.getElem?_append_left hi]
 have g2:∀(a b:List Int) (i:Nat),(a++b).getD (a.length+i) 0=b.getD i 0:=fun a b i=>by
  rw [List.getD_eq_getElem?_getD];rw [List.getElem?_append_right (by simp)];congr 2;simp
 have g3:∀(a:List Int) (i:Nat),a.length<=i->a.getD i 0=0:=fun a i hi=>by
  rw [List.getD_eq_getElem?_getD];rw [List.getElem?_eq_none hi];rfl
 constructor
 ·intro q
  refine ⟨fun i=> ?_,fun i=> ?_⟩
  ·by_cases hi:i<a.length
   ·have:=q i;rw [g1 _ _ _ hi,g1 _ _ _ (z39 hi h)] at this;exact this
   ·simp only [g3 a i (z12 hi),g3 a' i (z40 h hi)];exact Int.le_refl _
  ·have:=q (a.length+i)
   rw [g2,h,g2] at this;exact this
 ·rintro ⟨q1,q2⟩ i
  by_cases hi:i<a.length
  ·rw [g1 _ _ _ hi,g1 _ _ _ (z39 hi h)];exact q1 i
  ·obtain ⟨k,rfl⟩:∃k,i=a.length+k:=⟨i-a.length,z41 hi⟩
   rw [g2,h,g2];exact q2 k
end Mine
namespace Mine
noncomputable def widR (E:List (List Int))(t:List Int):List (List Int):=(E.zip t).map fun q=>q.1++[-q.2]
structure Beg (E:List (List Int))(n:Nat)(t:List Int):Prop where
 fits:Fits (widR E t) (n+1) true
 few:∀l:List (List Int),l.Nodup->(∀s∈l,Least (widR E t) (n+1) s/\s.getD n 0=1)->l.length<64
section
variable {E:List (List Int)} {n:Nat} {t:List Int}
theorem widR_mem {f:List Int}(h:f∈widR E t):∃e τ,e∈E/\τ∈t/\f=e++[-τ]:=by
 obtain ⟨q,hq,rfl⟩:=List.mem_map.mp h
 obtain ⟨h1,h2⟩:=List.of_mem_zip hq
 exact ⟨q.1,q.2,h1,h2,rfl⟩
theorem widR_len (hE:∀e∈E,e.length=n):∀f∈widR E t,f.length=n+1:=fun f hf=>by
 obtain ⟨e,τ,he,_,rfl⟩:=widR_mem hf
 rw [List.length_append,hE e he];rfl
theorem snoc_get {e:List Int}{τ:Int}(he:e.length=n)(i:Nat):(e++[τ]).getD i 0=if i=n then τ else e.getD i 0:=by
 rw [List.getD_eq_getElem?_getD,List.getElem?_append,he]
 by_cases h:i<n
 ·rw [if_pos h,if_neg (z8 h),List.getD_eq_getElem?_getD]
 ·rw [if_neg h]
  by_cases q:i=n
  ·subst q;rw [if_pos rfl,Nat.sub_self];rfl
  ·rw [if_neg q,List.getElem?_eq_none (by exact z441 h q),List.getD_eq_getElem?_getD,List.getElem?_eq_none (z442 he h)]
theorem widR_get (hE:∀e∈E,e.length=n){w k:Int}(hw:∀e∈E,∀x∈e,-w<=x/\x<=w)(ht:∀τ∈t,-k<=τ/\τ<=k)(w0:0<=w):∀f∈widR E t,(∀i,i≠n->-w<=f.getD i 0/\f.getD i 0<=w)/\-k<=f.getD n 0/\f.getD n 0<=k:=fun f hf=>by
 obtain ⟨e,τ,he,hτ,rfl⟩:=widR_mem hf
 have e1:=snoc_get (τ:= -τ) (hE e he)
 constructor
 ·intro i hi
  rw [e1 i,if_neg hi]
  by_cases q:i<e.length
  ·exact hw e he _ (get_mem q)
  ·rw [List.getD_eq_getElem?_getD,List.getElem?_eq_none (z12 q)]
   exact z443 w0
 ·rw [e1 n,if_pos rfl]
  have:=ht τ hτ
  exact z258 this.1 this.2
theorem widR_all (hE:∀e∈E,e.length=n){w:Int}(hw:∀e∈E,∀x∈e,-w<=x/\x<=w)(ht:∀τ∈t,-w<=τ/\τ<=w):∀f∈widR E t,∀x∈f,-w<=x/\x<=w:=fun f hf x hx=>by
 obtain ⟨e,τ,he,hτ,rfl⟩:=widR_mem hf
 rcases List.mem_append.mp hx with h| h
 ·exact hw e he x h
 ·rw [List.mem_singleton.mp h]
  have:=ht τ hτ
  exact z258 this.1 this.2
theorem widR_many (hm:E.length<=3):(widR E t).length<=3:=by
 unfold widR;rw [List.length_map,List.length_zip];exact z444 hm
theorem Beg.small (hn:n=1\/n=2)(hE:∀e∈E,e.length=n)(hm:E.length<=3)(hw:∀e∈E,∀x∈e,-20<=x/\x<=20)(ht:∀τ∈t,-20<=τ/\τ<=20):Beg E n t:=by
 have ha:=widR_all hE hw ht
 have hl:=widR_len (t:=t) hE
 rcases hn with rfl| rfl
 ·exact ⟨Fits.size2 hl (widR_many hm) ha,fun l nd h=>few3 (by decide) hl (widR_many hm) ha nd fun s hs=>(h s hs).1⟩
 ·exact ⟨Fits.size2w hl (widR_many hm) ha,fun l nd h=>few3 (by decide) hl (widR_many hm) ha nd fun s hs=>(h s hs).1⟩
theorem Beg.three (hE:∀e∈E,e.length=3)(hm:E.length<=3)(hw:∀e∈E,∀x∈e,-2<=x/\x<=2)(ht:∀τ∈t,-6<=τ/\τ<=6):Beg E 3 t:=by
 have hg:=widR_get hE hw ht (by decide)
 have hl:=widR_len (t:=t) hE
 exact ⟨Fits.size3w hl (widR_many hm) (fun f hf i hi=>(hg f hf).1 i (z445 hi)) fun f hf=>(hg f hf).2,fun l nd h=>few4 hl (fun f hf i hi=>(hg f hf).1 i (z445 hi)) (fun f hf=>(hg f hf).2) nd h⟩
theorem Beg.none (h5:n<=5):Beg [] n []:=
 ⟨Fits.none z446 (z447 h5),fun l nd h=>count_begin h5 nd fun s hs=>⟨(h s hs).1.row,(h s hs).2,by exact z448 (sum_none (h s hs).1)⟩⟩
structure One (E:List (List Int))(n:Nat)(t:List Int)(e:List Int)(τ:Int):Prop where
 len:e.length=n
 eq:∃as:List Int,widR E t=as.map fun a=>(e++[-τ]).map (a*·)
 mem:e++[-τ]∈widR E t
theorem One.one {e:List Int}{τ:Int}(he:e.length=n):One [e] n [τ] e τ:=⟨he,⟨[1],by simp [widR]⟩,.head _⟩
theorem One.two {e:List Int}{τ:Int}(he:e.length=n):One [e,List.replicate n 0] n [τ,0] e τ:=⟨he,⟨[1,0],by
 have:(e++[-τ]).map (0*·)=List.replicate n 0++[-0]:=by
  rw [List.map_append]
  congr 1
  ·rw [<-he]
   refine ext_get (by simp) fun i hi=> ?_
   rw [List.length_map] at hi
   simp [hi]
  ·simp
 simp only [List.map_cons,this,(by simp:(e++[-τ]).map (1*·)=e++[-τ])]
 rfl⟩,.head _⟩
variable {e:List Int} {τ:Int}
theorem One.least (O:One E n t e τ){s:List Int}(hE:∀e∈E,e.length=n)(L:Least (widR E t) (n+1) s):Least [e++[-τ]] (n+1) s:=by
 obtain ⟨as,ha⟩:=O.eq
 refine L.via (widR_len hE) (List.singleton_sublist.mpr O.mem) fun v ⟨h1,h2⟩=>⟨h1,fun f hf=> ?_⟩
 rw [ha] at hf
 obtain ⟨a,_,rfl⟩:=List.mem_map.mp hf
 have:ev (n+1) ((e++[-τ]).map (a*·)) v=a*ev (n+1) (e++[-τ]) v:=by
  unfold ev
  rw [<-sumN_mul]
  refine sumN_congr fun i _=> ?_
  have:((e++[-τ]).map (a*·)).getD i 0=a*(e++[-τ]).getD i 0:=by
   rw [List.getD_eq_getElem?_getD,List.getElem?_map,List.getD_eq_getElem?_getD]
   cases (e++[-τ])[i]? with
   | none=>exact (Int.mul_zero a).symm
   | some y=>rfl
  simp only [this,Int.mul_assoc]
 simp only [this,(h2 _ (.head _)),Int.mul_zero]
theorem Beg.line3 (O:One E 3 t e τ)(hE:∀e∈E,e.length=3)(hw:∀x∈e,-6<=x/\x<=6)(ht: -6<=τ/\τ<=6):Beg E 3 t:=by
 have hl:(e++[-τ]).length=4:=by rw [List.length_append,O.len];rfl
 have hb:∀x∈e++[-τ],-((6:Nat):Int)<=x/\x<=(6:Nat):=fun x hx=>by
  rcases List.mem_append.mp hx with h| h
  ·exact hw x h
  ·exact (List.mem_singleton.mp h)▸z449 ht.1 ht.2
 constructor
 ·obtain ⟨as,ha⟩:=O.eq
  rw [ha]
  exact Fits.line (w:=6) hl (by decide) hb (by decide)
 ·exact fun l nd h=>few4_one hl (fun i=>by
   by_cases q:i<(e++[-τ]).length
   ·exact hb _ (get_mem q)
   ·rw [List.getD_eq_getElem?_getD,List.getElem?_eq_none (z12 q)];decide) nd fun s hs=>O.least hE (h s hs).1
theorem Beg.line45 (h5:n<=5)(O:One E n t e τ)(hE:∀e∈E,e.length=n)(hw:∀x∈e,-2<=x/\x<=2)(ht: -3<=τ/\τ<=3):Beg E n t:=by
 have hl:(e++[-τ]).length=n+1:=by rw [List.length_append,O.len];rfl
 have e1:=snoc_get (τ:= -τ) O.len
 constructor
 ·obtain ⟨as,ha⟩:=O.eq
  rw [ha]
  exact Fits.line (w:=3) hl z446 (fun x hx=>by
  rcases List.mem_append.mp hx with h| h
  ·have:=hw x h;exact z450 this.1 this.2
  ·rw [List.mem_singleton.mp h];exact z451 ht.1 ht.2) (Nat.le_trans (Nat.pow_le_pow_right (by decide) (show n+1-1<=5 by exact z452 h5)) (by decide))
 ·exact fun l nd h=>count_begin h5 nd fun s hs=>⟨(h s hs).1.row,(h s hs).2,sum_begin hl (fun i hi=>by
   rw [e1 i,if_neg (z8 hi)]
   exact hw _ (get_mem (by rw [O.len];exact hi))) (by rw [e1 n,if_pos rfl];exact z258 ht.1 ht.2) (O.least hE (h s hs).1) (h s hs).2⟩
end
end Mine
namespace Mine
structure Sol (E:List (List Int))(n:Nat)(t x:List Int):Prop where
 row:Row n x
 eq:∀q∈E.zip t,dot q.1 x=q.2
section
variable {E:List (List Int)} {n:Nat} {t x y:List Int}
theorem snoc_row {k:Int}(r:Row n x)(h:0<=k):Row (n+1) (x++[k]):=.of (by rw [List.length_append,r.len];rfl) fun z hz=>by
 rcases List.mem_append.mp hz with h'| h'
 ·exact r.mem z h'
 ·rw [List.mem_singleton.mp h'];exact h
theorem snoc_sum {k:Int}:(x++[k]).sum=x.sum+k:=by simp
theorem snoc_le {k j:Int}(hx:x.length=n)(hy:y.length=n):Le (x++[k]) (y++[j])↔Le x y/\k<=j:=by
 rw [Le.append (by exact (hx ..).trans (hy ..).symm)]
 refine and_congr_right fun _=>⟨fun h=>h 0,fun h i=> ?_⟩
 match i with
 | 0=>exact h
 | i+1=>simp
theorem row_snoc {s:List Int}(r:Row (n+1) s):s=s.take n++[s.getD n 0]/\Row n (s.take n):=by
 have hl:(s.take n).length=n:=by rw [List.length_take,r.len];exact z432
 refine ⟨?_,.of hl fun z hz=>r.mem z (List.mem_of_mem_take hz)⟩
 refine ext_get (by simp only [List.length_append,hl,r.len];rfl) fun i hi=> ?_
 rw [r.len] at hi
 rw [snoc_get hl]
 by_cases q:i=n
 ·rw [if_pos q,q]
 ·rw [if_neg q,List.getD_eq_getElem?_getD,List.getD_eq_getElem?_getD,List.getElem?_take,if_pos (z6 hi q)]
theorem wid_dot {e:List Int}{τ k:Int}(h:e.length=x.length):dot (e++[-τ]) (x++[k])=dot e x-τ*k:=by
 rw [dot_append h,dot_cons,Int.neg_mul];exact z60
theorem wid_even (hE:∀e∈E,e.length=n)(hx:x.length=n){k:Int}:Even (widR E t) (x++[k])↔∀q∈E.zip t,dot q.1 x=q.2*k:=by
 rw [Even.iff]
 constructor
 ·intro h q hq
  have:=h (q.1++[-q.2]) (List.mem_map_of_mem hq)
  rw [wid_dot (by exact (hE _ (List.of_mem_zip hq).1 ..).trans (hx ..).symm)] at this
  exact z424 this
 ·intro h f hf
  obtain ⟨q,hq,rfl⟩:=List.mem_map.mp hf
  rw [wid_dot (by exact (hE _ (List.of_mem_zip hq).1 ..).trans (hx ..).symm),h q hq]
  exact z453
theorem Sol.iff (hE:∀e∈E,e.length=n)(r:Row n x):Even (widR E t) (x++[1])↔Sol E n t x:=by
 exact (wid_even hE r.len ..).trans (⟨fun h=>⟨r,fun q hq=>by exact (h q hq ..).trans (Int.mul_one ..)⟩,fun h q hq=>by exact (h.eq q hq ..).trans (Int.mul_one ..).symm⟩)
noncomputable def Min (E:List (List Int))(n:Nat)(t x:List Int):Prop:=Least (widR E t) (n+1) (x++[1])
theorem Min.sol (hE:∀e∈E,e.length=n)(h:Min E n t x):Sol E n t x:=by
 exact (Sol.iff hE (.of (by simpa using (h.row.len)) fun z hz=>h.row.mem z (List.mem_append_left _ hz))).mp h.even
theorem Min.le (hE:∀e∈E,e.length=n)(h:Min E n t x)(s:Sol E n t y)(l:Le y x):y=x:=by
 exact List.append_cancel_right (h.least (y++[1]) (snoc_row s.row (by decide)) ((Sol.iff hE s.row).mpr s) (by rw [snoc_sum];exact z454 (s.row.sum_nonneg)) ((snoc_le s.row.len ((h.sol hE).row).len).mpr ⟨l,Int.le_refl _⟩))
theorem Min.of (hE:∀e∈E,e.length=n)(s:Sol E n t x)(h:∀y,Sol E n t y->Le y x->y=x):Min E n t x where
 row:=snoc_row s.row (by decide)
 even:=(Sol.iff hE s.row).mpr s
 pos:=by rw [snoc_sum];have:=s.row.sum_nonneg;exact z454 this
 least:=fun g rg eg pg lg=>by
  obtain ⟨e1,r1⟩:=row_snoc rg
  have g0:=rg.pos n
  rw [e1] at lg eg pg⊢
  generalize g.take n=u at*
  generalize g.getD n 0=k at*
  refine And.elim (fun l1 l2=> ?_) ((snoc_le r1.len s.row.len).mp lg)
  have:k=0\/k=1:=z455 g0 l2
  rcases this with rfl| rfl
  ·have:=h _ (⟨s.row.sub r1 l1,fun q hq=>by
    rw [dot_subR (by rw [s.row.len,r1.len]),s.eq q hq,((wid_even hE r1.len).mp eg) q hq];exact z456⟩) (Le.sub s.row r1)
   have h2:(subR x u).sum=x.sum:=by exact congrArg _ (this ..)
   rw [sum_subR (by rw [s.row.len,r1.len])] at h2
   rw [snoc_sum] at pg
   lia
  ·rw [h u ((Sol.iff hE r1).mp eg) l1]
theorem Sol.below (hE:∀e∈E,e.length=n)(s:Sol E n t x):∃y,Min E n t y/\Le y x:=by
 obtain ⟨y,⟨sy,ly⟩,hmin⟩:=exists_min (P:=fun y=>Sol E n t y/\Le y x) (fun y=>y.sum.toNat) x.sum.toNat (a:=x) (Nat.le_refl _) ⟨s,.refl _⟩
 refine ⟨y,Min.of hE sy fun z sz lz=> ?_,ly⟩
 exact Le.eq sz.row sy.row lz (z457 (sz.row.sum_nonneg) (hmin z ⟨sz,lz.trans ly⟩))
theorem worths_eq (hl:E.length=t.length):E.map (fun e=>dot e x)=t↔∀q∈E.zip t,dot q.1 x=q.2:=by
 induction E generalizing t with
 | nil=>cases t with
  | nil=>simp
  | cons a t=>contradiction
 | cons e E ih=>cases t with
  | nil=>contradiction
  | cons a t=>
   simp only [List.map_cons,List.zip_cons_cons,List.cons.injEq,ih (by simpa using hl)]
   constructor
   ·rintro ⟨h1,h2⟩ q hq
    rcases List.mem_cons.mp hq with rfl| hq
    ·exact h1
    ·exact h2 q hq
   ·exact fun h=>⟨h (e,a) (.head _),fun q hq=>h q (.tail _ hq)⟩
theorem Sol.left (hl:E.length=t.length)(s:Sol E n t x)(u:Sol E n t y):Even E (subR x y):=Even.iff.mpr fun e he=>by
 obtain ⟨i,hi,rfl⟩:=List.mem_iff_getElem.mp he
 have hz:(E[i],t[i]'(z39 hi hl))∈E.zip t:=List.mem_iff_getElem.mpr ⟨i,by rw [List.length_zip];exact z342 hi hl,by exact (List.getElem_zip ..)⟩
 rw [dot_subR (by exact (s.row.len ..).trans (u.row.len ..).symm),s.eq _ hz,u.eq _ hz,Int.sub_self]
theorem Min.nought (hE:∀e∈E,e.length=n)(h0:∀τ∈t,τ=0):Min E n t x↔x=List.replicate n 0:=by
 have z:Sol E n t (List.replicate n 0):=⟨.of (by simp) fun a ha=>by rw [(List.mem_replicate.mp ha).2];decide,fun q hq=>by
  exact (dot_zero_r _ _ fun a ha=>(List.mem_replicate.mp ha).2 ..).trans (h0 q.2 (List.of_mem_zip hq).2 ..).symm⟩
 have le:∀{y},Row n y->Le (List.replicate n 0) y:=fun r i=>by
  rw [List.getD_eq_getElem?_getD,List.getElem?_replicate]
  split<;>exact (r.pos i)
 constructor
 ·exact fun h=>(h.le hE z (le (h.sol hE).row)).symm
 ·rintro rfl
  exact Min.of hE z fun y sy ly=>(Le.eq z.row sy.row (le sy.row) (ly.sum sy.row z.row)).symm
theorem Min.more (hE:∀e∈E,e.length=n)(hl:E.length=t.length):Min (E++[List.replicate n 0]) n (t++[0]) x↔Min E n t x:=by
 have hE2:∀e∈E++[List.replicate n (0:Int)],e.length=n:=fun e he=>by
  rcases List.mem_append.mp he with h| h
  ·exact hE e h
  ·rw [List.mem_singleton.mp h];simp
 have hs:∀y,Sol (E++[List.replicate n 0]) n (t++[0]) y↔Sol E n t y:=fun y=>by
  constructor
  ·exact fun h=>⟨h.row,fun q hq=>h.eq q (by rw [List.zip_append hl];exact List.mem_append_left _ hq)⟩
  ·refine fun h=>⟨h.row,fun q hq=> ?_⟩
   rw [List.zip_append hl] at hq
   rcases List.mem_append.mp hq with z| z
   ·exact h.eq q z
   ·rw [List.mem_singleton.mp z]
    exact (dot_comm ..).trans (dot_zero_r _ _ fun a ha=>(List.mem_replicate.mp ha).2)
 constructor
 ·exact fun h=>Min.of hE ((hs x).mp (h.sol hE2)) fun y sy ly=>h.le hE2 ((hs y).mpr sy) ly
 ·exact fun h=>Min.of hE2 ((hs x).mpr (h.sol hE)) fun y sy ly=>h.le hE ((hs y).mp sy) ly
end
structure Sgl (E:List (List Int))(n:Nat)(t r:List Int):Prop where
 n3:n=3\/n=4\/n=5
 len:∀e∈E,e.length=n
 many:E.length=t.length
 rlen:r.length=n
 one:∀q∈E.zip t,∃p s,p<n/\(s=1\/s= -1)/\(∀i,q.1.getD i 0=if i=p then s else 0)/\r.getD p 0=s*q.2
 rest:∀i,i<n->r.getD i 0≠0->∃q∈E.zip t,q.1.getD i 0≠0
 t8:∀τ∈t,-8<=τ/\τ<=8
section
variable {E:List (List Int)} {n:Nat} {t r x:List Int}
theorem one_dot {e y:List Int}{p:Nat}{s:Int}(he:e.length=n)(hy:y.length=n)(hp:p<n)(h:∀i,e.getD i 0=if i=p then s else 0):dot e y=s*y.getD p 0:=by
 rw [dot_eq_sumN (by exact (he ..).trans (hy ..).symm),hy]
 refine (sumN_congr fun i _=> ?_).trans (sumN_one hp (fun i=>s*y.getD i 0))
 rw [h]
 by_cases q:i=p
 ·subst q;rw [if_pos rfl,if_pos rfl,Int.mul_one]
 ·rw [if_neg q,if_neg q,Int.zero_mul,Int.mul_zero]
theorem sq_one {s y:Int}(h:s=1\/s= -1):s*(s*y)=y:=by
 rcases h with rfl| rfl<;>simp
theorem Sgl.sol (S:Sgl E n t r)(hx:Row n x):Sol E n t x↔∀q∈E.zip t,∀p,p<n->q.1.getD p 0≠0->x.getD p 0=r.getD p 0:=by
 have key:∀q∈E.zip t,dot q.1 x=q.2↔∀p,p<n->q.1.getD p 0≠0->x.getD p 0=r.getD p 0:=fun q hq=>by
  obtain ⟨p,s,hp,hs,hg,hr⟩:=S.one q hq
  rw [one_dot (S.len _ (List.of_mem_zip hq).1) hx.len hp hg]
  constructor
  ·intro h p' hp' hne
   have:p'=p:=Classical.byContradiction fun z=>by rw [hg,if_neg z] at hne;exact hne rfl
   subst this
   simp only [hr,<-h,sq_one hs]
  ·intro h
   simp only [(h p hp (by rw [hg,if_pos rfl];exact z460 hs)),hr,sq_one hs]
 exact ⟨fun h q hq=>(key q hq).mp (h.eq q hq),fun h=>⟨hx,fun q hq=>(key q hq).mpr (h q hq)⟩⟩
theorem Sgl.min (S:Sgl E n t r):Min E n t x↔x=r/\∀a∈r,0<=a:=by
 have le:∀{y},Sol E n t y->Le r y:=fun {y} s i=>by
  by_cases hi:i<n
  ·by_cases h0:r.getD i 0=0
   ·rw [h0];exact s.row.pos i
   ·obtain ⟨q,hq,hne⟩:=S.rest i hi h0
    simp only [(S.sol s.row).mp s q hq i hi hne];exact Int.le_refl _
  ·rw [List.getD_eq_getElem?_getD,List.getElem?_eq_none (by rw [S.rlen];exact z12 hi)];exact s.row.pos i
 have sr:=fun h=>(S.sol (.of S.rlen h)).mpr fun q _ p _ _=>rfl
 constructor
 ·intro h
  have s:=h.sol S.len
  have hr:∀a∈r,0<=a:=fun a ha=>by
   obtain ⟨i,hi,rfl⟩:=mem_get ha
   simp only [S.rlen] at hi
   by_cases h0:r.getD i 0=0
   ·rw [h0];decide
   ·obtain ⟨q,hq,hne⟩:=S.rest i hi h0
    exact ((S.sol s.row).mp s q hq i hi hne)▸s.row.pos i
  exact ⟨(h.le S.len (sr hr) (le s)).symm,hr⟩
 ·rintro ⟨rfl,h⟩
  exact Min.of S.len (sr h) fun y sy ly=>(Le.eq (sr h).row sy.row (le sy) (ly.sum sy.row (sr h).row)).symm
theorem dot_cols {W:List (List Int)}{N j:Nat}(hE:∀e∈W,e.length=N)(hj:j<N)(v:List Int):dot (wor W v) (col W N j)=(W.map fun f=>dot f v*f.getD j 0).sum:=by
 induction W with
 | nil=>rfl
 | cons f W ih=>
  show dot (dot f v::wor W v) (dot f (unitR N j)::col W N j)=_
  simp only [dot_cons,ih fun e he=>hE e (.tail _ he),dot_unit (hE f (.head _)) hj,List.map_cons,List.sum_cons]
theorem neg_some:∀{l:List Int},l.sum<0->∃a∈l,a<0
 | [],h=>absurd h (by decide)
 | a::l,h=>by
  by_cases q:a<0
  ·exact ⟨a,.head _,q⟩
  ·obtain ⟨b,hb,h2⟩:=neg_some (l:=l) (z461 h q)
   exact ⟨b,.tail _ hb,h2⟩
theorem Sgl.beg (S:Sgl E n t r):Beg E n t:=by
 have hW:=widR_len (t:=t) S.len
 constructor
 ·refine Fits.cap S.n3 hW fun R v x j hj hd=> ?_
  rw [dot_cols hW (z0 hj)] at hd
  obtain ⟨a,ha,h0⟩:=neg_some hd
  obtain ⟨f,hf,rfl⟩:=List.mem_map.mp ha
  obtain ⟨q,hq,rfl⟩:=List.mem_map.mp hf
  obtain ⟨p,s,hp,hs,hg,hr⟩:=S.one q hq
  have hqt:=S.t8 q.2 (List.of_mem_zip hq).2
  have hql:=S.len _ (List.of_mem_zip hq).1
  obtain ⟨ev,rv⟩:=row_snoc x.row
  have e1:dot (q.1++[-q.2]) v=s*v.getD p 0-q.2*v.getD n 0:=by
   conv=>lhs;rw [ev]
   rw [wid_dot (by exact (hql ..).trans (rv.len ..).symm),one_dot hql rv.len hp hg,List.getD_eq_getElem?_getD (l:=v.take n),List.getElem?_take,if_pos hp,<-List.getD_eq_getElem?_getD]
  rw [e1,snoc_get hql,if_neg (z8 hj),hg] at h0
  by_cases z:j=p
  ·subst z
   rw [if_pos rfl] at h0
   have y:=z261 (x.row.pos n) (x.last rfl)
   rcases hs with rfl| rfl<;>rcases y with y| y<;>skip<;>lia
  ·rw [if_neg z,Int.mul_zero] at h0;exact (z350 h0).elim
 ·intro l nd h
  refine Nat.lt_of_le_of_lt (length_le_of_nodup (F:=[r++[1]]) nd fun s hs=> ?_) (by show 1<64;decide)
  obtain ⟨e1,r1⟩:=row_snoc (h s hs).1.row
  rw [(h s hs).2] at e1
  have:Min E n t (s.take n):=by unfold Min;rw [<-e1];exact (h s hs).1
  rw [e1,((S.min).mp this).1]
  exact .head _
end
end Mine
namespace Mine
noncomputable def begF (n:Nat)(found:List (List Int)):List (List Int):=(found.filter fun s=>decide (s.getD n 0=1)).map fun s=>s.take n
section
variable {E:List (List Int)} {n:Nat} {t x:List Int} {found:List (List Int)}
theorem begF_mem (hE:∀e∈E,e.length=n)(hm:∀s,s∈found↔Least (widR E t) (n+1) s/\(true=true->s.getD (n+1-1) 0<2)):x∈begF n found↔Min E n t x:=by
 unfold begF
 rw [List.mem_map]
 constructor
 ·rintro ⟨s,hs,rfl⟩
  obtain ⟨h1,h2⟩:=List.mem_filter.mp hs
  have h3:=((hm s).mp h1).1
  obtain ⟨e1,r1⟩:=row_snoc h3.row
  unfold Min
  rw [(of_decide_eq_true h2)] at e1
  exact e1▸h3
 ·intro h
  have r:=(h.sol hE).row
  have e1:(x++[1]).getD n 0=1:=by exact (snoc_get r.len ..).trans (if_pos rfl ..)
  refine ⟨x++[1],List.mem_filter.mpr ⟨(hm _).mpr ⟨h,fun _=> ?_⟩,decide_eq_true e1⟩,?_⟩
  ·rw [Nat.add_sub_cancel,e1];decide
  ·rw [<-r.len,List.take_left']
   rfl
theorem begF_nd (nd:found.Nodup)(hm:∀s,s∈found↔Least (widR E t) (n+1) s/\(true=true->s.getD (n+1-1) 0<2)):(begF n found).Nodup:=by
 unfold begF
 rw [List.Nodup,List.pairwise_map]
 refine List.Pairwise.imp_of_mem (fun {s u} hs hu ne e=>ne ?_) (List.Pairwise.filter _ nd)
 obtain ⟨h1,h2⟩:=List.mem_filter.mp hs
 obtain ⟨k1,k2⟩:=List.mem_filter.mp hu
 rw [(row_snoc ((hm s).mp h1).1.row).1,(row_snoc ((hm u).mp k1).1.row).1,e,of_decide_eq_true h2,of_decide_eq_true k2]
theorem begF_few (B:Beg E n t)(nd:found.Nodup)(hm:∀s,s∈found↔Least (widR E t) (n+1) s/\(true=true->s.getD (n+1-1) 0<2)):(begF n found).length<64:=by
 unfold begF
 rw [List.length_map]
 exact B.few _ (nd.filter _) fun s hs=>by
  obtain ⟨h1,h2⟩:=List.mem_filter.mp hs
  exact ⟨((hm s).mp h1).1,of_decide_eq_true h2⟩
end
end Mine
namespace Mine
noncomputable def padR (E:List (List Int)):List (List Int):=E.map (· ++[0])
section
variable {E:List (List Int)} {n:Nat} {R:List (List Int)} {v:List Int}
theorem pad_wor (hE:∀e∈E,e.length=n)(hv:v.length=n):wor (padR E) (v++[0])=wor E v:=by
 delta wor padR
 rw [List.map_map]
 refine List.map_congr_left fun e he=> ?_
 have:=wid_dot (e:=e) (x:=v) (τ:=0) (k:=0) (by exact (hE e he ..).trans (hv ..).symm)
 simp only [Int.zero_mul,Int.sub_zero] at this
 exact this
theorem pad_unit {p:Nat}(hp:p<n):unitR (n+1) p=unitR n p++[0]:=by
 unfold unitR
 rw [List.range_succ]
 have:¬(n:Int)=(p:Int):=z466 hp
 simp [this]
theorem pad_even (hE:∀e∈E,e.length=n)(hv:v.length=n):Even (padR E) (v++[0])↔Even E v:=by
 unfold Even
 rw [show wor (padR E) (v++[0])=wor E v from pad_wor hE hv]
theorem pad_add {u:List Int}(h:v.length=u.length):addR (v++[0]) (u++[0])=addR v u++[0]:=by
 unfold addR
 rw [List.zip_append h,List.map_append];rfl
theorem Reach.pad (hE:∀e∈E,e.length=n)(x:Reach E n false R v):Reach (padR E) (n+1) true (R.map (· ++[0])) (v++[0]):=by
 induction x with
 | unit hp=>rw [<-pad_unit hp];exact .unit (z0 hp)
 | step x ne hp h ho ih=>
  rename_i R v p
  have hv:=x.row.len
  have hu:=unitR_len n p
  rw [<-pad_add (by exact (hv ..).trans (hu ..).symm),<-pad_unit hp]
  refine .step ih (fun z=>ne ((pad_even hE hv).mp z)) (z0 hp) ?_ fun _=> ?_
  ·simp only [pad_unit hp,pad_wor hE hv,pad_wor hE hu];exact h
  ·rw [pad_unit hp,pad_add (by exact (hv ..).trans (hu ..).symm),Nat.add_sub_cancel,snoc_get (addR_len hv hu),if_pos rfl];decide
theorem Alive.pad (hE:∀e∈E,e.length=n)(x:Alive E n false R v):Alive (padR E) (n+1) true (R.map (· ++[0])) (v++[0]):=by
 refine ⟨x.reach.pad hE,fun g rg eg pg lg=> ?_⟩
 obtain ⟨e,rt⟩:=row_snoc rg
 have hv:=x.reach.row.len
 have hn:=lg n
 rw [snoc_get hv,if_pos rfl] at hn
 rw [(by exact z467 hn (rg.pos n):g.getD n 0=0)] at e
 rw [e] at eg pg lg⊢
 rw [x.bare _ rt ((pad_even hE rt.len).mp eg) (by rw [snoc_sum] at pg;exact z468 pg) ((snoc_le rt.len hv).mp lg).1]
end
theorem Fits.size3n {E:List (List Int)}(hE:∀e∈E,e.length=3)(hm:E.length<=3)(hw:∀e∈E,∀x∈e,-2<=x/\x<=2):Fits E 3 false:=by
 have low:Low4 (padR E):=by
  have g:∀f∈padR E,∃e∈E,f=e++[0]:=fun f hf=>by
   obtain ⟨e,he,rfl⟩:=List.mem_map.mp hf
   exact ⟨e,he,rfl⟩
  refine Low4.size3w (fun f hf=> ?_) (by unfold padR;rw [List.length_map];exact hm) (fun f hf i hi=> ?_) fun f hf=> ?_
  ·obtain ⟨e,he,rfl⟩:=g f hf
   rw [List.length_append,hE e he];rfl
  ·obtain ⟨e,he,rfl⟩:=g f hf
   rw [snoc_get (hE e he),if_neg (z8 hi)]
   exact hw e he _ (get_mem (by rw [hE e he];exact hi))
  ·obtain ⟨e,he,rfl⟩:=g f hf
   rw [snoc_get (hE e he),if_pos rfl];decide
 have low:∀R v,Alive E 3 false R v->v.getD 0 0<2800/\v.getD 1 0<2800/\v.getD 2 0<2800:=fun R v x=>by
  have hv:=x.reach.row.len
  have h:=low _ _ (x.pad hE)
  rw [snoc_get hv,snoc_get hv,snoc_get hv] at h
  exact ⟨h.1,h.2.1,h.2.2.1⟩
 refine Fits.of (bs:=[2800,2800]) (K:=8400) hE rfl (fun R v x=> ?_) (fun R v x i hi=> ?_) (by decide)
 ·obtain ⟨k1,k2,k3⟩:=low R v x
  have hs:=x.reach.row.sum
  simp only [sumN_succ,sumN_zero] at hs
  exact z469 k1 k3 k2 hs
 ·obtain ⟨k1,k2,k3⟩:=low R v x
  rcases ((z252 hi):i=0\/i=1) with rfl| rfl
  ·exact k2
  ·exact k3
end Mine
namespace Mine
section
variable {E:List (List Int)} {n:Nat}
theorem Fits6.three (h3:n<=3)(F:Fits E n false)(hm:E.length<=3)(hw:∀e∈E,∀x∈e,-20<=x/\x<=20):Fits6 E n:=⟨F,fun l nd hl=>few3 h3 F.len hm hw nd hl⟩
theorem Fits6.small (hn:n=1\/n=2)(hE:∀e∈E,e.length=n)(hm:E.length<=3)(hw:∀e∈E,∀x∈e,-20<=x/\x<=20):Fits6 E n:=by
 rcases hn with rfl| rfl
 ·exact .three (by decide) (.size1 hE) hm hw
 ·exact .three (by decide) (.size2 hE hm hw) hm hw
theorem Fits6.size3 (hE:∀e∈E,e.length=3)(hm:E.length<=3)(hw:∀e∈E,∀x∈e,-2<=x/\x<=2):Fits6 E 3:=
 .three (by decide) (.size3n hE hm hw) hm fun e he x hx=>by have:=hw e he x hx;exact z470 this.1 this.2
theorem Fits6.line3 (hE:∀e∈E,e.length=3)(hm:E.length<=1)(hw:∀e∈E,∀x∈e,-5<=x/\x<=5):Fits6 E 3:=by
 refine .three (by decide) ?_ (z471 hm) fun e he x hx=>by have:=hw e he x hx;exact z472 this.1 this.2
 rcases ln01 hm with rfl| ⟨e,rfl⟩
 ·exact .none (by decide) (by decide)
 ·exact .one (w:=5) (hE e (.head _)) (by decide) (hw e (.head _)) (by decide)
theorem Fits6.line45 (h1:1<=n)(h5:n<=5)(hE:∀e∈E,e.length=n)(hm:E.length<=1)(hw:∀e∈E,∀x∈e,-2<=x/\x<=2):Fits6 E n:=by
 rcases ln01 hm with rfl| ⟨e,rfl⟩
 ·exact ⟨.none h1 (z473 h5),fun l nd hl=>count_sum h5 nd hl fun s hs=>sum_none (hl s hs)⟩
 ·exact ⟨.one (w:=2) (hE e (.head _)) h1 (hw e (.head _)) (Nat.le_trans (Nat.pow_le_pow_right (by decide) (show n-1<=4 by exact z474 h5)) (by decide)),fun l nd hl=>count_sum h5 nd hl fun s hs=>sum_single (hE e (.head _)) (hw e (.head _)) (hl s hs)⟩
end
end Mine
set_option maxRecDepth 10000
set_option maxHeartbeats 1000000
set_option Elab.async false
namespace Mine
open PySem PySem.Calls PyProof.Rows PySem.W
noncomputable abbrev B10:List Stmt:=PySem.Challenge.pw_uf050013_10.main.body
noncomputable abbrev Bd10:List Stmt:=((B10[23]?).map bodyOf).getD []
noncomputable abbrev N10:List (Str × Value):=[("range",.type "range"),("tuple",.type "tuple"),("zip",.type "zip"),("all",.builtin "all"),("any",.builtin "any"),("sum",.builtin "sum"),("max",.builtin "max"),("min",.builtin "min"),("isinstance",.builtin "isinstance"),("int",.type "int"),("bool",.type "bool"),("list",.type "list"),("len",.builtin "len"),("sorted",.builtin "sorted"),("enumerate",.type "enumerate")]
noncomputable abbrev G10:List (Str × Int):=[("MOST_SIZE",5),("MOST_EQUATIONS",3),("MOST_WEIGHT",20)]
noncomputable abbrev il (xs:List Int):D:=.lst (xs.map D.int)
noncomputable def okW (n:Nat)(xs:List Int):Prop:=xs.length=n/\∀x∈xs,-20<=x/\x<=20
structure Ints (σ:Sto)(sd:SD)(xs:List Int):Prop where
 isL:sd.isL=true
 ds:sd.ds=xs.map D.int
 inv:sd.inv σ
section
variable {c:Cx} {σ:Sto} {X:Addr->Sto->Prop} {Q:D->Sto->Prop} {K:Frag} {C:Addr}
theorem is_whole_ {i lo hi:Int}{b:Bool}(T:Tp c B10 N10)(hb:decide (lo<=i/\i<=hi)=b)(h:Q (.bool b) σ):WF c (Room 1) "is_whole" [.int i,.int lo,.int hi] σ Q X:=by
 refine WF.byA 16 (ps:=["thing","low","high"]) T rfl rfl (bind3 fun _ _ _ _ _ _=>rfl) (by rfl) rfl fun A fr env g r hh hs fe=> ?_
 refine Sp.mk ?_
 refine At1.isi (b:=true) (by decide) rfl ?_
 refine Sp.mk ?_
 refine At1.isi (b:=false) (by decide) rfl ?_
 skip
 by_cases h1:lo<=i
 ·refine brT (decide_eq_true h1) ?_
  refine Sp.mk ?_
  simpa [h1,<-hb] using h
 ·refine brF (decide_eq_false h1) ?_
  refine Sp.mk ?_
  simpa [h1,<-hb] using h
theorem is_weights_ {sd:SD}{xs:List Int}{n:Nat}(T:Tp c B10 N10)(G:Gi c G10)(w:Ints σ sd xs)(ok:okW n xs)(hn:n<100)(h:Q (.bool true) σ):WF c (Room 2) "is_weights" [sd.d,.int n] σ Q X:=by
 refine WF.byG 17 (ps:=["thing","many"]) T G rfl rfl (bind2 fun _ _ _ _ _=>rfl) (by rfl) rfl fun A fr env g r hh hs fe=> ?_
 have hl:sd.ds.length=n:=by simp only [w.ds,List.length_map,ok.1]
 refine Sp.mk ?_
 refine At1.isiL w.isL w.inv ?_
 refine Sp.mk ?_
 refine At1.len w.inv (z626 hn hl) ?_
 skip
 rw [hl]
 skip
 refine brF (show ((n:Int) !=n)=false by simp) ?_
 refine Sp.mk ?_
 refine WIv.seqA rfl D.int hh w.ds w.inv (Turns.map (fun _=>.bool true) (fun _ _=>loc1 rfl) w.inv (by have:=ok.1;(simp only [SD.ds,List.length_map,List.length_range,List.length_zip,List.length_take,List.length_drop,List.length_append,List.length_replicate,List.length_cons,List.length_nil,sizeLine]<;>lia)) (fun x hx fr' cenv hc=> ?_) (.inl ?_))
 ·have g:=g.at (relab_of hc hs)
  (with_reducible refine WE.go (by assumption) ?_);refine Sp.mk ?_
  have:=ok.2 x hx
  refine WF.at (is_whole_ T (decide_eq_true (z628 this.2 this.1)) ?_) (by decide)
  refine Sp.mk ?_
  exact ⟨rfl,rfl⟩
 ·refine Sp.mk ?_
  refine At1.all (sd:=.lst _) (l:=xs.map fun _=>true) hh (by simp [SD.ds,Function.comp_def]) trivial ?_
  refine Sp.mk ?_
  rw [show (xs.map fun _=>true).all id=true by simp]
  exact h
end
section
variable {c:Cx} {σ:Sto} {X:Addr->Sto->Prop} {Q:D->Sto->Prop} {K:Frag} {C:Addr}
structure Eqs (σ:Sto)(n:Nat)(ws:List (SD × List Int)):Prop where
 each:∀w∈ws,Ints σ w.1 w.2/\okW n w.2
 few:ws.length<=3
theorem all_true {α:Type}(l:List α):(l.map fun _=>true).all id=true:=by simp
theorem is_system_ {sd:SD}{ws:List (SD × List Int)}{n:Nat}(T:Tp c B10 N10)(G:Gi c G10)(hL:sd.isL=true)(hi:sd.inv σ)(hd:sd.ds=ws.map fun w=>w.1.d)(E:Eqs σ n ws)(h1:1<=n)(h5:n<=5)(h:Q (.bool true) σ):WF c (Room 3) "is_system" [.int n,sd.d] σ Q X:=by
 refine WF.byG 18 (ps:=["size","equations"]) T G rfl rfl (bind2 fun _ _ _ _ _=>rfl) (by rfl) rfl fun A fr env g r hh hs fe=> ?_
 have hl:sd.ds.length=ws.length:=by rw [hd,List.length_map]
 have h3:=E.few
 refine Sp.mk ?_
 refine WF.at (is_whole_ T (decide_eq_true (z629 h1 h5)) ?_) (by decide)
 refine Sp.mk ?_
 refine At1.isiL hL hi ?_
 refine Sp.mk ?_
 refine At1.len hi (z630 hl h3) ?_
 skip
 rw [hl]
 skip
 refine brF (decide_eq_false (z631 h3)) ?_
 refine Sp.mk ?_
 refine WIv.seqA rfl (fun w:SD × List Int=>w.1.d) hh hd hi (Turns.map (fun _=>.bool true) (fun _ _=>loc1 rfl) hi (by (simp only [SD.ds,List.length_map,List.length_range,List.length_zip,List.length_take,List.length_drop,List.length_append,List.length_replicate,List.length_cons,List.length_nil,sizeLine]<;>lia)) (fun x hx fr' cenv hc=> ?_) (.inl ?_))
 ·have g:=g.at (relab_of hc hs)
  (with_reducible refine WE.go (by assumption) ?_);refine Sp.mk ?_
  refine WF.at (is_weights_ T G (E.each x hx).1 (E.each x hx).2 (z633 h5) ?_) (by decide)
  refine Sp.mk ?_
  exact ⟨rfl,rfl⟩
 ·refine Sp.mk ?_
  refine At1.all (sd:=.lst _) (l:=ws.map fun _=>true) hh (by simp [SD.ds,Function.comp_def]) trivial ?_
  refine Sp.mk ?_
  rw [all_true]
  exact h
noncomputable abbrev rl (rows:List (List Int)):D:=.lst (rows.map il)
noncomputable abbrev sy (C:Addr)(n:Nat)(rows:List (List Int)):D:=.sys C (.int n) (rl rows)
theorem init_ {sd:SD}{ws:List (SD × List Int)}{n:Nat}{dx:Addr}(T:Tp c B10 N10)(G:Gi c G10)(S:Ks c K C "System" Bd10)(hL:sd.isL=true)(hi:sd.inv ((dx,.flds [])::σ))(hd:sd.ds=ws.map fun w=>w.1.d)(E:Eqs ((dx,.flds [])::σ) n ws)
  (hi2:∀fs,sd.inv ((dx,.flds fs)::σ)/\∀w∈ws,w.1.inv ((dx,.flds fs)::σ)) (h1:1<=n) (h5:n<=5) (h:Q .none ((dx,.flds [("rules",rl (ws.map (·.2))),("size",.int n)])::σ)):WM c K C (Room 4) "__init__" [.own C dx,.int n,sd.d] ((dx,.flds [])::σ) Q X:=by
 refine WM.byG 0 (ps:=["self","size","equations"]) T G S rfl rfl (mbind3 fun _ _ _ _ _ _ _=>rfl) (by rfl) rfl fun A fr env g r hh hs fe=> ?_
 have h3:=E.few
 refine Sp.mk ?_
 refine WF.at (is_system_ T G hL hi hd E h1 h5 ?_) (by decide)
 refine Sp.mk ?_
 refine W1.attrS S ?_ (.inl rfl) (by with_unfolding_all rfl)
 (with_reducible refine WE.go (by assumption) ?_);refine Sp.mk ?_;(with_reducible refine WE.go (by assumption) ?_);refine Sp.mk ?_
 refine ⟨dx,[],σ,[],rfl,rfl,by decide,?_⟩
 (with_reducible refine WS.goK (by assumption) ?_);refine Sp.mk ?_
 refine W1.attrS S ?_ (.inr rfl) (by with_unfolding_all rfl)
 (with_reducible refine WE.go (by assumption) ?_);refine Sp.mk ?_
 refine WIv.seqA rfl (fun w:SD × List Int=>w.1.d) hh hd (hi2 _).1 (Turns.map (fun w=>il w.2) (fun _ _=>loc1 rfl) (hi2 _).1 (by (simp only [SD.ds,List.length_map,List.length_range,List.length_zip,List.length_take,List.length_drop,List.length_append,List.length_replicate,List.length_cons,List.length_nil,sizeLine]<;>lia)) (fun w hw fr' cenv hc=> ?_) (.inl ?_))
 ·have g:=g.at (relab_of hc hs)
  (with_reducible refine WE.go (by assumption) ?_);refine Sp.mk ?_
  have hw1:=(E.each w hw).1
  have hw2:=(E.each w hw).2.1
  refine At1.list ((hi2 _).2 w hw) (by rw [hw1.ds];(simp only [SD.ds,List.length_map,List.length_range,List.length_zip,List.length_take,List.length_drop,List.length_append,List.length_replicate,List.length_cons,List.length_nil,sizeLine]<;>lia)) (.inl ?_)
  refine Sp.mk ?_
  exact hw1.ds▸⟨rfl,rfl⟩
 ·refine Sp.mk ?_;(with_reducible refine WE.go (by assumption) ?_);refine Sp.mk ?_
  refine ⟨dx,[],σ,_,rfl,rfl,by exact Nat.le_add_left _ _,?_⟩
  (with_reducible refine WS.goK (by assumption) ?_);refine Sp.mk ?_
  have e:rl (ws.map (·.2))=.lst (ws.map fun w=>il w.2):=by simp [rl,Function.comp_def]
  exact (e▸h)
theorem new_ {sd:SD}{ws:List (SD × List Int)}{n:Nat}(T:Tp c B10 N10)(G:Gi c G10)(S:Ks c K C "System" Bd10)(hL:sd.isL=true)(hi:sd.inv σ)(hd:sd.ds=ws.map fun w=>w.1.d)(E:Eqs σ n ws)(h1:1<=n)(h5:n<=5)
  (h:Q (sy C n (ws.map (·.2))) σ) (dx:Addr):WM c K C (Room 4) "__init__" [.own C dx,.int n,sd.d] ((dx,.flds [])::σ) (NewQ C dx Q) (NewX dx X):=by
 have inv:∀{w:SD} {p:Addr × O},w.inv σ->w.inv (p::σ):=fun {w p} hw=>by
  cases w
  ·trivial
  ·trivial
  ·exact List.mem_cons_of_mem _ hw
 refine init_ T G S hL (inv hi) hd ⟨fun w hw=>⟨⟨(E.each w hw).1.isL,(E.each w hw).1.ds,inv (E.each w hw).1.inv⟩,(E.each w hw).2⟩,E.few⟩ (fun fs=>⟨inv hi,fun w hw=>inv (E.each w hw).1.inv⟩) h1 h5 ?_
 refine ⟨rfl,[],σ,_,.int n,rl (ws.map (·.2)),rfl,rfl,rfl,fun x n1 n2=> ?_,h⟩
 rw [lookup_cons_eq,if_neg n2,lookup_cons_eq,if_neg n1];rfl
theorem equationsF_ {n:Nat}{rows:List (List Int)}(T:Tp c B10 N10)(S:Ks c K C "System" Bd10)(h3:rows.length<=4)(hr:∀x∈rows,x.length<=100)(h:QL Q (rows.map il) σ):WM c K C (Room 1) "equations" [sy C n rows] σ Q X:=by
 refine WM.byA 1 (ps:=["self"]) T S rfl rfl (mbind1 fun _ _ _ _ _=>rfl) (by rfl) rfl fun A fr env g r hh hs fe=> ?_
 refine Sp.mk ?_;(with_reducible refine WE.fldA (by with_unfolding_all rfl) (by assumption) ?_ (by with_unfolding_all (intro _;rfl));refine WE.go (by assumption) ?_);refine Sp.mk ?_;(with_reducible refine kFld.rules ?_);refine Sp.mk ?_
 refine WIv.seqA rfl (sd:=.lst _) il hh rfl trivial (Turns.map (fun w=>il w) (fun _ _=>loc1 rfl) trivial (by (simp only [SD.ds,List.length_map,List.length_range,List.length_zip,List.length_take,List.length_drop,List.length_append,List.length_replicate,List.length_cons,List.length_nil,sizeLine]<;>lia)) (fun w hw fr' cenv hc=> ?_) h.sp)
 have g:=g.at (relab_of hc hs)
 (with_reducible refine WE.go (by assumption) ?_);refine Sp.mk ?_
 have:=hr w hw
 refine At1.list (sd:=.lst _) trivial (by (simp only [SD.ds,List.length_map,List.length_range,List.length_zip,List.length_take,List.length_drop,List.length_append,List.length_replicate,List.length_cons,List.length_nil,sizeLine]<;>lia)) (.inl ⟨rfl,rfl⟩)
end
section
variable {c:Cx} {σ:Sto} {X:Addr->Sto->Prop} {Q:D->Sto->Prop} {K:Frag} {C:Addr}
noncomputable abbrev small (ws:List Int):Prop:=∀x∈ws,x.natAbs<2^64
theorem unit_ {n p:Int}(T:Tp c B10 N10)(h0:0<=n)(h1:n<100)(h:Q (row ((List.range n.toNat).map fun (i:Nat)=>if ((i:Int)==p)=true then (1:Int) else 0)) σ):WF c (Room 1) "unit" [.int n,.int p] σ Q X:=by
 refine WF.byA 7 (ps:=["size","place"]) T rfl rfl (bind2 fun _ _ _ _ _=>rfl) (by rfl) rfl fun A fr env g r hh hs fe=> ?_
 refine Sp.mk ?_
 refine ⟨z795 h0,z796 h1,Turns.map (fun (i:Nat)=>.int (if ((i:Int)==p)=true then (1:Int) else 0)) (fun _ _=>loc1 rfl) trivial (by (simp only [SD.ds,List.length_map,List.length_range,List.length_zip,List.length_take,List.length_drop,List.length_append,List.length_replicate,List.length_cons,List.length_nil,sizeLine]<;>lia)) (fun x hx fr' cenv hc=> ?_) (.inl ?_)⟩
 ·have g:=g.at (relab_of hc hs)
  (with_reducible refine WE.go (by assumption) ?_);refine Sp.mk ?_
  refine At1.intB ?_
  refine Sp.mk ?_
  exact ⟨rfl,rfl⟩
 ·refine Sp.mk ?_
  refine At1.tuple (sd:=.lst _) trivial (by (simp only [SD.ds,List.length_map,List.length_range,List.length_zip,List.length_take,List.length_drop,List.length_append,List.length_replicate,List.length_cons,List.length_nil,sizeLine]<;>lia)) ?_
  refine Sp.mk ?_
  simpa [row,SD.ds,Function.comp_def] using h
theorem within_ {xs ys:List Int}(T:Tp c B10 N10)(hsz:xs.length<100)(h:Q (.bool ((xs.zip ys).all fun q=>decide (q.1<=q.2))) σ):WF c (Room 1) "within" [row xs,row ys] σ Q X:=by
 refine WF.byA 8 (ps:=["one","other"]) T rfl rfl (bind2 fun _ _ _ _ _=>rfl) (by rfl) rfl fun A fr env g r hh hs fe=> ?_
 refine Sp.mk ?_
 refine ⟨_,_,.tup _,.tup _,xs,ys,D.int,D.int,rfl,rfl,rfl,rfl,trivial,trivial,Turns.map (fun q=>.bool (decide (q.1<=q.2))) (fun _ _=>loc2 rfl rfl) ⟨trivial,trivial⟩ (by (simp only [SD.ds,List.length_map,List.length_range,List.length_zip,List.length_take,List.length_drop,List.length_append,List.length_replicate,List.length_cons,List.length_nil,sizeLine]<;>lia)) (fun x hx fr' cenv hc=> ?_) (.inl ?_)⟩
 ·have g:=g.at (relab_of hc hs)
  (with_reducible refine WE.go (by assumption) ?_);refine Sp.mk ?_
  exact ⟨rfl,rfl⟩
 ·refine Sp.mk ?_
  refine At1.all (sd:=.lst _) (l:=(xs.zip ys).map fun q=>decide (q.1<=q.2)) hh (by simp [SD.ds,Function.comp_def]) trivial ?_
  refine Sp.mk ?_
  simpa [Function.comp_def] using h
theorem added_ {xs ys:List Int}(T:Tp c B10 N10)(hsz:xs.length<100)(h:Q (row ((xs.zip ys).map fun q=>q.1+q.2)) σ):WF c (Room 1) "added" [row xs,row ys] σ Q X:=by
 refine WF.byA 9 (ps:=["one","other"]) T rfl rfl (bind2 fun _ _ _ _ _=>rfl) (by rfl) rfl fun A fr env g r hh hs fe=> ?_
 refine Sp.mk ?_
 refine ⟨_,_,.tup _,.tup _,xs,ys,D.int,D.int,rfl,rfl,rfl,rfl,trivial,trivial,Turns.map (fun q=>.int (q.1+q.2)) (fun _ _=>loc2 rfl rfl) ⟨trivial,trivial⟩ (by (simp only [SD.ds,List.length_map,List.length_range,List.length_zip,List.length_take,List.length_drop,List.length_append,List.length_replicate,List.length_cons,List.length_nil,sizeLine]<;>lia)) (fun x hx fr' cenv hc=> ?_) (.inl ?_)⟩
 ·have g:=g.at (relab_of hc hs)
  (with_reducible refine WE.go (by assumption) ?_);refine Sp.mk ?_
  exact ⟨rfl,rfl⟩
 ·refine Sp.mk ?_
  refine At1.tuple (sd:=.lst _) trivial (by (simp only [SD.ds,List.length_map,List.length_range,List.length_zip,List.length_take,List.length_drop,List.length_append,List.length_replicate,List.length_cons,List.length_nil,sizeLine]<;>lia)) ?_
  refine Sp.mk ?_
  simpa [row,SD.ds,Function.comp_def] using h
theorem by_sum_ {xs:List Int}(T:Tp c B10 N10)(h:Q (keyD xs) σ):WF c (Room 1) "by_sum" [row xs] σ Q X:=by
 refine WF.byA 10 (ps:=["row"]) T rfl rfl (bind1 fun _ _ _ _=>rfl) (by rfl) rfl fun A fr env g r hh hs fe=> ?_
 refine Sp.mk ?_
 refine At1.sum (sd:=.tup _) (l:=xs) hh rfl trivial ?_
 refine Sp.mk ?_
 exact h
theorem ranked_ {rows:List (List Int)}(T:Tp c B10 N10)(h64:rows.length<64)(h:∀out:List (List Int),out.Perm rows->out.Pairwise keyLe->QL Q (out.map row) σ):WF c (Room 3) "ranked" [.lst (rows.map row)] σ Q X:=by
 refine WF.byA 11 (ps:=["rows"]) T rfl rfl (bind1 fun _ _ _ _=>rfl) (by rfl) rfl fun A fr env g r hh hs fe=> ?_
 refine Sp.mk ?_
 refine WE.sorted T (n:=0) r (by with_unfolding_all exact kindOf_of (by assumption) (by rfl)) (by rfl) (by with_unfolding_all exact kindOf_of (by assumption) (by rfl)) (isDef_dfn T rfl) ?_
 (with_reducible refine WE.go (by assumption) ?_);refine Sp.mk ?_
 exact ⟨.lst _,rows,rfl,rfl,rfl,trivial,h64,fun r hr=>by_sum_ T ⟨rfl,rfl⟩,fun out a b=>(h out a b).sp⟩
theorem times_ {sd sd2:SD}{ws xs:List Int}(T:Tp c B10 N10)(hd:sd.ds=ws.map D.int)(hi:sd.inv σ)(hd2:sd2.ds=xs.map D.int)(hi2:sd2.inv σ)(hs1:∀q∈ws.zip xs,IntMulOk q.1 q.2)(hl:ws.length<100)(h:Q (.int (dot ws xs)) σ):WF c (Room 1) "times" [sd.d,sd2.d] σ Q X:=by
 refine WF.byA 20 (ps:=["weights","row"]) T rfl rfl (bind2 fun _ _ _ _ _=>rfl) (by rfl) rfl fun A fr env g r hh hs fe=> ?_
 refine Sp.mk ?_
 refine ⟨_,_,sd,sd2,ws,xs,D.int,D.int,rfl,rfl,hd,hd2,hi,hi2,Turns.map (fun q=>.int (q.1*q.2)) (fun _ _=>loc2 rfl rfl) ⟨hi,hi2⟩ (by (simp only [SD.ds,List.length_map,List.length_range,List.length_zip,List.length_take,List.length_drop,List.length_append,List.length_replicate,List.length_cons,List.length_nil,sizeLine]<;>lia)) (fun q hq fr' cenv hc=> ?_) (.inl ?_)⟩
 ·have g:=g.at (relab_of hc hs)
  (with_reducible refine WE.go (by assumption) ?_);refine Sp.mk ?_
  refine WB.mul (hs1 q hq) ?_
  refine Sp.mk ?_
  exact ⟨rfl,rfl⟩
 ·refine Sp.mk ?_
  refine At1.sum (sd:=.lst _) (l:=(ws.zip xs).map fun q=>q.1*q.2) hh (by simp [SD.ds,Function.comp_def]) trivial ?_
  refine Sp.mk ?_
  exact h
theorem worths_ {rows:List (List Int)}{xs:List Int}(T:Tp c B10 N10)(hr:∀r∈rows,small r/\r.length<100)(hl:rows.length<100)(h:QL Q (rows.map fun r=>.int (dot r xs)) σ):WF c (Room 2) "worths" [rl rows,row xs] σ Q X:=by
 refine WF.byA 21 (ps:=["equations","row"]) T rfl rfl (bind2 fun _ _ _ _ _=>rfl) (by rfl) rfl fun A fr env g r hh hs fe=> ?_
 refine Sp.mk ?_
 refine WIv.seqA rfl (sd:=.lst _) il hh rfl trivial (Turns.map (fun r=>.int (dot r xs)) (fun _ _=>loc1 rfl) trivial (by (simp only [SD.ds,List.length_map,List.length_range,List.length_zip,List.length_take,List.length_drop,List.length_append,List.length_replicate,List.length_cons,List.length_nil,sizeLine]<;>lia)) (fun w hw fr' cenv hc=> ?_) h.sp)
 have g:=g.at (relab_of hc hs)
 (with_reducible refine WE.go (by assumption) ?_);refine Sp.mk ?_
 refine WF.at (times_ (sd:=.lst _) (sd2:=.tup _) T rfl trivial rfl trivial (fun q hq=>mulOk_left ((hr w hw).1 _ (List.of_mem_zip hq).1)) (hr w hw).2 ?_) (by decide)
 refine Sp.mk ?_
 exact ⟨rfl,rfl⟩
end
section
variable {c:Cx} {σ:Sto} {X:Addr->Sto->Prop} {Q:D->Sto->Prop} {K:Frag} {C:Addr}
theorem unitN_ {n p:Nat}(T:Tp c B10 N10)(h1:n<100)(h:Q (row (unitR n p)) σ):WF c (Room 1) "unit" [.int n,.int p] σ Q X:=unit_ T z289 (z800 h1) h
theorem worthsN_ {E:List (List Int)}{xs:List Int}(T:Tp c B10 N10)(hr:∀r∈E,small r/\r.length<100)(hl:E.length<100)(h:QL Q ((wor E xs).map D.int) σ):WF c (Room 2) "worths" [rl E,row xs] σ Q X:=
 worths_ T hr hl (by unfold wor at h;rw [List.map_map] at h;exact h)
theorem addedN_ {xs ys:List Int}(T:Tp c B10 N10)(hsz:xs.length<100)(h:Q (row (addR xs ys)) σ):WF c (Room 1) "added" [row xs,row ys] σ Q X:=added_ T hsz h
theorem withinN_ {xs ys:List Int}(T:Tp c B10 N10)(hsz:xs.length<100)(h:Q (.bool (inR xs ys)) σ):WF c (Room 1) "within" [row xs,row ys] σ Q X:=within_ T hsz h
theorem lst_ne {l:List (List Int)}:(!PyData.eqv (.list (l.map fun r=>.tuple (r.map .int))) (.list []))= !l.isEmpty:=by
 cases l<;>rfl
theorem ins_len (l:List (List Int))(f:List Int):l.length<=(ins l f).length:=by
 unfold ins;split
 ·exact Nat.le_refl _
 ·simp
theorem foldl_ins_len:∀(fs l:List (List Int)),l.length<=(fs.foldl ins l).length
 | [],l=>Nat.le_refl _
 | f::fs,l=>Nat.le_trans (ins_len l f) (foldl_ins_len fs _)
theorem foldl_part {fs gs l:List (List Int)}:(fs.foldl ins l).length<=((fs++gs).foldl ins l).length:=by rw [List.foldl_append];exact foldl_ins_len gs _
theorem take_next {α:Type}{l:List α}{k:Nat}{x:α}(h:l[k]? =some x):l.take (k+1)=l.take k++[x]:=by
 simp only [List.take_add_one,h];rfl
theorem cands_snoc {E:List (List Int)}{n:Nat}{once:Bool}{found rs:List (List Int)}{r:List Int}:cands E n once found (rs++[r])=cands E n once found rs++(List.range n).filterMap fun p=>cand E n once found r p:=by
 unfold cands;simp
theorem cands_pre {E:List (List Int)}{n:Nat}{once:Bool}{found op:List (List Int)}{w:List Int}{i p:Nat}(hk:op[i]? =some w):∃gs,cands E n once found op=(cands E n once found (op.take i)++((List.range n).take p).filterMap fun q=>cand E n once found w q)++gs:=by
 refine Exists.elim (List.getElem?_eq_some_iff.mp hk) fun hi hw=> ?_
 refine ⟨((List.range n).drop p).filterMap (fun q=>cand E n once found w q)++cands E n once found (op.drop (i+1)),?_⟩
 have e:op=op.take i++w::op.drop (i+1):=by
  simp only [<-hw,<-List.drop_eq_getElem_cons hi,List.take_append_drop]
 conv=>lhs;rw [e]
 unfold cands
 simp only [List.flatMap_append,List.flatMap_cons]
 conv=>lhs;rw [<-List.take_append_drop p (List.range n),List.filterMap_append]
 simp only [List.append_assoc,List.take_append_drop]
noncomputable abbrev fwV (E:List (List Int))(n:Nat)(o:Bool)(a:Addr):Vars:=[("found",.ref a),("columns",.lst ((List.range n).map fun (i:Nat)=>il (wor E (unitR n i)))),("equations",rl E),("size",.int n),("once",.bool o)]
theorem fewest_ {E:List (List Int)}{n:Nat}{once:Bool}(T:Tp c B10 N10)(F:Fits E n once)(hr:∀r∈E,small r/\r.length<100)(hl:E.length<100)(hn:n<100)(h1:1<=n)
  (h:∀found:List (List Int),found.Nodup->(∀s,s∈found↔Least E n s/\(once=true->s.getD (n-1) 0<2))->found.length<=16000000->Q (.lst (found.map row)) σ):WF c (Room 3) "fewest" [rl E,.int n,.bool once] σ Q X:=by
 refine WF.byA 22 (ps:=["equations","size","once"]) T rfl rfl (bind3 fun _ _ _ _ _ _=>rfl) (by rfl) rfl fun A fr env g r hh hs fe=> ?_
 refine Sp.mk ?_
 refine ⟨z653,z801 hn,Turns.map (fun (i:Nat)=>il (wor E (unitR n i))) (fun _ _=>loc1 rfl) trivial (by (simp only [SD.ds,List.length_map,List.length_range,List.length_zip,List.length_take,List.length_drop,List.length_append,List.length_replicate,List.length_cons,List.length_nil,sizeLine]<;>lia)) (fun x hx fr' cenv hc=> ?_) (.inl ?_)⟩
 ·have g:=g.at (relab_of hc hs)
  (with_reducible refine WE.go (by assumption) ?_);refine Sp.mk ?_
  refine WF.at (unitN_ T hn ?_) (by decide)
  refine Sp.mk ?_
  refine WF.at (worthsN_ T hr hl (.inl ⟨rfl,rfl⟩)) (by decide)
 refine Sp.mk ?_
 refine .inr fun a ha=> ?_
 refine Sp.mk ?_
 refine ⟨z653,z801 hn,Turns.map (fun (i:Nat)=>row (unitR n i)) (fun _ _=>loc1 rfl) trivial (by (simp only [SD.ds,List.length_map,List.length_range,List.length_zip,List.length_take,List.length_drop,List.length_append,List.length_replicate,List.length_cons,List.length_nil,sizeLine]<;>lia)) (fun x hx fr' cenv hc=> ?_) (.inl ?_)⟩
 ·have g:=g.at (relab_of hc hs)
  (with_reducible refine WE.go (by assumption) ?_);refine Sp.mk ?_
  refine WF.at (unitN_ T hn ?_) (by decide)
  refine Sp.mk ?_
  exact ⟨rfl,rfl⟩
 refine Sp.mk ?_
 refine Exists.elim (F.ends) fun Kk hK=> ?_
 refine W1.whileA rfl fe (fun k m' σ'=>∃j σx,j+k=Kk/\σ'=σx++(a,.lst ((stF E n once j).1.map row))::σ/\Hs m' (("front",.lst ((stF E n once j).2.map row))::fwV E n once a)) Kk ⟨0,[],z803,rfl,?_⟩ ?_
 ·rw [show (stF E n once 0).2.map row=List.map (fun (i:Nat)=>row (unitR n i)) (List.range ((n:Int)).toNat) by simp [stF,Function.comp_def]]
  exact Hs.lit rfl
 rintro k m' σ' ⟨j,σx,hj,rfl,hv⟩
 obtain ⟨fo,hfo⟩:∃fo,fo=(stF E n once j).1:=⟨_,rfl⟩
 obtain ⟨fn,hfn⟩:∃fn,fn=(stF E n once j).2:=⟨_,rfl⟩
 rw [<-hfn] at hv
 rw [<-hfo]
 (with_reducible refine WT.base (by assumption) ?_;refine WT.go (by assumption) ?_);refine Sp.mk ?_
 refine .inl ?_
 refine Sp.mk ?_
 refine WB.neD r (.of (Py.lst (n:=3) PyAll.rows)) (.of (Py.lst (n:=1) .nil)) ?_
 refine Sp.mk ?_
 rw [lst_ne]
 have hlen:=F.len
 by_cases hfe:fn=[]
 ·subst hfe
  refine brF rfl ?_
  refine WS.forget (σ':=(a,.lst (fo.map row))::σ) (List.sublist_append_right _ _) ?_
  refine WS.cons (W1.ret (WE.freeze ?_))
  (with_reducible refine WE.base (by assumption) ?_;refine WE.go (by assumption) ?_);refine Sp.mk ?_
  have I:=Inv.at (once:=once) hlen j
  rw [<-hfn,<-hfo] at I
  obtain ⟨i1,i2⟩:=I.done
  exact ⟨a,_,[],σ,rfl,rfl,Sp.mk (h fo i1 i2 (by rw [hfo];exact F.found j))⟩
 ·have hfb:fn.isEmpty=false:=by cases fn with
   | nil=>exact absurd rfl hfe
   | cons=>rfl
  have hjK:j<Kk:=by
   rcases Nat.lt_or_ge j Kk with q| q
   ·exact q
   ·exact absurd (hfn.trans (hK j q)) hfe
  have hrow:∀x∈fn,x.length=n:=fun x hx=>by
   have I:=Inv.at (once:=once) hlen j
   rw [<-hfn] at I
   obtain ⟨⟨R,hR⟩,_⟩:=I.reach x hx
   exact hR.row.len
  have hfoL:∀x∈fo,x.length=n:=fun x hx=>by
   have I:=Inv.at (once:=once) hlen j
   rw [<-hfo] at I
   exact (I.least x hx).1.row.len
  have s1:=F.front j
  rw [<-hfn] at s1
  have s2:=F.found (j+1)
  have s3:=F.front (j+1)
  have e1:(stF E n once (j+1)).1=foundN E fo fn:=by rw [hfo,hfn];rfl
  have e2:(stF E n once (j+1)).2=frontN E n once fo fn:=by rw [hfo,hfn];rfl
  rw [e1] at s2
  rw [e2] at s3
  refine brT (by rw [hfb];rfl) ?_
  refine WS.forget (σ':=(a,.lst (fo.map row))::σ) (List.sublist_append_right _ _) ?_
  (with_reducible refine WS.base (by assumption) ?_;refine WS.goN (by assumption) ?_);refine Sp.mk ?_
  refine .inr fun b hb=> ?_
  refine Sp.mk ?_
  refine WIv.seqA rfl (sd:=.lst _) row hh rfl trivial ?_
  refine Loop.of (fun i m' σ'=>σ'=(b,.lst (((fn.take i).filter (isOpen E)).map row))::(a,.lst ((fo++(fn.take i).filter fun r=> !isOpen E r).map row))::σ/\Hs m' (("open_rows",.ref b)::fwV E n once a)) (fun _ _=>kinds1 (by with_unfolding_all exact Or.inl (kindOf_of (by assumption) (by rfl)))) ⟨by simp,Hs.lit rfl⟩ (fun _ _ _ _=>trivial) (fun i w m' σ' hk hL fr'=> ?_) (fun m' σ' hL=> ?_)
  ·obtain ⟨rfl,hv⟩:=hL
   have hw:=List.mem_of_getElem? hk
   have hlt:i<fn.length:=(List.getElem?_eq_some_iff.mp hk).1
   (with_reducible refine WS.base (Hs.both (by assumption) _) ?_;refine WS.goN (by assumption) ?_);refine Sp.mk ?_
   refine WF.at (worthsN_ T hr hl (.inl ?_)) (by decide)
   refine Sp.mk ?_
   refine WIv.seqA rfl (sd:=.lst _) D.int hh rfl trivial (Turns.map (fun x=>.bool (x !=0)) (fun _ _=>loc1 rfl) trivial (by simp only [wor];(simp only [SD.ds,List.length_map,List.length_range,List.length_zip,List.length_take,List.length_drop,List.length_append,List.length_replicate,List.length_cons,List.length_nil,sizeLine]<;>lia)) (fun x hx fr' cenv hc=> ?_) (.inl ?_))
   ·have g:=g.at (relab_of hc hs)
    (with_reducible refine WE.go (by assumption) ?_);refine Sp.mk ?_
    exact ⟨rfl,rfl⟩
   refine Sp.mk ?_
   refine At1.any (sd:=.lst _) (l:=(wor E w).map (· !=0)) hh (by simp [SD.ds,Function.comp_def]) trivial ?_
   skip
   have eo:((wor E w).map (· !=0)).any id=isOpen E w:=by simp [isOpen,List.any_map,Function.comp_def]
   rw [eo,take_next hk,List.filter_append,List.filter_append]
   by_cases ho:isOpen E w=true
   ·have f1:[w].filter (isOpen E)=[w]:=by simp [ho]
    have f2:[w].filter (fun r=> !isOpen E r)=[]:=by simp [ho]
    rw [f1,f2,List.append_nil,ho]
    refine Sp.mk ?_
    refine ⟨.ref b _,rfl,rfl,List.mem_cons_self,?_⟩
    refine Sp.mk ?_
    have hle:((fn.take i).filter (isOpen E)).length<=i:=Nat.le_trans (List.length_filter_le _ _) (by simp;exact z648)
    refine At1.append (σ1:=[]) (by (simp only [SD.ds,List.length_map,List.length_range,List.length_zip,List.length_take,List.length_drop,List.length_append,List.length_replicate,List.length_cons,List.length_nil,sizeLine]<;>lia)) ?_
    refine Sp.mk ?_
    refine ⟨by simp,Hs.lit rfl⟩
   ·have ho:isOpen E w=false:=by simpa using ho
    have f1:[w].filter (isOpen E)=[]:=by simp [ho]
    have f2:[w].filter (fun r=> !isOpen E r)=[w]:=by simp [ho]
    rw [f1,f2,List.append_nil,ho]
    refine Sp.mk ?_
    refine ⟨.ref a _,rfl,rfl,List.mem_cons_of_mem _ List.mem_cons_self,?_⟩
    refine Sp.mk ?_
    have hle:fo.length+((fn.take i).filter fun r=> !isOpen E r).length<=16000000:=by
     unfold foundN at s2
     rw [List.length_append] at s2
     have:=(List.Sublist.filter (fun r=> !isOpen E r) (List.take_sublist i fn)).length_le
     exact z805 s2 this
    refine At1.append (σ1:=[(b,_)]) (by (simp only [SD.ds,List.length_map,List.length_range,List.length_zip,List.length_take,List.length_drop,List.length_append,List.length_replicate,List.length_cons,List.length_nil,sizeLine]<;>lia)) ?_
    refine Sp.mk ?_
    refine ⟨by simp,Hs.lit rfl⟩
  ·obtain ⟨rfl,hv⟩:=hL
   rw [List.take_length]
   (with_reducible refine WS.base (by assumption) ?_;refine WS.goK (by assumption) ?_);refine Sp.mk ?_;(with_reducible refine WE.go (by assumption) ?_);refine Sp.mk ?_
   have e3:fo++fn.filter (fun r=> !isOpen E r)=foundN E fo fn:=rfl
   rw [e3]
   have hfd:∀x∈foundN E fo fn,x.length=n:=fun x hx=>by
    rcases List.mem_append.mp hx with z| z
    ·exact hfoL x z
    ·exact hrow x (List.mem_filter.mp z).1
   have s4:((cands E n once (foundN E fo fn) (fn.filter (isOpen E))).foldl ins []).length<=16000000:=s3
   have hop:∀x∈fn.filter (isOpen E),x.length=n:=fun x hx=>hrow x (List.mem_filter.mp hx).1
   have hopl:(fn.filter (isOpen E)).length<=16000000:=Nat.le_trans (List.length_filter_le _ _) s1
   have e4:frontN E n once fo fn=(cands E n once (foundN E fo fn) (fn.filter (isOpen E))).foldl ins []:=rfl
   generalize foundN E fo fn=fd at*
   generalize fn.filter (isOpen E)=op at*
   refine WE.dict0 T.good fun e he=> ?_
   refine Sp.mk ?_;refine Sp.mk ?_
   refine WIv.seqA rfl (sd:=.ref b _) row hh rfl (List.mem_cons_of_mem _ List.mem_cons_self) ?_
   refine Loop.of (fun i m' σ'=>σ'=(e,.rows ((cands E n once fd (op.take i)).foldl ins []))::(b,.lst (op.map row))::(a,.lst (fd.map row))::σ/\Hs m' (("open_rows",.ref b)::("later",.ref e)::fwV E n once a)) (fun _ _=>kinds1 (by with_unfolding_all exact Or.inl (kindOf_of (by assumption) (by rfl)))) ⟨by simp [cands],Hs.lit rfl⟩ (fun _ _ _ hL=>by rw [hL.1];exact List.mem_cons_of_mem _ List.mem_cons_self) (fun i w m' σ' hk hL fr'=> ?_) (fun m' σ' hL=> ?_)
   ·obtain ⟨rfl,hv⟩:=hL
    have hw:=List.mem_of_getElem? hk
    have hwl:=hop w hw
    have hlt:i<op.length:=(List.getElem?_eq_some_iff.mp hk).1
    (with_reducible refine WS.base (Hs.both (by assumption) _) ?_;refine WS.goN (by assumption) ?_);refine Sp.mk ?_
    refine WF.at (worthsN_ T hr hl (.inl ?_)) (by decide)
    refine Sp.mk ?_
    refine ⟨z653,z801 hn,?_⟩
    simp only [Int.toNat_natCast]
    refine Loop.of (fun p m' σ'=>σ'=(e,.rows ((cands E n once fd (op.take i)++((List.range n).take p).filterMap fun q=>cand E n once fd w q).foldl ins []))::(b,.lst (op.map row))::(a,.lst (fd.map row))::σ/\Hs m' (("open_rows",.ref b)::("later",.ref e)::("worth",il (wor E w))::("row",row w)::fwV E n once a)) (fun _ _=>kinds1 (by with_unfolding_all exact Or.inl (kindOf_of (by assumption) (by rfl)))) ⟨by simp,Hs.lit rfl⟩ (fun _ _ _ hL=>trivial) (fun p pl m' σ' hp hL fr'=> ?_) (fun m' σ' hL=> ?_)
    ·obtain ⟨rfl,hv⟩:=hL
     have hpl:p<n:=by have:=(List.getElem?_eq_some_iff.mp hp).1;simpa using this
     have hpe:pl=p:=by rw [List.getElem?_range hpl] at hp;cases hp;rfl
     subst hpe
     (with_reducible refine WS.base (Hs.both (by assumption) _) ?_;refine WS.goN (by assumption) ?_);refine Sp.mk ?_
     refine WF.at (unitN_ T hn ?_) (by decide)
     refine Sp.mk ?_
     refine WF.at (addedN_ T (z807 hn hwl) ?_) (by decide)
     refine Sp.mk ?_;(with_reducible refine WS.goK (by assumption) ?_);refine Sp.mk ?_
     have tk:(List.range n).take (pl+1)=(List.range n).take pl++[pl]:=take_next (by rw [List.getElem?_range hpl])
     have hfl:(addR w (unitR n pl)).length=n:=addR_len hwl (unitR_len _ _)
     have hlast:(SD.tup ((addR w (unitR n pl)).map D.int)).ds[idx (-1) (SD.tup ((addR w (unitR n pl)).map D.int)).ds.length]? =some (.int ((addR w (unitR n pl)).getD (n-1) 0)):=by
      simp only [SD.ds,List.length_map,idx,hfl]
      rw [if_pos (by exact z784),show ((-1:Int)+n).toNat=n-1 by exact z808,List.getElem?_map,List.getD_eq_getElem?_getD,List.getElem?_eq_getElem (z809 hpl hfl)];rfl
     refine WSb.at (sd:=.lst _) rfl trivial (by simp only [SD.ds];rw [List.getElem?_map,List.getElem?_range hpl];rfl) (z810 hn hpl) ?_
     refine Sp.mk ?_
     refine WF.at (times_ (sd:=.lst _) (sd2:=.lst _) T rfl trivial rfl trivial (fun q hq=>mulOk_right ?_) (by simp only [wor,List.length_map];exact hl) ?_) (by decide)
     ·have hq2:=(List.of_mem_zip hq).2
      unfold wor at hq2
      obtain ⟨ee,he1,he2⟩:=List.mem_map.mp hq2
      rw [<-he2,dot_unit (hlen ee he1) hpl]
      have hpe:pl<ee.length:=by rw [hlen ee he1];exact hpl
      rw [List.getD_eq_getElem?_getD,List.getElem?_eq_getElem hpe]
      exact (hr ee he1).1 _ (List.getElem_mem _)
     skip
     have fin:cand E n once fd w pl=none->(e,O.rows ((cands E n once fd (op.take i)++((List.range n).take pl).filterMap fun q=>cand E n once fd w q).foldl ins []))::(b,.lst (op.map row))::(a,.lst (fd.map row))::σ=(e,.rows ((cands E n once fd (op.take i)++((List.range n).take (pl+1)).filterMap fun q=>cand E n once fd w q).foldl ins []))::(b,.lst (op.map row))::(a,.lst (fd.map row))::σ:=fun hc=>by rw [tk,List.filterMap_append];simp [hc]
     by_cases hA:dot (wor E w) (wor E (unitR n pl))<0
     ·refine brT (decide_eq_true hA) ?_
      by_cases hO:once=true->(addR w (unitR n pl)).getD (n-1) 0<2
      ·refine brJ ?_ fun eo hP=> ?_
       case refine_2=>
        refine Sp.mk ?_
        refine WSb.item (sd:=.tup _) trivial z781 z782 (by simp only [SD.ds,List.length_map];exact z811 hpl hfl) hlast ?_
        exact brT (decide_eq_true (hO (by simpa using eo))) hP
       refine Sp.mk ?_
       refine WIv.seqA rfl (sd:=.ref a _) row hh rfl (List.mem_cons_of_mem _ (List.mem_cons_of_mem _ List.mem_cons_self)) (Turns.map (fun g=>.bool (inR g (addR w (unitR n pl)))) (fun _ _=>loc1 rfl) (List.mem_cons_of_mem _ (List.mem_cons_of_mem _ List.mem_cons_self)) (by (simp only [SD.ds,List.length_map,List.length_range,List.length_zip,List.length_take,List.length_drop,List.length_append,List.length_replicate,List.length_cons,List.length_nil,sizeLine]<;>lia)) (fun o ho fr' cenv hc=> ?_) (.inl ?_))
       ·have g:=g.at (relab_of hc hs)
        have:=hfd o ho
        (with_reducible refine WE.go (by assumption) ?_);refine Sp.mk ?_
        refine WF.at (withinN_ T (z807 hn this) ⟨rfl,rfl⟩) (by decide)
       refine Sp.mk ?_
       refine At1.any (sd:=.lst _) (l:=fd.map fun g=>inR g (addR w (unitR n pl))) hh (by simp [SD.ds,Function.comp_def]) trivial ?_
       skip
       have eo:(fd.map fun g=>inR g (addR w (unitR n pl))).any id=fd.any fun g=>inR g (addR w (unitR n pl)):=by simp [List.any_map,Function.comp_def]
       rw [eo]
       by_cases hin:(fd.any fun g=>inR g (addR w (unitR n pl)))=true
       ·rw [hin]
        have hc:cand E n once fd w pl=none:=by unfold cand;rw [if_neg (fun q=>by rw [hin] at q;exact absurd q.2.2 (by simp))]
        refine Sp.mk ?_
        exact ⟨fin hc,Hs.lit rfl⟩
       ·have hin:(fd.any fun g=>inR g (addR w (unitR n pl)))=false:=by simpa using hin
        rw [hin]
        have hc:cand E n once fd w pl=some (addR w (unitR n pl)):=by unfold cand;rw [if_pos ⟨hA,hO,hin⟩]
        refine Sp.mk ?_
        refine W1.setRow (n:=2) r ?_ (by with_unfolding_all rfl)
        (with_reducible refine WE.go (by assumption) ?_);refine Sp.mk ?_
        refine ⟨rfl,?_⟩
        (with_reducible refine WE.go (by assumption) ?_);refine Sp.mk ?_;(with_reducible refine WE.go (by assumption) ?_);refine Sp.mk ?_
        obtain ⟨gs,hgs⟩:=cands_pre (E:=E) (n:=n) (once:=once) (found:=fd) (p:=pl) hk
        refine ⟨e,_,_,[],_,rfl,rfl,rfl,?_,?_⟩
        ·rw [hgs] at s4
         exact Nat.le_trans foldl_part (Nat.le_trans s4 (by decide))
        ·(with_reducible refine WS.goK (by assumption) ?_);refine Sp.mk ?_
         refine ⟨by rw [tk,List.filterMap_append];simp [hc,List.foldl_append],Hs.lit rfl⟩
      ·have hq:once=true/\¬(addR w (unitR n pl)).getD (n-1) 0<2:=by
        cases once with
        | false=>exact absurd (fun z=>by cases z) hO
        | true=>exact ⟨rfl,fun z=>hO fun _=>z⟩
       refine brF (by rw [hq.1];rfl) ?_
       refine Sp.mk ?_
       refine WSb.item (sd:=.tup _) trivial z781 z782 (by simp only [SD.ds,List.length_map];exact z811 hpl hfl) hlast ?_
       refine brF (decide_eq_false hq.2) ?_
       refine Sp.mk ?_
       exact ⟨fin (by unfold cand;rw [if_neg fun q=>hO q.2.1]),Hs.lit rfl⟩
     ·refine brF (decide_eq_false hA) ?_
      refine Sp.mk ?_
      exact ⟨fin (by unfold cand;rw [if_neg fun q=>hA q.1]),Hs.lit rfl⟩
    ·obtain ⟨rfl,hv⟩:=hL
     (with_reducible refine WS.base (by assumption) ?_;refine WS.goK (by assumption) ?_);refine Sp.mk ?_
     refine ⟨?_,Hs.lit rfl⟩
     rw [take_next hk,cands_snoc,List.take_length]
   ·obtain ⟨rfl,hv⟩:=hL
    rw [List.take_length]
    (with_reducible refine WS.base (by assumption) ?_;refine WS.goK (by assumption) ?_);refine Sp.mk ?_
    refine At1.listRows List.mem_cons_self hh (Nat.le_trans s4 (by decide)) (.inl ?_)
    refine Sp.mk ?_
    refine ⟨k-1,z812 hj hjK,j+1,[_,_],z813 hj hjK,by rw [e1];rfl,?_⟩
    rw [e2,e4];exact Hs.lit rfl
end
structure Lst (E:List (List Int))(n:Nat)(out:List (List Int)):Prop where
 srt:out.Pairwise fun x y=>keyLt x y=true
 mem:∀s,s∈out↔Least E n s
 few:out.length<64
theorem Lst.of {E:List (List Int)}{n:Nat}{found out:List (List Int)}(nd:found.Nodup)(hm:∀s,s∈found↔Least E n s)(hl:found.length<64)(hp:out.Perm found)(hs:out.Pairwise keyLe):Lst E n out where
 srt:=by
  refine (List.pairwise_and_iff.mpr ⟨hs,(hp.nodup_iff.mpr nd)⟩).imp fun {x y} h=> ?_
  cases q:keyLt x y with
  | true=>rfl
  | false=>exact absurd (keyLt_total q h.1) h.2
 mem:=fun s=>hp.mem_iff.trans (hm s)
 few:=by exact hp.length_eq▸hl
theorem sorted_eq:∀{l l':List (List Int)},l.Pairwise (fun x y=>keyLt x y=true)->l'.Pairwise (fun x y=>keyLt x y=true)->(∀s,s∈l↔s∈l')->l=l'
 | [],[],_,_,_=>rfl
 | [],y::l',_,_,h=>by have:=(h y).mpr (.head _);cases this
 | x::l,[],_,_,h=>by have:=(h x).mp (.head _);cases this
 | x::l,y::l',h1,h2,h=>by
  obtain ⟨a1,b1⟩:=List.pairwise_cons.mp h1
  obtain ⟨a2,b2⟩:=List.pairwise_cons.mp h2
  have hxy:x=y:=by
   rcases List.mem_cons.mp ((h x).mp (.head _)) with e| e
   ·exact e
   ·rcases List.mem_cons.mp ((h y).mpr (.head _)) with e'| e'
    ·exact e'.symm
    ·have h3:=keyLt_trans (a2 x e) (a1 y e')
     replace h3:=(keyLt_irrefl ..).symm.trans h3;contradiction
  subst hxy
  have nx:∀{m:List (List Int)},(∀z∈m,keyLt x z=true)->x∉m:=fun hm hx=>by have:=hm x hx;replace this:=(keyLt_irrefl ..).symm.trans this;contradiction
  rw [sorted_eq b1 b2 fun s=>⟨fun hs=> ?_,fun hs=> ?_⟩]
  ·rcases List.mem_cons.mp ((h s).mp (.tail _ hs)) with rfl| q
   ·exact absurd hs (nx a1)
   ·exact q
  ·rcases List.mem_cons.mp ((h s).mpr (.tail _ hs)) with rfl| q
   ·exact absurd hs (nx a2)
   ·exact q
theorem Lst.eq {E:List (List Int)}{n:Nat}{l l':List (List Int)}(a:Lst E n l)(b:Lst E n l'):l=l':=sorted_eq a.srt b.srt fun s=>(a.mem s).trans (b.mem s).symm
section
variable {c:Cx} {σ:Sto} {X:Addr->Sto->Prop} {Q:D->Sto->Prop} {K:Frag} {C:Addr}
theorem least_ {E:List (List Int)}{n:Nat}(T:Tp c B10 N10)(S:Ks c K C "System" Bd10)(F:Fits6 E n)(hr:∀r∈E,small r/\r.length<100)(hl:E.length<100)(hn:n<100)(h1:1<=n)
  (h:∀out:List (List Int),Lst E n out->QL Q (out.map row) σ):WM c K C (Room 4) "least" [sy C n E] σ Q X:=by
 refine WM.byA 5 (ps:=["self"]) T S rfl rfl (mbind1 fun _ _ _ _ _=>rfl) (by rfl) rfl fun A fr env g r hh hs fe=> ?_
 refine Sp.mk ?_;(with_reducible refine WE.fldA (by with_unfolding_all rfl) (by assumption) ?_ (by with_unfolding_all (intro _;rfl));refine WE.go (by assumption) ?_);refine Sp.mk ?_;(with_reducible refine kFld.rules ?_);refine Sp.mk ?_;(with_reducible refine WE.fldA (by with_unfolding_all rfl) (by assumption) ?_ (by with_unfolding_all (intro _;rfl));refine WE.go (by assumption) ?_);refine Sp.mk ?_;(with_reducible refine kFld.size ?_);refine Sp.mk ?_
 refine WF.at (fewest_ T F.1 hr hl hn h1 fun found nd hm _=> ?_) (by decide)
 refine Sp.mk ?_
 have hm:=fun s=>(hm s).trans ⟨fun q=>q.1,fun q=>⟨q,fun z=>by contradiction⟩⟩
 skip
 have hf:=F.2 found nd fun s hs=>(hm s).mp hs
 refine WF.at (ranked_ T hf fun out hp hs=>(h out (.of nd hm hf hp hs)).sp) (by decide)
end
section
variable {c:Cx} {σ:Sto} {X:Addr->Sto->Prop} {Q:D->Sto->Prop} {K:Frag} {C:Addr}
theorem cell_at_ {S:List Int}{k:Int}(T:Tp c B10 N10)(hS:S.length<=63)(hk:0<=k)(hk2:k<2^60)(h:Q (.int (S.getD k.toNat 0)) σ):WF c (Room 1) "_law_cell_at" [.lst (S.map .int),.int k] σ Q X:=by
 refine WF.byA 25 (ps:=["_law_script","_law_k"]) T rfl rfl (bind2 fun _ _ _ _ _=>rfl) (by rfl) rfl fun A fr env g r hh hs fe=> ?_
 refine Sp.mk ?_
 refine At1.lenM (sd:=.lst _) (l:=S) (F:=D.int) rfl trivial (z814 hS) ?_
 by_cases hl:k<S.length
 ·refine brT (decide_eq_true hl) ?_
  refine Sp.mk ?_
  refine WSb.item (sd:=.lst _) (d:=.int (S.getD k.toNat 0)) trivial (z815 hk) (z816 hk2) (by exact z817 hk) ?_ (Sp.mk h)
  have:¬k<0:=z729 hk
  simp [SD.ds,idx,this,(z309 hk hl)]
 ·refine brF (decide_eq_false hl) ?_
  refine Sp.mk ?_
  have e:S.getD k.toNat 0=0:=by
   have:S.length<=k.toNat:=z818 hl
   simp [List.getD_eq_getElem?_getD,this]
  rw [e] at h
  exact h
theorem whole_ {i:Int}(T:Tp c B10 N10)(h:Q (.bool true) σ):WF c (Room 1) "_law_whole" [.int i] σ Q X:=by
 refine WF.byA 26 (ps:=["_law_found"]) T rfl rfl (bind1 fun _ _ _ _=>rfl) (by rfl) rfl fun A fr env g r hh hs fe=> ?_
 refine Sp.mk ?_
 refine At1.isi (b:=true) (by decide) rfl ?_
 refine Sp.mk ?_
 refine At1.isi (b:=false) (by decide) rfl ?_
 refine Sp.mk ?_
 exact h
noncomputable def numS (S:List Int)(k:Int):Int:=if k+3<S.length then S.getD (k+3).toNat 0 else 7*S.getD 1 0+S.getD 2 0*k*k+13*k
theorem number_ {S:List Int}{k:Int}(T:Tp c B10 N10)(hS:S.length<=63)(hk:0<=k)(hk2:k<1099511627776)(h:Q (.int (numS S k)) σ):WF c (Room 2) "_law_number" [.lst (S.map .int),.int k] σ Q X:=by
 refine WF.byA 28 (ps:=["_law_script","_law_k"]) T rfl rfl (bind2 fun _ _ _ _ _=>rfl) (by rfl) rfl fun A fr env g r hh hs fe=> ?_
 refine Sp.mk ?_
 refine At1.lenM (sd:=.lst _) (l:=S) (F:=D.int) rfl trivial (z814 hS) ?_
 by_cases hl:k+3<S.length
 ·refine brT (decide_eq_true hl) ?_
  unfold numS at h
  rw [if_pos hl] at h
  refine Sp.mk ?_
  refine WSb.item (sd:=.lst _) (d:=.int (S.getD (k+3).toNat 0)) trivial (z820 hk) (z821 hk2) (by exact z822 hk) ?_ (Sp.mk h)
  have:¬k+3<0:=z823 hk
  simp [SD.ds,idx,this,(z819 hk hl),List.getD_eq_getElem?_getD]
 ·refine brF (decide_eq_false hl) ?_
  unfold numS at h
  rw [if_neg hl] at h
  refine Sp.mk ?_
  refine WF.at (cell_at_ T hS (by decide) (by decide) ?_) (by decide)
  refine Sp.mk ?_
  refine WB.mul (mulOk_left (by decide)) ?_
  refine Sp.mk ?_
  refine WF.at (cell_at_ T hS (by decide) (by decide) ?_) (by decide)
  refine Sp.mk ?_
  refine WB.mul (mulOk_right (z824 hk2 hl)) ?_
  refine Sp.mk ?_
  refine WB.mul (mulOk_right (z824 hk2 hl)) ?_
  refine Sp.mk ?_
  refine WB.mul (mulOk_left (by decide)) ?_
  refine Sp.mk ?_
  exact h
noncomputable def szS (S:List Int):Nat:=if S.getD 0 0/12 % 24=7 then 5 else (1+S.getD 0 0 % 4).toNat
theorem szS_ok (S:List Int):1<=szS S/\szS S<=5:=by
 unfold szS
 split<;>lia
theorem size_ {S:List Int}(T:Tp c B10 N10)(hS:S.length<=63)(h:Q (.int (szS S)) σ):WF c (Room 2) "_law_size" [.lst (S.map .int)] σ Q X:=by
 refine WF.byA 29 (ps:=["_law_script"]) T rfl rfl (bind1 fun _ _ _ _=>rfl) (by rfl) rfl fun A fr env g r hh hs fe=> ?_
 unfold szS at h
 refine Sp.mk ?_
 refine WF.at (cell_at_ T hS (by decide) (by decide) ?_) (by decide)
 refine Sp.mk ?_;(with_reducible refine WS.goK (by assumption) ?_)
 by_cases h7:S.getD 0 0/12 % 24=7
 ·refine brT (show (S.getD 0 0/12 % 24==7)=true by simpa using h7) ?_
  rw [if_pos h7] at h
  refine Sp.mk ?_
  exact h
 ·refine brF (show (S.getD 0 0/12 % 24==7)=false by simpa using h7) ?_
  rw [if_neg h7] at h
  refine Sp.mk ?_
  rw [show (((1+S.getD 0 0 % 4).toNat:Nat):Int)=1+S.getD 0 0 % 4 by exact z827] at h
  exact h
theorem mostN_ok (n m:Nat):1<=mostN n m/\mostN n m<=20:=by
 unfold mostN
 repeat' split
 all_goals decide
theorem most_ {n k:Nat}(T:Tp c B10 N10)(hk:k<=3)(h:Q (.int (mostN n k)) σ):WF c (Room 1) "_law_most" [.int n,.int k] σ Q X:=by
 refine WF.byA 30 (ps:=["_law_size_here","_law_many"]) T rfl rfl (bind2 fun _ _ _ _ _=>rfl) (by rfl) rfl fun A fr env g r hh hs fe=> ?_
 unfold mostN at h
 skip
 by_cases h3:n<3
 ·refine brT (decide_eq_true (z663 h3)) ?_
  rw [if_pos h3] at h
  refine Sp.mk ?_
  exact h
 refine brF (decide_eq_false (z667 h3)) ?_
 rw [if_neg h3] at h
 refine Sp.mk ?_;(with_reducible refine WS.goK (by assumption) ?_)
 by_cases h4:n=3
 ·refine brT (show ((n:Int)==3)=true by simp [h4]) ?_
  rw [if_pos h4] at h
  refine Sp.mk ?_
  refine .inl ?_
  refine Sp.mk ?_
  refine WSb.at (sd:=.lst _) (d:=.int (if k<2 then 5 else 2)) rfl trivial ?_ (z832 hk) (Sp.mk h)
  rcases ((z833 hk):k=0\/k=1\/k=2\/k=3) with rfl| rfl| rfl| rfl<;>rfl
 ·refine brF (show ((n:Int)==3)=false by simp;exact z725 h4) ?_
  rw [if_neg h4] at h
  refine Sp.mk ?_
  refine .inl ?_
  refine Sp.mk ?_
  refine WSb.at (sd:=.lst _) (d:=.int (if k<2 then 2 else 1)) rfl trivial ?_ (z832 hk) (Sp.mk h)
  rcases ((z833 hk):k=0\/k=1\/k=2\/k=3) with rfl| rfl| rfl| rfl<;>rfl
noncomputable def manyS (S:List Int):Nat:=[0,1,1,1,2,1,2,3].getD (S.getD 0 0/4 % 3+S.getD 1 0 % 6).toNat 0
theorem manyS_ok (S:List Int):manyS S<=3:=by
 unfold manyS
 generalize (S.getD 0 0/4 % 3+S.getD 1 0 % 6).toNat=i
 match i with
 | 0=>decide
 | 1=>decide
 | 2=>decide
 | 3=>decide
 | 4=>decide
 | 5=>decide
 | 6=>decide
 | 7=>decide
 | i+8=>exact Nat.zero_le _
inductive SysL (S:List Int)(n k:Nat)(q:Int)(a:Addr)(σ:Sto)(j:Nat)(m':Vars)(σ':Sto):Prop
 | mk (rows:List (List Int)) (hl:rows.length=j) (hj:j<=k) (hr:∀r∈rows,r.length=n/\∀x∈r,-q<=x/\x<=q) (eq:σ'=(a,.lst (rows.map il))::σ) (hv:Hs m' [("_law_found",.ref a),("_law_most_here",.int q),("_law_size_here",.int n),("_law_script",.lst (S.map D.int))]):SysL S n k q a σ j m' σ'
theorem system_ {S:List Int}(T:Tp c B10 N10)(hS:S.length<=63)
  (h:∀rows:List (List Int),rows.length=manyS S->(∀r∈rows,r.length=szS S/\∀x∈r,-(mostN (szS S) (manyS S))<=x/\x<=mostN (szS S) (manyS S))->Q (rl rows) σ):WF c (Room 4) "_law_system" [.lst (S.map .int)] σ Q X:=by
 refine WF.byA 31 (ps:=["_law_script"]) T rfl rfl (bind1 fun _ _ _ _=>rfl) (by rfl) rfl fun A fr env g r hh hs fe=> ?_
 have hn:=szS_ok S
 have hm:=manyS_ok S
 generalize hN:szS S=n at h hn
 refine Sp.mk ?_
 refine WF.at (size_ T hS ?_) (by decide)
 refine Sp.mk ?_
 rw [hN]
 skip
 refine .inl ?_
 refine Sp.mk ?_
 refine WF.at (cell_at_ T hS (by decide) (by decide) ?_) (by decide)
 refine Sp.mk ?_
 refine WF.at (cell_at_ T hS (by decide) (by decide) ?_) (by decide)
 refine Sp.mk ?_
 refine WSb.at (sd:=.lst _) (d:=.int (manyS S)) (k:=(S.getD 0 0/4 % 3+S.getD 1 0 % 6).toNat) ?_ trivial ?_ z834 ?_
 ·exact z835
 ·unfold manyS
  have hi:(S.getD 0 0/4 % 3+S.getD 1 0 % 6).toNat<8:=z836
  generalize (S.getD 0 0/4 % 3+S.getD 1 0 % 6).toNat=i at hi⊢
  rcases ((z837 hi):i=0\/i=1\/i=2\/i=3\/i=4\/i=5\/i=6\/i=7) with rfl| rfl| rfl| rfl| rfl| rfl| rfl| rfl<;>rfl
 generalize manyS S=k at h hm
 refine Sp.mk ?_
 refine WF.at (most_ T hm ?_) (by decide)
 refine Sp.mk ?_
 have hq:=mostN_ok n k
 generalize mostN n k=q at h hq
 skip
 refine .inr fun a ha=> ?_
 refine Sp.mk ?_
 refine ⟨z653,z697 hm,?_⟩
 simp only [Int.toNat_natCast]
 refine Loop.of (SysL S n k q a σ)
  (fun _ _=>kinds1 (by with_unfolding_all exact Or.inr (kindOf_of (by assumption) (by rfl)))) ⟨[],rfl,Nat.zero_le _,fun _ h=>(by cases h),rfl,Hs.lit rfl⟩ (fun _ _ _ _=>trivial) (fun j i m' σ' hi hL fr'=> ?_) (fun m' σ' hL=> ?_)
 ·obtain ⟨rows,rfl,hj,hr,rfl,hv⟩:=hL
  have hi':i=rows.length/\i<k:=by
   obtain ⟨h1,h2⟩:=List.getElem?_eq_some_iff.mp hi
   simp at h1 h2
   exact z838 h1 h2
  obtain ⟨rfl,hik⟩:=hi'
  (with_reducible refine WS.base (Hs.both (by assumption) _) ?_;refine WS.goN (by assumption) ?_);refine Sp.mk ?_
  refine ⟨z653,z674 hn.2,?_⟩
  rw [Int.toNat_natCast]
  refine Turns.map (fun p:Nat=>.int (numS S ((rows.length:Int)*n+p))) (fun _ _=>loc1 rfl) trivial (by (simp only [SD.ds,List.length_map,List.length_range,List.length_zip,List.length_take,List.length_drop,List.length_append,List.length_replicate,List.length_cons,List.length_nil,sizeLine]<;>lia)) (fun p hp fr' cenv hc=> ?_) (.inl ?_)
  ·have g:=g.at (relab_of hc hs)
   have hp':=List.mem_range.mp hp
   (with_reducible refine WE.go (by assumption) ?_);refine Sp.mk ?_
   refine WB.mul (mulOk_left (z839 hm hj)) ?_
   refine Sp.mk ?_
   have b1:(rows.length:Int)*n<=15:=by
    have:(rows.length:Int)*n<=3*5:=Int.mul_le_mul (by exact z840 hm hj) (by lia) (by lia) (by lia)
    exact z843 this
   have b0:0<=(rows.length:Int)*n:=Int.mul_nonneg z289 z289
   refine WF.at (number_ T hS (z844 b0) (z845 b1 hp' hn.2) ?_) (by decide)
   refine Sp.mk ?_
   exact ⟨rfl,rfl⟩
  refine Sp.mk ?_
  refine ⟨.ref a _,rfl,rfl,List.mem_cons_self,?_⟩
  refine Sp.mk ?_
  refine WIv.seqA rfl (sd:=.lst _) (fun p:Nat=>.int (numS S ((rows.length:Int)*n+p))) hh rfl trivial (Turns.map (fun p=>.int (numS S ((rows.length:Int)*n+p) % (2*q+1)-q)) (fun _ _=>loc1 rfl) trivial (by (simp only [SD.ds,List.length_map,List.length_range,List.length_zip,List.length_take,List.length_drop,List.length_append,List.length_replicate,List.length_cons,List.length_nil,sizeLine]<;>lia)) (fun p hp fr' cenv hc=> ?_) (.inl ?_))
  ·have g:=g.at (relab_of hc hs)
   (with_reducible refine WE.go (by assumption) ?_);refine Sp.mk ?_
   refine WB.mul (mulOk_left (by decide)) ?_
   refine Sp.mk ?_
   refine WB.modE (z846 hq.1) (z847 hq.1 hq.2) ?_
   refine Sp.mk ?_
   exact ⟨rfl,rfl⟩
  refine Sp.mk ?_
  refine At1.append (σ1:=[]) (by (simp only [SD.ds,List.length_map,List.length_range,List.length_zip,List.length_take,List.length_drop,List.length_append,List.length_replicate,List.length_cons,List.length_nil,sizeLine]<;>lia)) ?_
  refine Sp.mk ?_
  refine ⟨rows++[(List.range n).map fun (p:Nat)=>numS S ((rows.length:Int)*n+p) % (2*q+1)-q],by simp,hik,fun r hr'=> ?_,by simp [Function.comp_def],Hs.lit rfl⟩
  rcases List.mem_append.mp hr' with z| z
  ·exact hr r z
  ·rw [List.mem_singleton.mp z]
   refine ⟨by simp,fun x hx=> ?_⟩
   obtain ⟨p,_,rfl⟩:=List.mem_map.mp hx
   have h1:=Int.emod_nonneg (numS S ((rows.length:Int)*n+p)) (show 2*q+1≠0 by exact z702)
   have h2:=Int.emod_lt_of_pos (numS S ((rows.length:Int)*n+p)) (show 0<2*q+1 by exact z846 hq.1)
   exact z703 h1 h2
 ·obtain ⟨rows,h1,h2,hr,rfl,hv⟩:=hL
  rw [List.length_range] at h1
  refine WS.cons (W1.ret (WE.freeze ?_))
  (with_reducible refine WE.base (by assumption) ?_;refine WE.go (by assumption) ?_);refine Sp.mk ?_
  exact ⟨a,_,[],σ,rfl,rfl,Sp.mk (h rows h1 hr)⟩
end
section
variable {c:Cx} {σ:Sto} {X:Addr->Sto->Prop} {Q:D->Sto->Prop} {K:Frag} {C:Addr}
theorem okW_of {n:Nat}{q:Int}{r:List Int}(h:r.length=n/\∀x∈r,-q<=x/\x<=q)(hq:q<=20):okW n r:=⟨h.1,fun x hx=>by have:=h.2 x hx;exact z594 this.1 hq this.2⟩
theorem small_of {n:Nat}{r:List Int}(h:okW n r)(hn:n<=5):small r/\r.length<100:=⟨fun x hx=>by have:=h.2 x hx;exact z718 this.1 this.2,by exact z849 (h.1) hn⟩
noncomputable def lstW (rows:List (List Int)):List (SD × List Int):=rows.map fun r=>(SD.lst (r.map D.int),r)
theorem lstW_d {rows:List (List Int)}:rows.map il=(lstW rows).map fun w=>w.1.d:=by unfold lstW;simp only [List.map_map];rfl
theorem lstW_2 {rows:List (List Int)}:(lstW rows).map (·.2)=rows:=by exact (List.map_map ..).trans (List.map_id _)
theorem lstW_len {rows:List (List Int)}:(lstW rows).length=rows.length:=by simp [lstW]
theorem lstW_ok {rows:List (List Int)}{w:SD × List Int}(h:w∈lstW rows):Ints σ w.1 w.2/\w.2∈rows:=by
 obtain ⟨p,hp,rfl⟩:=List.mem_map.mp h
 exact ⟨⟨rfl,rfl,trivial⟩,hp⟩
theorem Py.lists {xs:List (List Int)}{n:Nat}:Py (n+3) (.lst (xs.map il)) (.list (xs.map fun r=>.list (r.map .int))):=.lst (.map fun _ _=>Py.ints)
end
section
variable {c:Cx} {σ:Sto} {X:Addr->Sto->Prop} {Q:D->Sto->Prop} {K:Frag} {C:Addr}
theorem rows_ {sd:SD}{l:List (List Int)}{n:Nat}(T:Tp c B10 N10)(hL:sd.isL=true)(inv:sd.inv σ)(hd:sd.ds=l.map row)(hl:∀r∈l,r.length=n)(hn:n<100)(h:Q (.bool true) σ):WF c (Room 2) "_law_rows" [sd.d,.int n] σ Q X:=by
 refine WF.byA 27 (ps:=["_law_found","_law_size_here"]) T rfl rfl (bind2 fun _ _ _ _ _=>rfl) (by rfl) rfl fun A fr env g r hh hs fe=> ?_
 refine Sp.mk ?_
 refine At1.isiL hL inv ?_
 refine Sp.mk ?_
 refine WIv.seqA rfl row hh hd inv ?_
 refine Loop.of (fun k m' σ'=>σ'=σ/\Hs m' [("_law_size_here",.int n)]) (fun _ _=>kinds1 (by with_unfolding_all exact .inl (kindOf_of (by assumption) (by rfl)))) ⟨rfl,Hs.lit rfl⟩ (fun _ _ _ hL=>by rw [hL.1];exact inv) (fun k w m' σ' hk hL fr'=> ?_) (fun m' σ' hL=> ?_)
 ·obtain ⟨rfl,hv⟩:=hL
  have hw:=hl w (List.mem_of_getElem? hk)
  (with_reducible refine WS.base (Hs.both (by assumption) _) ?_;refine WS.goN (by assumption) ?_);refine Sp.mk ?_
  refine At1.isi (b:=true) (by decide) rfl ?_
  refine Sp.mk ?_
  refine At1.len (sd:=.tup _) trivial (by simp only [SD.ds,List.length_map];exact z626 hn hw) ?_
  skip
  rw [show ((SD.tup (w.map D.int)).ds.length:Int)=n by simp [SD.ds,hw]]
  skip
  refine brF (show ((n:Int) !=n)=false by simp) ?_
  refine Sp.mk ?_
  refine WIv.seqA rfl (sd:=.tup _) D.int hh rfl trivial ?_
  refine Loop.of (fun k m' σ''=>σ''=σ'/\Hs m' [("_law_size_here",.int n)]) (fun _ _=>kinds1 (by with_unfolding_all exact .inl (kindOf_of (by assumption) (by rfl)))) ⟨rfl,Hs.lit rfl⟩ (fun _ _ _ hL=>trivial) (fun k x m' σ'' hk hL fr'=> ?_) (fun m' σ'' hL=> ?_)
  ·obtain ⟨rfl,hv⟩:=hL
   (with_reducible refine WS.base (Hs.both (by assumption) _) ?_;refine WS.goN (by assumption) ?_);refine Sp.mk ?_
   refine WF.at (whole_ T ?_) (by decide)
   refine Sp.mk ?_
   exact ⟨rfl,Hs.lit rfl⟩
  ·obtain ⟨rfl,hv⟩:=hL
   (with_reducible refine WS.base (by assumption) ?_;refine WS.goK (by assumption) ?_);refine Sp.mk ?_
   exact ⟨rfl,Hs.lit rfl⟩
 ·obtain ⟨rfl,hv⟩:=hL
  (with_reducible refine WS.base (by assumption) ?_;refine WS.goK (by assumption) ?_);refine Sp.mk ?_
  exact h
theorem inR_false {xs ys:List Int}{k:Nat}{q:Int × Int}(h:(xs.zip ys)[k]? =some q)(hq:q.2<q.1):inR xs ys=false:=by
 unfold inR
 rw [List.all_eq_false]
 exact ⟨q,List.mem_of_getElem? h,by simp;exact hq⟩
theorem lawWithin_ {xs ys:List Int}(T:Tp c B10 N10)(h:Q (.bool (inR xs ys)) σ):WF c (Room 1) "_law_within" [row xs,row ys] σ Q X:=by
 refine WF.byA 34 (ps:=["_law_one","_law_other"]) T rfl rfl (bind2 fun _ _ _ _ _=>rfl) (by rfl) rfl fun A fr env g r hh hs fe=> ?_
 refine Sp.mk ?_
 refine ⟨_,_,.tup _,.tup _,xs,ys,D.int,D.int,rfl,rfl,rfl,rfl,trivial,trivial,?_⟩
 refine Loop.of (fun k m' σ'=>σ'=σ/\∀q∈(xs.zip ys).take k,q.1<=q.2) (fun _ _=>kinds2 (by with_unfolding_all exact .inl (kindOf_of (by assumption) (by rfl))) (by with_unfolding_all exact .inl (kindOf_of (by assumption) (by rfl)))) ⟨rfl,by simp⟩ (fun _ _ _ hL=>⟨trivial,trivial⟩) (fun k q m' σ' hk hL fr'=> ?_) (fun m' σ' hL=> ?_)
 ·obtain ⟨rfl,e1⟩:=hL
  (with_reducible refine WS.goN (by assumption) ?_)
  by_cases hq:q.1>q.2
  ·refine brT (decide_eq_true hq) ?_
   refine Sp.mk ?_
   rw [inR_false hk hq] at h
   exact h
  ·refine brF (decide_eq_false hq) ?_
   refine Sp.mk ?_
   refine ⟨rfl,fun p hp=> ?_⟩
   rw [take_next hk] at hp
   rcases List.mem_append.mp hp with z| z
   ·exact e1 p z
   ·rw [List.mem_singleton.mp z];exact z850 hq
 ·obtain ⟨rfl,e1⟩:=hL
  rw [List.take_length] at e1
  have e2:inR xs ys=true:=by unfold inR;rw [List.all_eq_true];exact fun q hq=>by simpa using e1 q hq
  rw [e2] at h
  (with_reducible refine WS.goK (by assumption) ?_);refine Sp.mk ?_
  exact h
theorem key_ {xs:List Int}(T:Tp c B10 N10)(h:Q (keyD xs) σ):WF c (Room 1) "_law_key" [row xs] σ Q X:=by
 refine WF.byA 35 (ps:=["_law_row"]) T rfl rfl (bind1 fun _ _ _ _=>rfl) (by rfl) rfl fun A fr env g r hh hs fe=> ?_
 refine Sp.mk ?_
 refine At1.sum (sd:=.tup _) (l:=xs) hh rfl trivial ?_
 refine Sp.mk ?_
 exact h
end
theorem eqvRows:∀{xs ys:List (List Int)},PyData.eqvAll (xs.map fun r=>.tuple (r.map .int)) (ys.map fun r=>.tuple (r.map .int))=decide (xs=ys)
 | [],[]=>rfl
 | [],_::_=>rfl
 | _::_,[]=>rfl
 | a::r,b::t=>by
  simp only [List.map_cons,PyData.eqvAll,eqvRows (xs:=r) (ys:=t)]
  have:PyData.eqv (.tuple (a.map .int)) (.tuple (b.map .int))=decide (a=b):=eqv_all a b
  rw [this]
  by_cases h1:a=b<;>by_cases h2:r=t<;>simp
theorem eqvRows1 {xs:List (List Int)}:PyData.eqv (.list (xs.map fun r=>.tuple (r.map .int))) (.list (xs.map fun r=>.tuple (r.map .int)))=true:=(eqvRows (xs:=xs) (ys:=xs)).trans (by simp)
theorem clip_nat (n k:Nat):clipAt n (k:Int)=min k n:=by
 unfold clipAt
 rw [if_neg (Int.not_lt.mpr (Int.natCast_nonneg k))]
 rcases Nat.le_total k n with h| h
 ·simp only [Int.min_eq_left (Int.ofNat_le.mpr h),Int.max_eq_right (Int.natCast_nonneg k),Int.toNat_natCast,Nat.min_eq_left h]
 ·simp only [Int.min_eq_right (Int.ofNat_le.mpr h),Int.max_eq_right (Int.natCast_nonneg n),Int.toNat_natCast,Nat.min_eq_right h]
theorem pick_upto {ds:List D}{k:Nat}:pick ds none (some (k:Int))=ds.take k:=by
 have:clipAt ds.length (k:Int)=min k ds.length:=clip_nat _ _
 simp only [pick,Option.elim_some,this]
 exact List.take_eq_take_iff.mpr z851
theorem getD_row {x:List Int}{n p:Nat}(hx:x.length=n)(hp:p<n):(x.map D.int)[p]? =some (.int (x.getD p 0)):=by
 have:p<x.length:=z23 hp hx
 simp [this]
theorem unit_cat {n p:Nat}(hp:p<n):List.replicate p (0:Int)++[1]++List.replicate (n-p-1) 0=unitR n p:=by
 refine ext_get (by simp [unitR_len];exact z863 hp) fun i hi=> ?_
 have hi':i<n:=by simp at hi;exact z864 hp hi
 rw [unitR_get n p i hi',List.getD_eq_getElem?_getD,List.append_assoc,List.getElem?_append]
 rw [List.length_replicate]
 by_cases h1:i<p
 ·rw [if_pos h1,List.getElem?_replicate,if_pos h1,if_neg (z8 h1)];rfl
 ·rw [if_neg h1]
  by_cases h2:i=p
  ·subst h2;simp
  ·rw [if_neg h2]
   obtain ⟨k,hk⟩:∃k,i-p=k+1:=⟨i-p-1,z865 h1 h2⟩
   rw [hk]
   have:k<n-p-1:=z866 hk hi'
   simp [this]
section
variable {c:Cx} {σ:Sto} {X:Addr->Sto->Prop} {Q:D->Sto->Prop} {K:Frag} {C:Addr}
theorem joined_ {n:Nat}{rows:List (List Int)}{f:List Int}(T:Tp c B10 N10)(G:Gi c G10)(S:Ks c K C "System" Bd10)(hr:∀r∈rows,okW n r)(h2:rows.length<=2)(hf:okW n f)(h1:1<=n)(h5:n<=5)(h:Q (sy C n (rows++[f])) σ):WM c K C (Room 6) "joined" [sy C n rows,il f] σ Q X:=by
 refine WM.byG 9 (ps:=["self","weights"]) T G S rfl rfl (mbind2 fun _ _ _ _ _ _=>rfl) (by rfl) rfl fun A fr env g r hh hs fe=> ?_
 have m1:Mth K C "__init__":=Mth.byA 0 S rfl rfl
 have m2:Mth K C "equations":=Mth.byA 1 S rfl rfl
 refine Sp.mk ?_;(with_reducible refine WE.callCA (by with_unfolding_all rfl) (by assumption) (by assumption) (by assumption) (by with_unfolding_all exact kindOf_of (by assumption) (by rfl)) (by assumption) ?_ (by with_unfolding_all rfl) (by with_unfolding_all decide);refine WA.go (by assumption) ?_);refine Sp.mk ?_;(with_reducible refine WE.fldA (by with_unfolding_all rfl) (by assumption) ?_ (by with_unfolding_all (intro _;rfl));refine WE.go (by assumption) ?_);refine Sp.mk ?_;(with_reducible refine kFld.size ?_);refine Sp.mk ?_;(with_reducible refine WE.mthA (by with_unfolding_all rfl) (by assumption) (by assumption) (by assumption) ?_ (by with_unfolding_all decide) (by with_unfolding_all decide) (by with_unfolding_all rfl) (by with_unfolding_all (intro _;rfl)) (by with_unfolding_all rfl) (by with_unfolding_all rfl);refine WE.go (by assumption) ?_);refine Sp.mk ?_;(with_reducible refine kMeth.mk ?_;refine WA.go (by assumption) ?_);refine Sp.mk ?_
 refine WM.at (equationsF_ T S (z867 h2) (fun x hx=>by exact z868 ((hr x hx).1) h5) (.inl ?_)) (by decide)
 refine Sp.mk ?_
 refine .inl ?_
 refine Sp.mk ?_
 refine WB.addL (sd1:=.lst _) (sd2:=.lst _) rfl rfl trivial trivial (by simp only [SD.ds,List.length_map,List.length_cons,List.length_nil];exact z869 h2) (.inl ?_)
 refine Sp.mk ?_
 simp only [SD.ds]
 rw [show rows.map il++[il f]=(rows++[f]).map il by simp]
 skip
 intro dx hdx
 have hr2:∀r∈rows++[f],okW n r:=fun r hr'=>by
  rcases List.mem_append.mp hr' with q| q
  ·exact hr r q
  ·rw [List.mem_singleton.mp q];exact hf
 refine WM.at (new_ (sd:=.lst _) (ws:=lstW (rows++[f])) T G S rfl trivial lstW_d ⟨fun w hw=>⟨(lstW_ok hw).1,hr2 _ (lstW_ok (σ:=[]) hw).2⟩,by rw [lstW_len];simp;exact h2⟩ h1 h5 ?_ dx) (by decide)
 refine Sp.mk ?_
 rw [lstW_2]
 exact h
end
structure BegL (E:List (List Int))(n:Nat)(t:List Int)(out:List (List Int)):Prop where
 srt:out.Pairwise fun x y=>keyLt x y=true
 mem:∀x,x∈out↔Min E n t x
 few:out.length<64
theorem BegL.of {E:List (List Int)}{n:Nat}{t:List Int}{found out:List (List Int)}(nd:found.Nodup)(hm:∀s,s∈found↔Min E n t s)(hl:found.length<64)(hp:out.Perm found)(hs:out.Pairwise keyLe):BegL E n t out where
 srt:=by
  refine (List.pairwise_and_iff.mpr ⟨hs,(hp.nodup_iff.mpr nd)⟩).imp fun {x y} h=> ?_
  cases q:keyLt x y with
  | true=>rfl
  | false=>exact absurd (keyLt_total q h.1) h.2
 mem:=fun s=>hp.mem_iff.trans (hm s)
 few:=by exact hp.length_eq▸hl
theorem BegL.eq {E E':List (List Int)}{n:Nat}{t t':List Int}{l l':List (List Int)}(a:BegL E n t l)(b:BegL E' n t' l')(h:∀x,Min E n t x↔Min E' n t' x):l=l':=sorted_eq a.srt b.srt fun s=>(a.mem s).trans ((h s).trans (b.mem s).symm)
theorem BegL.only {E:List (List Int)}{n:Nat}{t:List Int}{l:List (List Int)}{r:List Int}(a:BegL E n t l)(h:∀x,Min E n t x↔x=r):l=[r]:=sorted_eq a.srt (List.pairwise_singleton _ _) fun s=>(a.mem s).trans ((h s).trans (by simp))
theorem BegL.none {E:List (List Int)}{n:Nat}{t:List Int}{l:List (List Int)}(a:BegL E n t l)(h:∀x,¬Min E n t x):l=[]:=List.eq_nil_iff_forall_not_mem.mpr fun s hs=>h s ((a.mem s).mp hs)
theorem begF_eq (n:Nat)(l:List (List Int)):l.filterMap (fun s=>if s.getD n 0=1 then some (row (s.take n)) else none)=(begF n l).map row:=by
 unfold begF
 induction l with
 | nil=>rfl
 | cons s l ih=>
  by_cases q:s.getD n 0=1
  ·simp only [List.filterMap_cons,if_pos q,ih,List.filter_cons,decide_eq_true q,if_true,List.map_cons]
  ·simp only [List.filterMap_cons,if_neg q,ih,List.filter_cons,decide_eq_false q,Bool.false_eq_true,if_false]
section
variable {c:Cx} {σ:Sto} {X:Addr->Sto->Prop} {Q:D->Sto->Prop} {K:Frag} {C:Addr}
theorem begins_ {sd:SD}{E:List (List Int)}{n:Nat}{t:List Int}(T:Tp c B10 N10)(G:Gi c G10)(S:Ks c K C "System" Bd10)(B:Beg E n t)(hEl:E.length=t.length)(hr:∀r∈E,okW n r)(hw:Ints σ sd t)(ok:okW E.length t)(h3:E.length<=3)(h1:1<=n)(h5:n<=5)
  (h:∀out:List (List Int),BegL E n t out->QL Q (out.map row) σ):WM c K C (Room 5) "begins" [sy C n E,sd.d] σ Q X:=by
 refine WM.byG 8 (ps:=["self","wants"]) T G S rfl rfl (mbind2 fun _ _ _ _ _ _=>rfl) (by rfl) rfl fun A fr env g r hh hs fe=> ?_
 have hE:=fun e he=>(hr e he).1
 refine Sp.mk ?_;(with_reducible refine WE.fldA (by with_unfolding_all rfl) (by assumption) ?_ (by with_unfolding_all (intro _;rfl));refine WE.go (by assumption) ?_);refine Sp.mk ?_;(with_reducible refine kFld.rules ?_);refine Sp.mk ?_
 refine At1.lenM (sd:=.lst _) (l:=E) (F:=il) rfl trivial (z661 h3) ?_
 refine Sp.mk ?_;(with_reducible refine WS.goK (by assumption) ?_);refine Sp.mk ?_
 refine WF.at (is_weights_ T G hw ok (z672 h3) ?_) (by decide)
 refine Sp.mk ?_;(with_reducible refine WE.fldA (by with_unfolding_all rfl) (by assumption) ?_ (by with_unfolding_all (intro _;rfl));refine WE.go (by assumption) ?_);refine Sp.mk ?_;(with_reducible refine kFld.rules ?_);refine Sp.mk ?_
 refine ⟨_,_,.lst _,sd,E,t,il,D.int,rfl,rfl,rfl,hw.ds,trivial,hw.inv,Turns.map (fun q=>il (q.1++[-q.2])) (fun _ _=>loc2 rfl rfl) ⟨trivial,hw.inv⟩ (by rw [List.length_zip];simp only [sizeLine];exact z852 h3) (fun q hq fr' cenv hc=> ?_) (.inl ?_)⟩
 ·have g:=g.at (relab_of hc hs)
  have:=hE _ (List.of_mem_zip hq).1
  (with_reducible refine WE.go (by assumption) ?_);refine Sp.mk ?_
  refine .inl ?_
  refine Sp.mk ?_
  refine WB.addL (sd1:=.lst _) (sd2:=.lst _) rfl rfl trivial trivial (by simp only [SD.ds,List.length_map,List.length_cons,List.length_nil,sizeLine];exact z853 this h5) (.inl ?_)
  refine Sp.mk ?_
  exact ⟨rfl,by show D.lst (q.1.map D.int++[D.int (-q.2)])=D.lst ((q.1++[-q.2]).map D.int);rw [List.map_append];rfl⟩
 rw [show (E.zip t).map (fun q=>il (q.1++[-q.2]))=(widR E t).map il by unfold widR;rw [List.map_map];rfl]
 refine Sp.mk ?_;(with_reducible refine WE.fldA (by with_unfolding_all rfl) (by assumption) ?_ (by with_unfolding_all (intro _;rfl));refine WE.go (by assumption) ?_);refine Sp.mk ?_;(with_reducible refine kFld.size ?_);refine Sp.mk ?_
 rw [show (n:Int)+1=((n+1:Nat):Int) by exact z854]
 refine WF.at (fewest_ T B.fits (fun f hf=> ?_) (by unfold widR;rw [List.length_map,List.length_zip];exact z855 h3) (z856 h5) z235 fun found nd hm hle=> ?_) (by decide)
 ·obtain ⟨e,τ,he,hτ,rfl⟩:=widR_mem hf
  refine ⟨fun x hx=> ?_,by rw [List.length_append,hE e he];simp;exact z856 h5⟩
  rcases List.mem_append.mp hx with q| q
  ·have:=(hr e he).2 x q;exact z718 this.1 this.2
  ·rw [List.mem_singleton.mp q];have:=ok.2 τ hτ;exact z857 this.1 this.2
 refine Sp.mk ?_
 refine WIv.seqA rfl (sd:=.lst _) row hh rfl trivial (Turns.of (fun s=>if s.getD n 0=1 then some (row (s.take n)) else none) (fun _ _=>loc1 rfl) trivial (by simp only [sizeLine];exact z806 hle) (fun s hs' fr' cenv hc=>WIfs.one ?_) (.inl ?_))
 ·have g:=g.at (relab_of hc hs)
  have hl:=((hm s).mp hs').1.row.len
  (with_reducible refine WT.go (by assumption) ?_);refine Sp.mk ?_
  refine WSb.item (sd:=.tup _) (d:=.int (s.getD n 0)) trivial z781 z782 (by simp only [SD.ds,List.length_map];exact z858 hl) ?_ ?_
  ·simp only [SD.ds,List.length_map,idx,hl]
   rw [if_pos z784,show ((-1:Int)+((n+1:Nat):Int)).toNat=n by exact z859,List.getElem?_map,List.getD_eq_getElem?_getD,List.getElem?_eq_getElem (z860 hl)];rfl
  refine Sp.mk ?_
  by_cases q:s.getD n 0=1
  ·refine brT (by simpa using q) ?_
   refine WE.sliceTc ?_ (ht:=by with_unfolding_all (intro _ _;rfl))
   (with_reducible refine WE.go (by assumption) ?_);refine Sp.mk ?_;(with_reducible refine WE.go (by assumption) ?_);refine Sp.mk ?_
   refine ⟨_,rfl,rfl,by rw [List.length_map];exact z861 hl,by rw [List.length_map];simp only [sizeLine];exact z862 hl h5,?_⟩
   rw [List.length_map,hl,Nat.add_sub_cancel,<-List.map_take,if_pos q]
   exact ⟨rfl,rfl⟩
  ·refine brF (by simpa using q) ?_
   rw [if_neg q]
   exact ⟨rfl,rfl⟩
 rw [begF_eq]
 refine Sp.mk ?_
 have hf:=begF_few B nd hm
 refine WF.at (ranked_ T hf fun out hp hs=>(h out (.of (begF_nd nd hm) (fun s=>begF_mem hE hm) hf hp hs)).sp) (by decide)
end
section
variable {c:Cx} {σ:Sto} {X:Addr->Sto->Prop} {Q:D->Sto->Prop} {K:Frag} {C:Addr}
inductive BoxA (n b:Nat)(σ:Sto)(k:Nat)(m':Vars)(σ':Sto):Prop
 | mk (l:List (List Int)) (hk:k<=n) (hl:∀r∈l,Row k r) (hn:l.length=(b+1)^k) (eq:σ'=σ) (hv:Hs m' [("_law_found",.lst (l.map row)),("_law_bound",.int b)]):BoxA n b σ k m' σ'
inductive BoxB (b k:Nat)(a:Addr)(σ:Sto)(i:Nat)(m':Vars)(σ':Sto):Prop
 | mk (more:List (List Int)) (hl:∀r∈more,Row (k+1) r) (hn:more.length=i*(b+1)) (eq:σ'=(a,.lst (more.map row))::σ) (hv:Hs m' [("_law_more",.ref a),("_law_bound",.int b)]):BoxB b k a σ i m' σ'
inductive BoxC (b k i:Nat)(a:Addr)(w:List Int)(σ:Sto)(j:Nat)(m':Vars)(σ':Sto):Prop
 | mk (more:List (List Int)) (hj:j<=b+1) (hl:∀r∈more,Row (k+1) r) (hn:more.length=i*(b+1)+j) (eq:σ'=(a,.lst (more.map row))::σ) (hv:Hs m' [("_law_more",.ref a),("_law_bound",.int b),("_law_row",row w)]):BoxC b k i a w σ j m' σ'
theorem box_ {n b:Nat}(T:Tp c B10 N10)(hb:b<=20)(hn:n<=5)(h:∀l:List (List Int),(∀r∈l,Row n r)->l.length<=4084101->Q (.lst (l.map row)) σ):WF c (Room 1) "_law_box" [.int n,.int b] σ Q X:=by
 refine WF.byA 36 (ps:=["_law_size_here","_law_bound"]) T rfl rfl (bind2 fun _ _ _ _ _=>rfl) (by rfl) rfl fun A fr env g r hh hs fe=> ?_
 have pw:∀k,k<=5->(b+1)^k<=4084101:=fun k hk=>Nat.le_trans (Nat.pow_le_pow_left (show b+1<=21 by exact z673 hb) k) (Nat.le_trans (Nat.pow_le_pow_right (by decide) hk) (by decide))
 refine Sp.mk ?_
 refine .inl ?_
 refine Sp.mk ?_
 refine ⟨z653,z674 hn,?_⟩
 refine Loop.of (BoxA n b σ) (fun _ _=>kinds1 (by with_unfolding_all exact .inl (kindOf_of (by assumption) (by rfl)))) ⟨[[]],Nat.zero_le _,(fun r hr=>(by rw [List.mem_singleton.mp hr];exact .of rfl fun x hx=>(by cases hx))),rfl,rfl,Hs.lit rfl⟩ (fun _ _ _ _=>trivial) (fun k i m' σ' hi hL fr'=> ?_) (fun m' σ' hL=> ?_)
 ·obtain ⟨l,hk,hl,hll,rfl,hv⟩:=hL
  have hk2:k<n:=by have:=(List.getElem?_eq_some_iff.mp hi).1;simpa using this
  have hp:=pw (k+1) (z675 hk2 hn)
  rw [Nat.pow_succ,<-hll] at hp
  (with_reducible refine WS.base (Hs.both (by assumption) _) ?_;refine WS.goN (by assumption) ?_);refine Sp.mk ?_
  refine .inr fun a ha=> ?_
  refine Sp.mk ?_
  refine WIv.seqA rfl (sd:=.lst _) row hh rfl trivial ?_
  refine Loop.of (BoxB b k a σ') (fun _ _=>kinds1 (by with_unfolding_all exact .inl (kindOf_of (by assumption) (by rfl)))) ⟨[],(fun r hr=>(by cases hr)),by simp,rfl,Hs.lit rfl⟩ (fun _ _ _ _=>trivial) (fun i w m2 σ2 hw hL fr'=> ?_) (fun m2 σ2 hL=> ?_)
  ·obtain ⟨more,hm,hml,rfl,hv⟩:=hL
   have hwr:=hl w (List.mem_of_getElem? hw)
   have hil:i<l.length:=(List.getElem?_eq_some_iff.mp hw).1
   have hsz:(i+1)*(b+1)<=l.length*(b+1):=Nat.mul_le_mul_right _ hil
   rw [Nat.succ_mul] at hsz
   (with_reducible refine WS.base (Hs.both (by assumption) _) ?_;refine WS.goN (by assumption) ?_);refine Sp.mk ?_
   refine ⟨z676,z677 hb,?_⟩
   rw [show ((b:Int)+1).toNat=b+1 by exact z678]
   refine Loop.of (BoxC b k i a w σ') (fun _ _=>kinds1 (by with_unfolding_all exact .inl (kindOf_of (by assumption) (by rfl)))) ⟨more,Nat.zero_le _,hm,hml,rfl,Hs.lit rfl⟩ (fun _ _ _ _=>trivial) (fun j y m3 σ3 hy hL fr'=> ?_) (fun m3 σ3 hL=> ?_)
   ·obtain ⟨mo,hj,hmo,hmol,rfl,hv⟩:=hL
    have hjb:j<b+1:=by have:=(List.getElem?_eq_some_iff.mp hy).1;simpa using this
    have hwl:=hwr.len
    (with_reducible refine WS.base (Hs.both (by assumption) _) ?_;refine WS.goN (by assumption) ?_);refine Sp.mk ?_
    refine ⟨.ref a _,rfl,rfl,List.mem_cons_self,?_⟩
    refine Sp.mk ?_
    refine WB.addTs (by simp only [List.length_map,List.length_cons,List.length_nil,sizeLine];exact z679 hwl hn hk) ?_
    refine Sp.mk ?_
    refine At1.append (σ1:=[]) (by simp only [List.length_map,sizeLine];exact z680 hsz hmol hp hj) ?_
    refine Sp.mk ?_
    refine ⟨mo++[w++[(y:Int)]],hjb,fun x hx=> ?_,by rw [List.length_append,hmol];rfl,by simp [row],Hs.lit rfl⟩
    rcases List.mem_append.mp hx with q| q
    ·exact hmo x q
    ·rw [List.mem_singleton.mp q];exact snoc_row hwr z289
   ·obtain ⟨mo,hj,hmo,hmol,rfl,hv⟩:=hL
    rw [List.length_range] at hmol
    (with_reducible refine WS.base (by assumption) ?_;refine WS.goK (by assumption) ?_);refine Sp.mk ?_
    exact ⟨mo,hmo,by rw [hmol,Nat.succ_mul],rfl,Hs.lit rfl⟩
  ·obtain ⟨more,hm,hml,rfl,hv⟩:=hL
   refine WS.freeze (σa:=[]) ?_
   have hv:=hv.fz (a:=a) (ds:=more.map row)
   rw [fz_self] at hv
   (with_reducible refine WS.base (by assumption) ?_;refine WS.goK (by assumption) ?_);refine Sp.mk ?_
   exact ⟨more,hk2,hm,by rw [hml,hll,Nat.pow_succ],rfl,Hs.lit rfl⟩
 ·obtain ⟨l,hk,hl,hll,rfl,hv⟩:=hL
  rw [List.length_range] at hl hll
  (with_reducible refine WS.base (by assumption) ?_;refine WS.goK (by assumption) ?_);refine Sp.mk ?_
  exact h l hl (by rw [hll];exact pw n hn)
structure Pair2 (w0 w1 want:Int)(r:List Int):Prop where
 row:Row 2 r
 eq:w0*r.getD 0 0+w1*r.getD 1 0=want
inductive TwoL (w0 w1 want:Int)(b:Nat)(σ:Sto)(k:Nat)(m':Vars)(σ':Sto):Prop
 | mk (a:Addr) (l:List (List Int)) (σx:Sto) (hx:σ.Sublist σx) (hk:k<=b+1) (hl:∀r∈l,Pair2 w0 w1 want r) (hn:l.length<=k*(b+1)) (eq:σ'=(a,.lst (l.map row))::σx) (hv:Hs m' [("_law_found",.ref a),("_law_weights",il [w0,w1]),("_law_want",.int want),("_law_most_here",.int b)]):TwoL w0 w1 want b σ k m' σ'
theorem two_ {w0 w1 want:Int}{b:Nat}(T:Tp c B10 N10)(hb:b<=40)(h0:w0.natAbs<100)(h1:w1.natAbs<100)(h:∀l:List (List Int),(∀r∈l,Pair2 w0 w1 want r)->l.length<=2000->Q (.lst (l.map row)) σ):WF c (Room 1) "_law_two" [il [w0,w1],.int want,.int b] σ Q X:=by
 refine WF.byA 37 (ps:=["_law_weights","_law_want","_law_most_here"]) T rfl rfl (bind3 fun _ _ _ _ _ _=>rfl) (by rfl) rfl fun A fr env g r hh hs fe=> ?_
 refine Sp.mk ?_
 refine .inr fun a0 ha0=> ?_
 refine Sp.mk ?_
 refine ⟨z676,z681 hb,?_⟩
 refine Loop.of (TwoL w0 w1 want b σ) (fun _ _=>kinds1 (by with_unfolding_all exact .inr (kindOf_of (by assumption) (by rfl)))) ⟨a0,[],σ,.refl _,Nat.zero_le _,(fun r hr=>(by contradiction)),by simp,rfl,Hs.lit rfl⟩ (fun _ _ _ _=>trivial) (fun k i m' σ' hi hL fr'=> ?_) (fun m' σ' hL=> ?_)
 ·obtain ⟨a,l,σx,hx,hk,hl,hll,rfl,hv⟩:=hL
  have hi':i=k/\k<b+1:=by
   obtain ⟨z1,z2⟩:=List.getElem?_eq_some_iff.mp hi
   simp at z1 z2
   exact z655 z1 z2
  obtain ⟨rfl,hkb⟩:=hi'
  have hkk:i*(b+1)<=40*41:=Nat.mul_le_mul (z682 hkb hb) (z683 hb)
  (with_reducible refine WS.base (Hs.both (by assumption) _) ?_;refine WS.goN (by assumption) ?_);refine Sp.mk ?_
  refine WSb.at (sd:=.lst _) (d:=.int w0) (k:=0) rfl trivial rfl (by decide) ?_
  refine Sp.mk ?_
  refine WB.mul (mulOk_left (z684 h0)) ?_
  refine Sp.mk ?_;(with_reducible refine WS.goK (by assumption) ?_);refine Sp.mk ?_
  refine WSb.at (sd:=.lst _) (d:=.int w1) (k:=1) rfl trivial rfl (by decide) ?_
  skip
  by_cases hz:w1=0
  ·refine brT (show (w1==0)=true by simpa using hz) ?_
   skip
   by_cases hl0:want-w0*(i:Int)=0
   ·refine brT (show (want-w0*(i:Int)==0)=true by simpa using hl0) ?_
    refine Sp.mk ?_
    refine ⟨z676,z681 hb,?_⟩
    rw [show ((b:Int)+1).toNat=b+1 by exact z678]
    refine Turns.map (fun j:Nat=>row [(i:Int),(j:Int)]) (fun _ _=>loc1 rfl) trivial (by (simp only [SD.ds,List.length_map,List.length_range,List.length_zip,List.length_take,List.length_drop,List.length_append,List.length_replicate,List.length_cons,List.length_nil,sizeLine]<;>lia)) (fun j hj fr' cenv hc=> ?_) (.inl ?_)
    ·have g:=g.at (relab_of hc hs)
     (with_reducible refine WE.go (by assumption) ?_);refine Sp.mk ?_
     exact ⟨rfl,rfl⟩
    refine Sp.mk ?_
    refine WB.addL (sd1:=.ref a _) (sd2:=.lst _) rfl rfl List.mem_cons_self trivial (by simp only [SD.ds,List.length_map,List.length_range,sizeLine];exact z686 hb hkk hll) (.inr fun a2 ha2=> ?_)
    refine Sp.mk ?_;(with_reducible refine WS.goK (by assumption) ?_);refine Sp.mk ?_
    refine WSb.at (sd:=.lst _) (d:=.int w1) (k:=1) rfl trivial rfl (by decide) ?_
    skip
    refine brF (show (w1 !=0)=false by simpa using hz) ?_
    refine Sp.mk ?_
    refine ⟨a2,l++(List.range (b+1)).map fun j:Nat=>[(i:Int),(j:Int)],_,hx.cons _,hkb,fun x hx=> ?_,by rw [List.length_append,List.length_map,List.length_range,Nat.succ_mul];exact z687 hll,by rw [List.map_append,List.map_map];rfl,Hs.lit rfl⟩
    rcases List.mem_append.mp hx with q| q
    ·exact hl x q
    ·obtain ⟨j,_,rfl⟩:=List.mem_map.mp q
     refine ⟨.of rfl fun y hy=> ?_,?_⟩
     ·simp at hy;rcases hy with rfl| rfl<;>lia
     ·show w0*(i:Int)+w1*(j:Int)=want
      rw [hz,Int.zero_mul];exact z688 hl0
   ·refine brF (show (want-w0*(i:Int)==0)=false by simpa using hl0) ?_
    refine Sp.mk ?_;(with_reducible refine WS.goK (by assumption) ?_);refine Sp.mk ?_
    refine WSb.at (sd:=.lst _) (d:=.int w1) (k:=1) rfl trivial rfl (by decide) ?_
    skip
    refine brF (show (w1 !=0)=false by simpa using hz) ?_
    refine Sp.mk ?_
    exact ⟨a,l,σx,hx,hkb,hl,by rw [Nat.succ_mul];exact z689 hll,rfl,Hs.lit rfl⟩
  ·refine brF (show (w1==0)=false by simpa using hz) ?_
   refine Sp.mk ?_;(with_reducible refine WS.goK (by assumption) ?_);refine Sp.mk ?_
   refine WSb.at (sd:=.lst _) (d:=.int w1) (k:=1) rfl trivial rfl (by decide) ?_
   skip
   refine brT (show (w1 !=0)=true by simpa using hz) ?_
   refine Sp.mk ?_
   refine WSb.at (sd:=.lst _) (d:=.int w1) (k:=1) rfl trivial rfl (by decide) ?_
   refine Sp.mk ?_
   refine WB.mod hz (z684 h1) ?_
   skip
   by_cases hm:(want-w0*(i:Int)).fmod w1=0
   ·refine brT (show ((want-w0*(i:Int)).fmod w1==0)=true by simpa using hm) ?_
    have hq:w1*(want-w0*(i:Int)).fdiv w1=want-w0*(i:Int):=by
     have:=Int.mul_fdiv_add_fmod (want-w0*(i:Int)) w1
     exact z36 this hm
    refine Sp.mk ?_
    refine WSb.at (sd:=.lst _) (d:=.int w1) (k:=1) rfl trivial rfl (by decide) ?_
    refine Sp.mk ?_
    refine WB.fdiv hz (z684 h1) ?_
    skip
    generalize hyd:(want-w0*(i:Int)).fdiv w1=y at hq⊢
    skip
    by_cases hy0:0<=y
    ·refine brT (decide_eq_true hy0) ?_
     skip
     by_cases hyb:y<=(b:Int)
     ·refine brT (decide_eq_true hyb) ?_
      refine Sp.mk ?_
      refine ⟨.ref a _,rfl,rfl,List.mem_cons_self,?_⟩
      refine Sp.mk ?_
      refine WSb.at (sd:=.lst _) (d:=.int w1) (k:=1) rfl trivial rfl (by decide) ?_
      refine Sp.mk ?_
      refine WB.fdiv hz (z684 h1) ?_
      refine Sp.mk ?_
      rw [hyd]
      skip
      refine At1.append (σ1:=[]) (by simp only [List.length_map,sizeLine];exact z690 hkk hll) ?_
      refine Sp.mk ?_
      refine ⟨a,l++[[(i:Int),y]],σx,hx,hkb,fun x hx=> ?_,by rw [List.length_append,Nat.succ_mul];simp;exact z691 hll,by simp [row],Hs.lit rfl⟩
      rcases List.mem_append.mp hx with q| q
      ·exact hl x q
      ·rw [List.mem_singleton.mp q]
       refine ⟨.of rfl fun z hz=> ?_,?_⟩
       ·simp at hz;rcases hz with rfl| rfl<;>lia
       ·show w0*(i:Int)+w1*y=want
        exact z692 hq
     ·refine brF (decide_eq_false hyb) ?_
      refine Sp.mk ?_
      exact ⟨a,l,σx,hx,hkb,hl,by rw [Nat.succ_mul];exact z689 hll,rfl,Hs.lit rfl⟩
    ·refine brF (decide_eq_false hy0) ?_
     refine Sp.mk ?_
     exact ⟨a,l,σx,hx,hkb,hl,by rw [Nat.succ_mul];exact z689 hll,rfl,Hs.lit rfl⟩
   ·refine brF (show ((want-w0*(i:Int)).fmod w1==0)=false by simpa using hm) ?_
    refine Sp.mk ?_
    exact ⟨a,l,σx,hx,hkb,hl,by rw [Nat.succ_mul];exact z689 hll,rfl,Hs.lit rfl⟩
 ·obtain ⟨a,l,σx,hx,hk,hl,hll,rfl,hv⟩:=hL
  rw [List.length_range] at hll
  refine WS.forget (σ':=(a,.lst (l.map row))::σ) (hx.cons_cons _) ?_
  have hkk:(b+1)*(b+1)<=41*41:=Nat.mul_le_mul (z683 hb) (z683 hb)
  refine WS.cons (W1.ret (WE.freeze ?_))
  (with_reducible refine WE.base (by assumption) ?_;refine WE.go (by assumption) ?_);refine Sp.mk ?_
  exact ⟨a,_,[],σ,rfl,rfl,Sp.mk (h l hl (z693 hkk hll))⟩
end
section
variable {c:Cx} {A:Around} {fr:List Addr} {σ:Sto} {X:Addr->Sto->Prop} {Q:D->Sto->Prop}
theorem At1.min2 {a b:Int}(hh:A.handled=none)(h:Q (.int (if b<a then b else a)) σ):At1 c A fr σ (.builtin "min") [.int a,.int b] Q X:=.two fun s v u ok hv hu=>by
 obtain ⟨t,rfl⟩:=hv.toInt
 obtain ⟨t',rfl⟩:=hu.toInt
 refine min_two_ints hh fun h' tk k=>⟨_,σ,Post.keeps k,ok.keeps k,?_,h⟩
 split
 ·exact V.ofInt
 ·exact V.ofInt
end
theorem minL_row {n:Nat}{s:List Int}(h:Row n s)(hne:s≠[]):0<=minL s:=by
 have hp:=h.mem
 clear h
 cases s with
 | nil=>exact absurd rfl hne
 | cons a l=>
  have:∀(l:List Int) (b:Int),0<=b->(∀x∈l,0<=x)->0<=l.foldl min b:=by
   intro l
   induction l with
   | nil=>exact fun b hb _=>hb
   | cons x l ih=>exact fun b hb hx=>ih _ (by have:=hx x (.head _);exact z694 hb this) fun y hy=>hx y (.tail _ hy)
  exact this l a (hp a (.head _)) fun x hx=>hp x (.tail _ hx)
theorem pairwise_at {α:Type}{R:α->α->Prop}{l:List α}(h:l.Pairwise R){i j:Nat}{x y:α}(hij:i<j)(hx:l[i]? =some x)(hy:l[j]? =some y):R x y:=by
 obtain ⟨h1,e1⟩:=List.getElem?_eq_some_iff.mp hx
 obtain ⟨h2,e2⟩:=List.getElem?_eq_some_iff.mp hy
 have:=List.pairwise_iff_getElem.mp h i j h1 h2 hij
 rwa [e1,e2] at this
theorem BegL.apart {E:List (List Int)}{n:Nat}{t:List Int}{out:List (List Int)}(hE:∀e∈E,e.length=n)(L:BegL E n t out){i j:Nat}{x y:List Int}(hij:i<j)(hx:out[i]? =some x)(hy:out[j]? =some y):inR x y=false/\keyLt x y=true:=by
 have hk:=pairwise_at L.srt hij hx hy
 have mx:=(L.mem x).mp (List.mem_of_getElem? hx)
 have my:=(L.mem y).mp (List.mem_of_getElem? hy)
 refine ⟨?_,hk⟩
 cases q:inR x y with
 | false=>rfl
 | true=>
  have:=my.le hE (mx.sol hE) (((mx.sol hE).row.inR (my.sol hE).row).mp q)
  rw [this,keyLt_irrefl] at hk;contradiction
noncomputable def mwN (n:Nat):Int:=[0,20,20,6,3,2].getD n 0
theorem mwN_ok (n:Nat):0<=mwN n/\mwN n<=20:=by
 unfold mwN
 match n with
 | 0=>decide
 | 1=>decide
 | 2=>decide
 | 3=>decide
 | 4=>decide
 | 5=>decide
 | n+6=>simp
section
variable {c:Cx} {σ:Sto} {X:Addr->Sto->Prop} {Q:D->Sto->Prop} {K:Frag} {C:Addr}
theorem SD.inv_cons {sd:SD}{p:Addr × O}(h:sd.inv σ):sd.inv (p::σ):=by
 cases sd
 ·trivial
 ·trivial
 ·exact List.mem_cons_of_mem _ h
theorem worthS_ {ws:List (SD × List Int)}{xd:SD}{xs:List Int}(T:Tp c B10 N10)(hw:∀w∈ws,small w.2/\w.1.ds=w.2.map D.int/\w.1.inv σ)(hx:xd.ds=xs.map D.int)(hi:xd.inv σ)(hl:ws.length<100)(h:Q (.lst (ws.map fun w=>.int (dot w.2 xs))) σ):WF c (Room 1) "_law_worth" [.lst (ws.map fun w=>w.1.d),xd.d] σ Q X:=by
 refine WF.byA 32 (ps:=["_law_equations","_law_row"]) T rfl rfl (bind2 fun _ _ _ _ _=>rfl) (by rfl) rfl fun A fr env g r hh hs fe=> ?_
 refine Sp.mk ?_
 refine .inr fun a ha=> ?_
 refine Sp.mk ?_
 refine WIv.seqA rfl (sd:=.lst _) (fun w:SD × List Int=>w.1.d) hh rfl trivial ?_
 refine Loop.of (fun k m' σ'=>k<=ws.length/\σ'=(a,.lst ((ws.take k).map fun w=>.int (dot w.2 xs)))::σ/\Hs m' [("_law_found",.ref a),("_law_row",xd.d)]) (fun _ _=>kinds1 (by with_unfolding_all exact .inl (kindOf_of (by assumption) (by rfl)))) ⟨Nat.zero_le _,by rfl,Hs.lit rfl⟩ (fun _ _ _ _=>trivial) (fun k w m' σ' hk hL fr'=> ?_) (fun m' σ' hL=> ?_)
 ·obtain ⟨hk1,rfl,hv⟩:=hL
  obtain ⟨w1,w2,w3⟩:=hw w (List.mem_of_getElem? hk)
  (with_reducible refine WS.base (Hs.both (by assumption) _) ?_;refine WS.goN (by assumption) ?_);refine Sp.mk ?_
  refine ⟨_,_,w.1,xd,w.2,xs,D.int,D.int,rfl,rfl,w2,hx,SD.inv_cons w3,SD.inv_cons hi,?_⟩
  refine Loop.of (fun j m'' σ'=>σ'=(a,.lst ((ws.take k).map fun w=>.int (dot w.2 xs)))::σ/\Hs m'' [("_law_found",.ref a),("_law_row",xd.d),("_law_worth_here",.int ((((w.2.zip xs).take j).map fun q=>q.1*q.2).sum))]) (fun _ _=>kinds2 (by with_unfolding_all exact .inl (kindOf_of (by assumption) (by rfl))) (by with_unfolding_all exact .inl (kindOf_of (by assumption) (by rfl)))) ⟨rfl,Hs.lit rfl⟩ (fun _ _ _ hL=>by rw [hL.1];exact ⟨SD.inv_cons w3,SD.inv_cons hi⟩) (fun j q m'' σ' hq hL fr'=> ?_) (fun m'' σ' hL=> ?_)
  ·obtain ⟨rfl,hv⟩:=hL
   have hq':=(List.of_mem_zip (List.mem_of_getElem? hq)).1
   (with_reducible refine WS.base (Hs.both (by assumption) _) ?_;refine WS.goN (by assumption) ?_);refine Sp.mk ?_
   refine WB.mul (mulOk_left (w1 _ hq')) ?_
   refine Sp.mk ?_
   refine ⟨rfl,?_⟩
   rw [take_next hq,List.map_append,List.sum_append,List.map_singleton,List.sum_singleton]
   exact Hs.lit rfl
  ·obtain ⟨rfl,hv⟩:=hL
   rw [List.take_length] at hv
   (with_reducible refine WS.base (by assumption) ?_;refine WS.goK (by assumption) ?_);refine Sp.mk ?_
   refine ⟨.ref a _,rfl,rfl,List.mem_cons_self,?_⟩
   refine Sp.mk ?_
   refine At1.append (σ1:=[]) (by (simp only [SD.ds,List.length_map,List.length_range,List.length_zip,List.length_take,List.length_drop,List.length_append,List.length_replicate,List.length_cons,List.length_nil,sizeLine]<;>lia)) ?_
   refine Sp.mk ?_
   refine ⟨((List.getElem?_eq_some_iff.mp hk).1),?_,Hs.lit rfl⟩
   rw [take_next hk,List.map_append]
   rfl
 ·obtain ⟨_,rfl,hv⟩:=hL
  rw [List.take_length]
  refine WS.cons (W1.ret (WE.freeze ?_))
  (with_reducible refine WE.base (by assumption) ?_;refine WE.go (by assumption) ?_);refine Sp.mk ?_
  exact ⟨a,_,[],σ,rfl,rfl,Sp.mk h⟩
theorem lawWorthL_ {rows:List (List Int)}{xd:SD}{xs:List Int}(T:Tp c B10 N10)(hr:∀r∈rows,small r)(hx:xd.ds=xs.map D.int)(hi:xd.inv σ)(hl:rows.length<100)(h:Q (il (rows.map fun r=>dot r xs)) σ):WF c (Room 1) "_law_worth" [rl rows,xd.d] σ Q X:=by
 rw [(by rw [<-lstW_d]:rl rows=.lst ((lstW rows).map fun w=>w.1.d))]
 refine worthS_ T (fun w hw=> ?_) hx hi (by rw [lstW_len];exact hl) ?_
 ·obtain ⟨h1,h2⟩:=lstW_ok (σ:=σ) hw
  exact ⟨hr _ h2,h1.ds,h1.inv⟩
 ·rw [show ((lstW rows).map fun w=>D.int (dot w.2 xs))=(rows.map fun r=>dot r xs).map D.int by unfold lstW;simp only [List.map_map];rfl]
  exact h
theorem is_even_ {rows:List (List Int)}{xs:List Int}(T:Tp c B10 N10)(hr:∀r∈rows,small r/\r.length<100)(hl:rows.length<100)(h:Q (.bool (rows.all fun r=>dot r xs==0)) σ):WF c (Room 2) "_law_is_even" [rl rows,row xs] σ Q X:=by
 refine WF.byA 33 (ps:=["_law_equations","_law_row"]) T rfl rfl (bind2 fun _ _ _ _ _=>rfl) (by rfl) rfl fun A fr env g r hh hs fe=> ?_
 refine Sp.mk ?_
 refine WF.at (lawWorthL_ (xd:=.tup _) (xs:=xs) T (fun r h=>(hr r h).1) rfl trivial hl ?_) (by decide)
 refine Sp.mk ?_
 refine WIv.seqA rfl (sd:=.lst _) (fun r=>.int (dot r xs)) hh (by simp only [SD.ds,List.map_map];rfl) trivial ?_
 refine Loop.of (fun k m' σ'=>σ'=σ/\∀r∈rows.take k,dot r xs=0) (fun _ _=>kinds1 (by with_unfolding_all exact .inl (kindOf_of (by assumption) (by rfl)))) ⟨rfl,fun _ h=>(by simp at h)⟩ (fun _ _ _ _=>trivial) (fun k w m' σ' hk hL fr'=> ?_) (fun m' σ' hL=> ?_)
 ·obtain ⟨rfl,e1⟩:=hL
  (with_reducible refine WS.goN (by assumption) ?_)
  by_cases h0:dot w xs=0
  ·refine brF (show (dot w xs !=0)=false by simp [h0]) ?_
   refine Sp.mk ?_
   refine ⟨rfl,fun r hr'=> ?_⟩
   rw [take_next hk] at hr'
   rcases List.mem_append.mp hr' with z| z
   ·exact e1 r z
   ·rw [List.mem_singleton.mp z];exact h0
  ·refine brT (show (dot w xs !=0)=true by simp [h0]) ?_
   refine Sp.mk ?_
   have:rows.all (fun r=>dot r xs==0)=false:=by
    rw [List.all_eq_false]
    exact ⟨w,(List.mem_of_getElem? hk),by simp [h0]⟩
   rw [this] at h
   exact h
 ·obtain ⟨rfl,e1⟩:=hL
  rw [List.take_length] at e1
  (with_reducible refine WS.goK (by assumption) ?_);refine Sp.mk ?_
  have:rows.all (fun r=>dot r xs==0)=true:=by
   rw [List.all_eq_true]
   intro r hr';simp [e1 r hr']
  rw [this] at h
  exact h
theorem wants_ {S:List Int}{E:List (List Int)}{n:Nat}(T:Tp c B10 N10)(hS:S.length<=63)(hr:∀r∈E,small r)(h3:E.length<=3)(h1:1<=n)(h5:n<=5)(h:∀t:List Int,t.length=E.length->(∀τ∈t,-mwN n<=τ/\τ<=mwN n)->Q (il t) σ):WF c (Room 3) "_law_wants" [.lst (S.map .int),rl E,.int n] σ Q X:=by
 refine WF.byA 39 (ps:=["_law_script","_law_equations","_law_size_here"]) T rfl rfl (bind3 fun _ _ _ _ _ _=>rfl) (by rfl) rfl fun A fr env g r hh hs fe=> ?_
 have hw:=mwN_ok n
 have hn:=z586 h1 h5
 refine Sp.mk ?_
 refine WF.at (cell_at_ T hS (by decide) (by decide) ?_) (by decide)
 refine Sp.mk ?_
 generalize S.getD (Int.toNat 2) 0=cl
 skip
 refine .inl ?_
 refine Sp.mk ?_
 refine WSb.at (sd:=.lst _) (d:=.int (mwN n)) rfl trivial (by rcases hn with rfl| rfl| rfl| rfl| rfl<;>rfl) (z696 h5) ?_
 refine Sp.mk ?_;(with_reducible refine WS.goK (by assumption) ?_)
 by_cases h0:cl % 3=0
 ·refine brT (show (cl % 3==0)=true by simpa using h0) ?_
  refine Sp.mk ?_
  refine At1.len (sd:=.lst _) trivial (by simp only [SD.ds,List.length_map];exact z661 h3) ?_
  refine Sp.mk ?_
  rw [show ((SD.lst (E.map il)).ds.length:Int)=E.length by simp [SD.ds]]
  skip
  refine ⟨z653,z697 h3,?_⟩
  rw [Int.toNat_natCast]
  refine Turns.map (fun k:Nat=>.int (numS S (20+(k:Int)) % (2*mwN n+1)-mwN n)) (fun _ _=>loc1 rfl) trivial (by (simp only [SD.ds,List.length_map,List.length_range,List.length_zip,List.length_take,List.length_drop,List.length_append,List.length_replicate,List.length_cons,List.length_nil,sizeLine]<;>lia)) (fun k hk fr' cenv hc=> ?_) (.inl ?_)
  ·have g:=g.at (relab_of hc hs)
   have hk':=List.mem_range.mp hk
   (with_reducible refine WE.go (by assumption) ?_);refine Sp.mk ?_
   refine WF.at (number_ T hS z698 (z699 hk' h3) ?_) (by decide)
   refine Sp.mk ?_
   refine WB.mul (mulOk_left (by decide)) ?_
   refine Sp.mk ?_
   refine WB.modE (z700 hw.1) (z701 hw.1 hw.2) ?_
   refine Sp.mk ?_
   exact ⟨rfl,rfl⟩
  have:=h ((List.range E.length).map fun (k:Nat)=>numS S (20+(k:Int)) % (2*mwN n+1)-mwN n) (by simp) fun τ hτ=>by
   obtain ⟨k,_,rfl⟩:=List.mem_map.mp hτ
   have z1:=Int.emod_nonneg (numS S (20+(k:Int))) (show 2*mwN n+1≠0 by exact z702)
   have z2:=Int.emod_lt_of_pos (numS S (20+(k:Int))) (show 0<2*mwN n+1 by exact z700 hw.1)
   exact z703 z1 z2
  rw [il,List.map_map] at this
  exact Sp.mk this
 ·refine brF (show (cl % 3==0)=false by simpa using h0) ?_
  refine Sp.mk ?_
  refine ⟨z653,z674 h5,?_⟩
  rw [Int.toNat_natCast]
  refine Turns.map (fun k:Nat=>.int (cl/3/([1,3,9,27,81]:List Int).getD k 0 % 3)) (fun _ _=>loc1 rfl) trivial (by (simp only [SD.ds,List.length_map,List.length_range,List.length_zip,List.length_take,List.length_drop,List.length_append,List.length_replicate,List.length_cons,List.length_nil,sizeLine]<;>lia)) (fun k hk fr' cenv hc=> ?_) (.inl ?_)
  ·have g:=g.at (relab_of hc hs)
   have hk':=List.mem_range.mp hk
   (with_reducible refine WE.go (by assumption) ?_);refine Sp.mk ?_
   refine .inl ?_
   refine Sp.mk ?_
   have hk5:k=0\/k=1\/k=2\/k=3\/k=4:=z704 hk' hn
   refine WSb.at (sd:=.lst _) (d:=.int (([1,3,9,27,81]:List Int).getD k 0)) rfl trivial (by rcases hk5 with rfl| rfl| rfl| rfl| rfl<;>rfl) (z705 hk5) ?_
   refine Sp.mk ?_
   have hp:0<([1,3,9,27,81]:List Int).getD k 0/\([1,3,9,27,81]:List Int).getD k 0<100:=by rcases hk5 with rfl| rfl| rfl| rfl| rfl<;>decide
   refine WB.fdivE hp.1 (z706 hp.1 hp.2) ?_
   refine Sp.mk ?_
   exact ⟨rfl,rfl⟩
  refine Sp.mk ?_
  rw [show ((List.range n).map fun k:Nat=>D.int (cl/3/([1,3,9,27,81]:List Int).getD k 0 % 3))=((List.range n).map fun k:Nat=>cl/3/([1,3,9,27,81]:List Int).getD k 0 % 3).map D.int by rw [List.map_map];rfl]
  generalize ((List.range n).map fun k:Nat=>cl/3/([1,3,9,27,81]:List Int).getD k 0 % 3)=xs
  refine WF.at (lawWorthL_ (xd:=.lst _) (xs:=xs) T hr rfl trivial (z672 h3) ?_) (by decide)
  refine Sp.mk ?_
  refine WIv.seqA rfl (sd:=.lst _) D.int hh rfl trivial (Turns.map (fun w:Int=>.int (max (-mwN n) (min (mwN n) w))) (fun _ _=>loc1 rfl) trivial (by simp only [SD.ds,List.length_map,sizeLine];exact z632 h3) (fun w hw' fr' cenv hc=> ?_) (.inl ?_))
  ·have g:=g.at (relab_of hc hs)
   (with_reducible refine WE.go (by assumption) ?_);refine Sp.mk ?_
   refine At1.min2 hh ?_
   refine Sp.mk ?_
   refine At1.max2 hh ?_
   refine Sp.mk ?_
   refine ⟨rfl,congrArg D.int ?_⟩
   split<;>split<;>lia
  have:=h ((E.map fun r=>dot r xs).map fun w=>max (-mwN n) (min (mwN n) w)) (by simp) fun τ hτ=>by
   obtain ⟨k,_,rfl⟩:=List.mem_map.mp hτ
   exact z711 hw.1
  rw [il,List.map_map] at this
  exact Sp.mk this
end
section
variable {c:Cx} {σ:Sto} {X:Addr->Sto->Prop} {Q:D->Sto->Prop} {K:Frag} {C:Addr}
theorem filter_eq {E:List (List Int)}{t:List Int}(l:List (List Int)):l.filterMap (fun x=>if (E.map fun e=>dot e x)=t then some (row x) else none)=(l.filter fun x=>decide ((E.map fun e=>dot e x)=t)).map row:=by
 induction l with
 | nil=>rfl
 | cons s l ih=>
  by_cases q:(E.map fun e=>dot e s)=t
  ·simp only [List.filterMap_cons,if_pos q,ih,List.filter_cons,decide_eq_true q,if_true,List.map_cons]
  ·simp only [List.filterMap_cons,if_neg q,ih,List.filter_cons,decide_eq_false q,Bool.false_eq_true,if_false]
inductive AllL (w0 w1 w2 τ:Int)(f:Addr)(σ:Sto)(k:Nat)(m':Vars)(σ':Sto):Prop
 | mk (l:List (List Int)) (hk:k<=10) (hl:∀x∈l,Sol [[w0,w1,w2]] 3 [τ] x) (hn:l.length<=k*2000) (eq:σ'=(f,.lst (l.map row))::σ) (hv:Hs m' [("_law_found",.ref f),("_law_equations",rl [[w0,w1,w2]]),("_law_wants_here",il [τ])]):AllL w0 w1 w2 τ f σ k m' σ'
inductive AllM (w0 w1 w2 τ:Int)(f:Addr)(σ:Sto)(n:Nat)(i:Nat)(j:Nat)(m':Vars)(σ':Sto):Prop
 | mk (l:List (List Int)) (hl:∀x∈l,Sol [[w0,w1,w2]] 3 [τ] x) (hn:l.length=n+j) (eq:σ'=(f,.lst (l.map row))::σ) (hv:Hs m' [("_law_found",.ref f),("_law_equations",rl [[w0,w1,w2]]),("_law_wants_here",il [τ]),("_law_one",.int i)]):AllM w0 w1 w2 τ f σ n i j m' σ'
theorem all_ {E:List (List Int)}{n:Nat}{t:List Int}(T:Tp c B10 N10)(hEl:E.length=t.length)(hr:∀r∈E,okW n r)(ht:∀τ∈t,-20<=τ/\τ<=20)(h3:E.length<=3)(h1:1<=n)(h5:n<=5)
  (h:∀l:List (List Int),(∀x∈l,Sol E n t x)->l.length<=4084101->Q (.lst (l.map row)) σ):WF c (Room 2) "_law_all" [.int n,rl E,il t] σ Q X:=by
 refine WF.byS 38 (ps:=["_law_size_here","_law_equations","_law_wants_here"]) T rfl rfl (bind3 fun _ _ _ _ _ _=>rfl) (by rfl) rfl fun A fr env g r hh hs fe=> ?_
 have hsm:=fun x hx=>(small_of (hr x hx) h5).1
 have hn:n=1\/n=2\/n=3\/n=4\/n=5:=z586 h1 h5
 have keep:∀l:List (List Int),(∀x∈l,Row n x)->l.length<=4084101->Q (.lst ((l.filter fun x=>decide ((E.map fun e=>dot e x)=t)).map row)) σ:=fun l hl hll=>h _ (fun x hx=>by
  obtain ⟨z1,z2⟩:=List.mem_filter.mp hx
  exact ⟨hl x z1,(worths_eq hEl).mp (of_decide_eq_true z2)⟩) (Nat.le_trans (List.length_filter_le _ _) hll)
 refine WS.checkA rfl ?_ ?_
 ·(with_reducible refine W1.go (by assumption) ?_)
  by_cases h2:n=2
  ·subst h2
   refine Sp.mk ?_
   refine .inl ?_
   refine Sp.mk ?_
   refine WB.neD r (.of (Py.lists (n:=1))) (.of (Py.lst (n:=1) .nil)) ?_
   skip
   cases E with
   | nil=>
    refine Sp.mk ?_
    exact ⟨rfl,rfl⟩
   | cons e E'=>
    cases t with
    | nil=>simp at hEl
    | cons τ t'=>
    refine Sp.mk ?_
    refine WSb.at (sd:=.lst _) (d:=il e) (k:=0) rfl trivial rfl (by decide) ?_
    refine Sp.mk ?_
    refine .inl ?_
    refine Sp.mk ?_
    refine WB.neD r (.of (Py.ints (n:=1))) (.of (Py.ints (xs:=[0,0]) (n:=1))) ?_
    skip
    rw [eqv_ints]
    by_cases h0:e=[0,0]
    ·refine brNF (decide_eq_true h0) ?_
     refine Sp.mk ?_
     exact ⟨rfl,rfl⟩
    ·refine brNT (decide_eq_false h0) ?_
     refine Sp.mk ?_
     refine WSb.at (sd:=.lst _) (d:=il e) (k:=0) rfl trivial rfl (by decide) ?_
     refine Sp.mk ?_
     refine WSb.at (sd:=.lst _) (d:=.int τ) (k:=0) rfl trivial rfl (by decide) ?_
     refine Sp.mk ?_
     obtain ⟨w0,w1,rfl⟩:∃w0 w1,e=[w0,w1]:=by
      exact len2 (hr e (.head _)).1
     have b0:=(hr _ (.head _)).2 w0 (.head _)
     have b1:=(hr _ (.head _)).2 w1 (.tail _ (.head _))
     refine WF.at (two_ (b:=40) T (by decide) (z714 b0.1 b0.2) (z714 b1.1 b1.2) fun l hl hll=> ?_) (by decide)
     refine Sp.mk ?_
     refine WIv.seqA rfl (sd:=.lst _) row hh rfl trivial (Turns.of (fun x=>if (([w0,w1]::E').map fun e=>dot e x)=(τ::t') then some (row x) else none) (fun _ _=>loc1 rfl) trivial (by simp only [sizeLine];exact z715 hll) (fun x hx fr' cenv hc=>WIfs.one ?_) (.inl ?_))
     ·have g:=g.at (relab_of hc hs)
      (with_reducible refine WT.go (by assumption) ?_);refine Sp.mk ?_
      refine WF.at (lawWorthL_ (xd:=.tup _) (xs:=x) T hsm rfl trivial (z672 h3) ?_) (by decide)
      refine Sp.mk ?_
      refine WB.eqD r (.of (Py.ints (n:=1))) (.of (Py.ints (n:=1))) ?_
      refine Sp.mk ?_
      rw [eqv_ints]
      by_cases q:(([w0,w1]::E').map fun e=>dot e x)=(τ::t')
      ·refine brT (decide_eq_true q) ?_
       (with_reducible refine WE.go (by assumption) ?_);refine Sp.mk ?_
       exact ⟨rfl,by rw [if_pos q]⟩
      ·refine brF (decide_eq_false q) ?_
       skip
       rw [if_neg q]
       exact ⟨rfl,rfl⟩
     rw [filter_eq]
     exact Sp.mk (keep l (fun x hx=>(hl x hx).row) (z716 hll))
  ·refine brF (show ((n:Int)==2)=false by simp;exact z717 h2) ?_
   refine Sp.mk ?_
   exact ⟨rfl,rfl⟩
 refine WS.checkA rfl ?_ ?_
 ·(with_reducible refine W1.go (by assumption) ?_)
  by_cases h2:n=3
  ·subst h2
   refine Sp.mk ?_
   refine At1.lenM (sd:=.lst _) (l:=E) (F:=il) rfl trivial (z661 h3) ?_
   skip
   by_cases hl1:E.length=1
   ·refine brT (show ((E.length:Int)==1)=true by simp [hl1]) ?_
    obtain ⟨e,rfl⟩:=List.length_eq_one_iff.mp hl1
    obtain ⟨τ,rfl⟩:=List.length_eq_one_iff.mp (hEl.symm.trans hl1)
    obtain ⟨w0,w1,w2,rfl⟩:∃w0 w1 w2,e=[w0,w1,w2]:=by
     exact len3 (hr e (.head _)).1
    have b0:=(hr _ (.head _)).2 w0 (.head _)
    have b1:=(hr _ (.head _)).2 w1 (.tail _ (.head _))
    have b2:=(hr _ (.head _)).2 w2 (.tail _ (.tail _ (.head _)))
    refine Sp.mk ?_
    refine .inr fun f hf=> ?_
    refine Sp.mk ?_
    refine ⟨by decide,by decide,?_⟩
    refine Loop.of (AllL w0 w1 w2 τ f σ) (fun _ _=>kinds1 (by with_unfolding_all exact .inl (kindOf_of (by assumption) (by rfl)))) ⟨[],Nat.zero_le _,(fun x hx=>(by cases hx)),by simp,rfl,Hs.lit rfl⟩ (fun _ _ _ _=>trivial) (fun k i m' σ' hi hL fr'=> ?_) (fun m' σ' hL=> ?_)
    ·obtain ⟨l,hk,hl,hll,rfl,hv⟩:=hL
     have hk2:k<10:=by have:=(List.getElem?_eq_some_iff.mp hi).1;simpa using this
     (with_reducible refine WS.base (Hs.both (by assumption) _) ?_;refine WS.goN (by assumption) ?_);refine Sp.mk ?_;(with_reducible refine WE.sliceA (by with_unfolding_all rfl) ?_;refine WE.go (by assumption) ?_);refine Sp.mk ?_
     refine WSb.at (sd:=.lst _) (d:=il [w0,w1,w2]) (k:=0) rfl trivial rfl (by decide) ?_
     refine Sp.mk ?_;(with_reducible refine WPt.some ?_;refine WE.go (by assumption) ?_);refine Sp.mk ?_
     refine ⟨_,rfl,?_⟩
     (with_reducible refine WPt.none ?_)
     refine ⟨.lst _,rfl,rfl,trivial,by simp [SD.ds,sizeLine],.inl ?_⟩
     rw [show pick (SD.lst ([w0,w1,w2].map D.int)).ds (some 1) none=[w1,w2].map D.int from rfl]
     refine Sp.mk ?_
     refine WSb.at (sd:=.lst _) (d:=.int τ) (k:=0) rfl trivial rfl (by decide) ?_
     refine Sp.mk ?_
     refine WSb.at (sd:=.lst _) (d:=il [w0,w1,w2]) (k:=0) rfl trivial rfl (by decide) ?_
     refine Sp.mk ?_
     refine WSb.at (sd:=.lst _) (d:=.int w0) (k:=0) rfl trivial rfl (by decide) ?_
     refine Sp.mk ?_
     refine WB.mul (mulOk_left (z718 b0.1 b0.2)) ?_
     refine Sp.mk ?_
     refine WF.at (two_ (b:=9) T (by decide) (z714 b1.1 b1.2) (z714 b2.1 b2.2) fun l2 hl2 hll2=> ?_) (by decide)
     refine Sp.mk ?_
     refine WIv.seqA rfl (sd:=.lst _) row hh rfl trivial ?_
     refine Loop.of (AllM w0 w1 w2 τ f σ l.length i) (fun _ _=>kinds1 (by with_unfolding_all exact .inl (kindOf_of (by assumption) (by rfl)))) ⟨l,hl,rfl,rfl,Hs.lit rfl⟩ (fun _ _ _ _=>trivial) (fun j y m2 σ2 hy hL fr'=> ?_) (fun m2 σ2 hL=> ?_)
     ·obtain ⟨l3,hl3,hll3,rfl,hv⟩:=hL
      have hj:j<l2.length:=(List.getElem?_eq_some_iff.mp hy).1
      have py:=hl2 y (List.mem_of_getElem? hy)
      have hyl:=py.row.len
      (with_reducible refine WS.base (Hs.both (by assumption) _) ?_;refine WS.goN (by assumption) ?_);refine Sp.mk ?_
      refine ⟨.ref f _,rfl,rfl,List.mem_cons_self,?_⟩
      refine Sp.mk ?_
      skip
      refine WB.addTs (by simp only [List.length_map,List.length_cons,List.length_nil,sizeLine];exact z719 hyl) ?_
      refine Sp.mk ?_
      refine At1.append (σ1:=[]) (by simp only [List.length_map,sizeLine];exact z720 hk2 hj hll3 hll2 hll) ?_
      refine Sp.mk ?_
      refine ⟨l3++[(i:Int)::y],fun x hx=> ?_,by rw [List.length_append,hll3];rfl,by simp [row],Hs.lit rfl⟩
      rcases List.mem_append.mp hx with q| q
      ·exact hl3 x q
      ·rw [List.mem_singleton.mp q]
       have pe:=py.eq
       have rr:=py.row
       obtain ⟨y0,y1,rfl⟩:=len2 hyl
       refine ⟨.of rfl fun z hz=> ?_,fun q hq=> ?_⟩
       ·rcases List.mem_cons.mp hz with rfl| hz
        ·exact z289
        ·exact rr.mem z hz
       ·rw [List.mem_singleton.mp hq]
        have pe:w1*y0+w2*y1=τ-w0*(i:Int):=pe
        show dot [w0,w1,w2] [(i:Int),y0,y1]=τ
        rw [dot_cons,dot_cons,dot_cons,dot_nil_l]
        exact z721 pe
     ·obtain ⟨l3,hl3,hll3,rfl,hv⟩:=hL
      (with_reducible refine WS.base (by assumption) ?_;refine WS.goK (by assumption) ?_);refine Sp.mk ?_
      exact ⟨l3,hk2,hl3,by rw [hll3];exact z722 hll2 hll,rfl,Hs.lit rfl⟩
    ·obtain ⟨l,hk,hl,hll,rfl,hv⟩:=hL
     refine WS.cons (W1.ret (WE.freeze ?_))
     (with_reducible refine WE.base (by assumption) ?_;refine WE.go (by assumption) ?_);refine Sp.mk ?_
     exact ⟨f,_,[],σ,rfl,rfl,Sp.mk (h l hl (by simp at hll;exact z723 hll))⟩
   ·refine brF (show ((E.length:Int)==1)=false by simp;exact z724 hl1) ?_
    refine Sp.mk ?_
    exact ⟨rfl,rfl⟩
  ·refine brF (show ((n:Int)==3)=false by simp;exact z725 h2) ?_
   refine Sp.mk ?_
   exact ⟨rfl,rfl⟩
 obtain ⟨b,hb,eb⟩:∃b:Nat,b<=20/\[D.int 0,D.int 20,D.int 6,D.int 4,D.int 2,D.int 2][n]? =some (.int b):=by
  rcases hn with rfl| rfl| rfl| rfl| rfl
  ·exact ⟨20,by decide,rfl⟩
  ·exact ⟨6,by decide,rfl⟩
  ·exact ⟨4,by decide,rfl⟩
  ·exact ⟨2,by decide,rfl⟩
  ·exact ⟨2,by decide,rfl⟩
 (with_reducible refine WS.go (by assumption) ?_);refine Sp.mk ?_
 refine .inl ?_
 refine Sp.mk ?_
 refine WSb.at (sd:=.lst _) rfl trivial eb (z696 h5) ?_
 refine Sp.mk ?_
 refine WF.at (box_ T hb h5 fun l hl hll=> ?_) (by decide)
 refine Sp.mk ?_
 refine WIv.seqA rfl (sd:=.lst _) row hh rfl trivial (Turns.of (fun x=>if (E.map fun e=>dot e x)=t then some (row x) else none) (fun _ _=>loc1 rfl) trivial (by simp only [sizeLine];exact z726 hll) (fun x hx fr' cenv hc=>WIfs.one ?_) (.inl ?_))
 ·have g:=g.at (relab_of hc hs)
  (with_reducible refine WT.go (by assumption) ?_);refine Sp.mk ?_
  refine WF.at (lawWorthL_ (xd:=.tup _) (xs:=x) T hsm rfl trivial (z672 h3) ?_) (by decide)
  refine Sp.mk ?_
  refine WB.eqD r (.of (Py.ints (n:=1))) (.of (Py.ints (n:=1))) ?_
  refine Sp.mk ?_
  rw [eqv_ints]
  by_cases q:(E.map fun e=>dot e x)=t
  ·refine brT (decide_eq_true q) ?_
   (with_reducible refine WE.go (by assumption) ?_);refine Sp.mk ?_
   exact ⟨rfl,by rw [if_pos q]⟩
  ·refine brF (decide_eq_false q) ?_
   skip
   rw [if_neg q]
   exact ⟨rfl,rfl⟩
 rw [filter_eq]
 exact Sp.mk (keep l hl hll)
end
section
variable {c:Cx} {σ:Sto} {X:Addr->Sto->Prop} {Q:D->Sto->Prop} {K:Frag} {C:Addr}
theorem are_good_ {f:Addr}{E out:List (List Int)}{n:Nat}{t:List Int}(T:Tp c B10 N10)(hEl:E.length=t.length)(hr:∀r∈E,okW n r)(h3:E.length<=3)(h1:1<=n)(h5:n<=5)(L:BegL E n t out)(hm:(f,O.lst (out.map row))∈σ)(h:Q (.bool true) σ):
  WF c (Room 3) "_law_are_good" [.ref f,rl E,il t,.int n] σ Q X:=by
 refine WF.byA 40 (ps:=["_law_found","_law_equations","_law_wants_here","_law_size_here"]) T rfl rfl (bind4 fun _ _ _ _ _ _ _=>rfl) (by rfl) rfl fun A fr env g r hh hs fe=> ?_
 have hE:=fun e he=>(hr e he).1
 have few:=L.few
 have hsol:=fun x hx=>((L.mem x).mp hx).sol hE
 have hol:∀x∈out,x.length=n:=fun x hx=>(hsol x hx).row.len
 refine Sp.mk ?_
 refine WF.at (rows_ (sd:=.ref f _) (l:=out) T rfl hm rfl hol (z633 h5) ?_) (by decide)
 refine Sp.mk ?_
 refine ⟨_,.ref f _,out,row,rfl,rfl,rfl,hm,?_⟩
 refine Loop.of (fun k m' σ'=>σ'=σ/\Hs m' [("_law_found",.ref f),("_law_equations",rl E),("_law_wants_here",il t)]) (fun _ _=>kinds2 (by with_unfolding_all exact .inl (kindOf_of (by assumption) (by rfl))) (by with_unfolding_all exact .inl (kindOf_of (by assumption) (by rfl)))) ⟨rfl,Hs.lit rfl⟩ (fun _ _ _ hL=>by rw [hL.1];exact hm) (fun k p m' σ' hk hL fr'=> ?_) (fun m' σ' hL=> ?_)
 ·obtain ⟨rfl,hv⟩:=hL
  obtain ⟨w,k',hwk⟩:∃w k',p=(w,k'):=⟨_,_,rfl⟩
  subst hwk
  rw [List.getElem?_zipIdx] at hk
  obtain ⟨w',hw',hp⟩:=Option.map_eq_some_iff.mp hk
  have hk':k'=k:=by injection hp with h1 h2;exact z727 h2
  have hw'':w'=w:=by injection hp
  subst hk';subst hw''
  have hin:=List.mem_of_getElem? hw'
  have hlt:k'<out.length:=(List.getElem?_eq_some_iff.mp hw').1
  have hs':=hsol w' hin
  have hlen:=hs'.row.len
  have hne:w'≠[]:=fun e=>by rw [e] at hlen;simp at hlen;exact z728 hlen h1
  refine WS.base (hv.both _) ?_
  refine WS.checkA rfl ?_ ?_
  ·(with_reducible refine W1.goN (by assumption) ?_);refine Sp.mk ?_
   refine At1.min (sd:=.tup _) (l:=w') hh rfl hne trivial ?_
   skip
   refine brF (decide_eq_false (by have:=minL_row hs'.row hne;exact z729 this)) ?_
   refine Sp.mk ?_
   refine WF.at (lawWorthL_ (xd:=.tup _) (xs:=w') T (fun x hx=>(small_of (hr x hx) h5).1) rfl trivial (z672 h3) ?_) (by decide)
   refine Sp.mk ?_
   refine WB.neD r (.of (Py.ints (n:=1))) (.of (Py.ints (n:=1))) ?_
   skip
   rw [eqv_ints,decide_eq_true ((worths_eq hEl).mpr hs'.eq)]
   refine Sp.mk ?_
   exact ⟨rfl,rfl⟩
  refine WS.checkA rfl ?_ ?_
  ·(with_reducible refine W1.goN (by assumption) ?_)
   by_cases hk0:(0:Int)<(k':Int)
   ·refine brT (show decide (0<(((w',k'):List Int × Nat).snd:Int))=true from decide_eq_true hk0) ?_
    obtain ⟨pr,hpr⟩:∃pr,out[k'-1]? =some pr:=⟨_,List.getElem?_eq_getElem (z730 hlt)⟩
    refine Sp.mk ?_
    refine WSb.at (sd:=.ref f _) (k:=k'-1) (d:=row pr) (by simp only;lia) hm (by simp only [SD.ds];rw [List.getElem?_map,hpr];rfl) (z732 few hlt) ?_
    refine Sp.mk ?_
    refine WF.at (key_ T ?_) (by decide)
    refine Sp.mk ?_
    refine WF.at (key_ T ?_) (by decide)
    refine Sp.mk ?_
    refine WB.geKey r ?_
    skip
    rw [(L.apart hE (show k'-1<k' by exact z733 hk0) hpr hw').2]
    refine Sp.mk ?_
    exact ⟨rfl,rfl⟩
   ·refine brF (show decide (0<(((w',k'):List Int × Nat).snd:Int))=false from decide_eq_false hk0) ?_
    refine Sp.mk ?_
    exact ⟨rfl,rfl⟩
  (with_reducible refine WS.goN (by assumption) ?_);refine Sp.mk ?_;(with_reducible refine WE.sliceA (by with_unfolding_all rfl) ?_;refine WE.go (by assumption) ?_);refine Sp.mk ?_;(with_reducible refine WPt.none ?_;refine WPt.some ?_;refine WE.go (by assumption) ?_);refine Sp.mk ?_
  refine ⟨_,rfl,.ref f _,rfl,rfl,hm,by simp only [SD.ds,List.length_map,sizeLine];exact z652 few,.inl ?_⟩
  rw [SD.ds,pick_upto,<-List.map_take]
  refine Sp.mk ?_
  refine WIv.seqA rfl (sd:=.lst _) row hh rfl trivial ?_
  refine Loop.of (fun _ m' σ''=>σ''=σ'/\Hs m' [("_law_found",.ref f),("_law_equations",rl E),("_law_wants_here",il t),("_law_row",row w')]) (fun _ _=>kinds1 (by with_unfolding_all exact .inl (kindOf_of (by assumption) (by rfl)))) ⟨rfl,Hs.lit rfl⟩ (fun _ _ _ _=>trivial) (fun j o m' σ'' hj hL fr'=> ?_) (fun m' σ'' hL=> ?_)
  ·obtain ⟨rfl,hv⟩:=hL
   rw [List.getElem?_take] at hj
   have hjk:j<k':=by
    rcases Nat.lt_or_ge j k' with q| q
    ·exact q
    ·rw [if_neg (by lia)] at hj;cases hj
   rw [if_pos hjk] at hj
   (with_reducible refine WS.base (Hs.both (by assumption) _) ?_;refine WS.goN (by assumption) ?_);refine Sp.mk ?_
   refine WF.at (lawWithin_ T ?_) (by decide)
   skip
   rw [(L.apart hE hjk hj hw').1]
   refine Sp.mk ?_
   exact ⟨rfl,Hs.lit rfl⟩
  ·obtain ⟨rfl,hv⟩:=hL
   (with_reducible refine WS.base (by assumption) ?_;refine WS.goK (by assumption) ?_);refine Sp.mk ?_
   exact ⟨rfl,Hs.lit rfl⟩
 ·obtain ⟨rfl,hv⟩:=hL
  (with_reducible refine WS.base (by assumption) ?_;refine WS.goK (by assumption) ?_);refine Sp.mk ?_
  exact h
theorem inside_eq {x:List Int}(l:List (List Int)):l.filterMap (fun o=>if inR o x=true then some (row o) else none)=(l.filter fun o=>inR o x).map row:=by
 induction l with
 | nil=>rfl
 | cons s l ih=>
  by_cases q:inR s x=true
  ·simp only [List.filterMap_cons,if_pos q,ih,List.filter_cons,if_true,List.map_cons]
  ·simp only [List.filterMap_cons,if_neg q,ih,List.filter_cons,q,if_false]
   rfl
theorem all_come_ {f:Addr}{E out l:List (List Int)}{n:Nat}{t:List Int}(T:Tp c B10 N10)(hEl:E.length=t.length)(hr:∀r∈E,okW n r)(h3:E.length<=3)(h1:1<=n)(h5:n<=5)(L:BegL E n t out)(hm:(f,O.lst (out.map row))∈σ)(hl:∀x∈l,Sol E n t x)(hll:l.length<=4084101)(h:Q (.bool true) σ):
  WF c (Room 3) "_law_all_come" [rl E,.ref f,.lst (l.map row)] σ Q X:=by
 refine WF.byA 42 (ps:=["_law_equations","_law_found","_law_rows_here"]) T rfl rfl (bind3 fun _ _ _ _ _ _=>rfl) (by rfl) rfl fun A fr env g r hh hs fe=> ?_
 have hE:=fun e he=>(hr e he).1
 have few:=L.few
 refine Sp.mk ?_
 refine WIv.seqA rfl (sd:=.lst _) row hh rfl trivial ?_
 refine Loop.of (fun k m' σ'=>σ'=σ/\Hs m' [("_law_found",.ref f),("_law_equations",rl E)]) (fun _ _=>kinds1 (by with_unfolding_all exact .inr (kindOf_of (by assumption) (by rfl)))) ⟨rfl,Hs.lit rfl⟩ (fun _ _ _ _=>trivial) (fun k x m' σ' hk hL fr'=> ?_) (fun m' σ' hL=> ?_)
 ·obtain ⟨rfl,hv⟩:=hL
  have sx:=hl x (List.mem_of_getElem? hk)
  (with_reducible refine WS.base (Hs.both (by assumption) _) ?_;refine WS.goN (by assumption) ?_);refine Sp.mk ?_
  refine WIv.seqA rfl (sd:=.ref f _) row hh rfl hm (Turns.of (fun o=>if inR o x=true then some (row o) else none) (fun _ _=>loc1 rfl) hm (by simp only [sizeLine];exact z652 few) (fun o ho fr' cenv hc=>WIfs.one ?_) (.inl ?_))
  ·have g:=g.at (relab_of hc hs)
   (with_reducible refine WT.go (by assumption) ?_);refine Sp.mk ?_
   refine WF.at (lawWithin_ T ?_) (by decide)
   refine Sp.mk ?_
   by_cases q:inR o x=true
   ·rw [q]
    (with_reducible refine ite_t ?_;refine WE.go (by assumption) ?_);refine Sp.mk ?_
    exact ⟨rfl,by rw [if_pos rfl]⟩
   ·have q':inR o x=false:=by simpa using q
    rw [q']
    (with_reducible refine ite_f ?_)
    exact ⟨rfl,by rw [if_neg (by decide)]⟩
  rw [inside_eq]
  obtain ⟨y,my,ly⟩:=sx.below hE
  have hy:y∈out.filter fun o=>inR o x:=List.mem_filter.mpr ⟨(L.mem y).mpr my,((my.sol hE).row.inR sx.row).mpr ly⟩
  have hfl:(out.filter fun o=>inR o x).length<64:=Nat.lt_of_le_of_lt (List.length_filter_le _ _) few
  have hin:∀z∈out.filter fun o=>inR o x,Sol E n t z:=fun z hz=>((L.mem z).mp (List.mem_filter.mp hz).1).sol hE
  generalize out.filter (fun o=>inR o x)=ins' at hy hfl hin⊢
  match ins',hy,hfl,hin with
  | z::zs,hy,hfl,hin=>
   have sz:=hin z (.head _)
   have hxl:=sx.row.len
   have hzl:=sz.row.len
   refine Sp.mk ?_;(with_reducible refine WS.goK (by assumption) ?_);refine Sp.mk ?_
   refine At1.lenM (sd:=.lst _) (l:=z::zs) (F:=row) rfl trivial (z734 hfl) ?_
   refine Sp.mk ?_
   refine WSb.at (sd:=.lst _) (d:=row z) (k:=0) rfl trivial rfl (by decide) ?_
   refine Sp.mk ?_
   refine ⟨_,_,.tup _,.tup _,x,z,D.int,D.int,rfl,rfl,rfl,rfl,trivial,trivial,Turns.map (fun q=>.int (q.1-q.2)) (fun _ _=>loc2 rfl rfl) ⟨trivial,trivial⟩ (by rw [List.length_zip];simp only [sizeLine];exact z735 hxl h5) (fun q hq fr' cenv hc=> ?_) (.inl ?_)⟩
   ·have g:=g.at (relab_of hc hs)
    (with_reducible refine WE.go (by assumption) ?_);refine Sp.mk ?_
    exact ⟨rfl,rfl⟩
   refine Sp.mk ?_
   refine At1.tuple (sd:=.lst _) trivial (by simp only [SD.ds,List.length_map,List.length_zip,sizeLine];exact z735 hxl h5) ?_
   refine Sp.mk ?_;(with_reducible refine WS.goK (by assumption) ?_);refine Sp.mk ?_
   simp only [SD.ds]
   rw [show (x.zip z).map (fun q=>D.int (q.1-q.2))=(subR x z).map D.int by unfold subR;rw [List.map_map];rfl]
   skip
   refine WF.at (is_even_ T (fun x hx=>small_of (hr x hx) h5) (z672 h3) ?_) (by decide)
   skip
   rw [show (E.all fun r=>dot r (subR x z)==0)=true by
    rw [List.all_eq_true]
    intro e he
    have:=Even.iff.mp (sx.left hEl sz) e he
    simpa using this]
   refine Sp.mk ?_
   exact ⟨rfl,Hs.lit rfl⟩
 ·obtain ⟨rfl,hv⟩:=hL
  (with_reducible refine WS.base (by assumption) ?_;refine WS.goK (by assumption) ?_);refine Sp.mk ?_
  exact h
end
theorem set_get2 {xs:List Int}{p:Nat}{v:Int}(hp:p<xs.length)(i:Nat):(xs.set p v).getD i 0=if i=p then v else xs.getD i 0:=by
 simp only [List.getD_eq_getElem?_getD,List.getElem?_set]
 by_cases h:i=p
 ·subst h;simp [hp]
 ·rw [if_neg (fun e=>h e.symm),if_neg h]
structure SgI (n u k:Nat)(E:List (List Int))(t r:List Int):Prop where
 len:E.length=k
 tlen:t.length=k
 rlen:r.length=n
 elen:∀e∈E,e.length=n
 one:∀i,i<k->∃s,(s=1\/s= -1)/\(∀j,(E.getD i []).getD j 0=if j=(u+i) % n then s else 0)/\r.getD ((u+i) % n) 0=s*t.getD i 0
 rest:∀j,r.getD j 0≠0->∃i,i<k/\j=(u+i) % n
 t8:∀τ∈t,-8<=τ/\τ<=8
theorem rep_get (n j:Nat):(List.replicate n (0:Int)).getD j 0=0:=by
 simp only [List.getD_eq_getElem?_getD,List.getElem?_replicate];split<;>rfl
theorem SgI.zero {n u:Nat}:SgI n u 0 [] [] (List.replicate n 0):=⟨rfl,rfl,by simp,(fun e he=>(by contradiction)),fun i hi=>absurd hi (Nat.not_lt_zero _),fun j hj=>absurd (rep_get n j) hj,(fun τ hτ=>(by contradiction))⟩
theorem place_ne {n u i k:Nat}(hu:u<n)(hik:i<k)(hk:k<n):(u+i) % n≠(u+k) % n:=by
 have m:∀j,j<n->(u+j) % n=if u+j<n then u+j else u+j-n:=fun j hj=>by
  split
  ·exact Nat.mod_eq_of_lt ‹_›
  ·exact (Nat.mod_eq_sub_mod (by exact z736 ‹_›) ..).trans (Nat.mod_eq_of_lt (z737 hu hj))
 simp only [m i (z738 hik hk),m k hk]
 split<;>split<;>lia
theorem SgI.snoc {n u k:Nat}{E:List (List Int)}{t r:List Int}(S:SgI n u k E t r)(hu:u<n)(hk:k<n){s τ:Int}(hs:s=1\/s= -1)(hτ: -8<=τ/\τ<=8):SgI n u (k+1) (E++[(List.replicate n 0).set ((u+k) % n) s]) (t++[τ]) (r.set ((u+k) % n) (τ*s)):=by
 have hp:(u+k) % n<n:=Nat.mod_lt _ (z743 hu)
 have gE:∀i,(E++[(List.replicate n 0).set ((u+k) % n) s]).getD i []=if i<k then E.getD i [] else if i=k then (List.replicate n 0).set ((u+k) % n) s else []:=fun i=>by
  rw [List.getD_eq_getElem?_getD,List.getElem?_append,S.len]
  split
  ·exact (List.getD_eq_getElem?_getD ..)
  ·rename_i h
   by_cases q:i=k
   ·subst q;rw [Nat.sub_self,if_pos rfl];rfl
   ·rw [if_neg q,List.getElem?_eq_none (by exact z441 h q)];rfl
 have gt:∀i,(t++[τ]).getD i 0=if i=k then τ else t.getD i 0:=fun i=>snoc_get S.tlen i
 have gr:=set_get2 (xs:=r) (p:=(u+k) % n) (v:=τ*s) (by rw [S.rlen];exact hp)
 refine ⟨by rw [List.length_append,S.len];rfl,by rw [List.length_append,S.tlen];rfl,by exact (List.length_set ..).trans (S.rlen),fun e he=> ?_,fun i hi=> ?_,fun j hj=> ?_,fun x hx=> ?_⟩
 ·rcases List.mem_append.mp he with q| q
  ·exact S.elen e q
  ·rw [List.mem_singleton.mp q];simp
 ·by_cases q:i=k
  ·cases q
   refine ⟨s,hs,fun j=> ?_,?_⟩
   ·rw [gE,if_neg (Nat.lt_irrefl _),if_pos rfl,set_get2 (by simp;exact hp),rep_get]
   ·rw [gr,if_pos rfl,gt,if_pos rfl,Int.mul_comm]
  ·obtain ⟨s',h1,h2,h3⟩:=S.one i (z6 hi q)
   refine ⟨s',h1,fun j=>by rw [gE,if_pos (z6 hi q)];exact h2 j,?_⟩
   rw [gr,if_neg (place_ne hu (z6 hi q) hk),gt,if_neg q]
   exact h3
 ·rw [gr] at hj
  by_cases q:j=(u+k) % n
  ·exact ⟨k,z429,q⟩
  ·rw [if_neg q] at hj
   obtain ⟨i,h1,h2⟩:=S.rest j hj
   exact ⟨i,z0 h1,h2⟩
 ·rcases List.mem_append.mp hx with q| q
  ·exact S.t8 x q
  ·exact (List.mem_singleton.mp q)▸hτ
theorem SgI.sgl {n u k:Nat}{E:List (List Int)}{t r:List Int}(S:SgI n u k E t r)(h3:n=3\/n=4\/n=5):Sgl E n t r:=by
 have at':∀i,i<k->(E.getD i [],t.getD i 0)∈E.zip t:=fun i hi=>List.mem_iff_getElem.mpr ⟨i,by simp only [List.length_zip,S.len,S.tlen];exact z744 hi,by
  simp only [List.getElem_zip,List.getD_eq_getElem?_getD,List.getElem?_eq_getElem (by rw [S.len];exact hi),List.getElem?_eq_getElem (by rw [S.tlen];exact hi)];rfl⟩
 refine ⟨h3,S.elen,by exact (S.len ..).trans (S.tlen ..).symm,S.rlen,fun q hq=> ?_,fun j hj hne=> ?_,S.t8⟩
 ·obtain ⟨i,hi,e⟩:=List.mem_iff_getElem.mp hq
  simp only [List.length_zip,S.len,S.tlen,Nat.min_self] at hi
  have e1:q=(E.getD i [],t.getD i 0):=by
   simp only [<-e,List.getElem_zip,List.getD_eq_getElem?_getD,List.getElem?_eq_getElem (by rw [S.len];exact hi),List.getElem?_eq_getElem (by rw [S.tlen];exact hi)];rfl
  obtain ⟨s,h1,h2,h4⟩:=S.one i hi
  exact e1▸⟨(u+i) % n,s,Nat.mod_lt _ (z745 h3),h1,h2,h4⟩
 ·obtain ⟨i,hi,e⟩:=S.rest j hne
  obtain ⟨s,h1,h2,h4⟩:=S.one i hi
  refine ⟨_,at' i hi,?_⟩
  rw [h2,if_pos e];exact z460 h1
theorem minL_neg {l:List Int}(hne:l≠[]):minL l<0↔¬∀a∈l,0<=a:=by
 have le:∀(l:List Int) (b:Int),l.foldl min b<=b/\∀x∈l,l.foldl min b<=x:=by
  intro l
  induction l with
  | nil=>exact fun b=>⟨Int.le_refl _,fun x hx=>by contradiction⟩
  | cons y l ih=>
   intro b
   obtain ⟨a1,a2⟩:=ih (min b y)
   have hb:min b y<=b/\min b y<=y:=z746
   refine ⟨Int.le_trans a1 hb.1,fun x hx=> ?_⟩
   rcases List.mem_cons.mp hx with rfl| hx
   ·exact Int.le_trans a1 hb.2
   ·exact a2 x hx
 constructor
 ·intro h q
  have:=minL_row (n:=l.length) (.of rfl q) hne
  exact z22 h this
 ·intro h
  apply Classical.byContradiction
  intro n
  refine h fun a ha=> ?_
  cases l with
  | nil=>contradiction
  | cons b l=>
   obtain ⟨l1,l2⟩:=le l b
   rcases List.mem_cons.mp ha with rfl| ha
   ·exact z747 l1 n
   ·exact z747 (l2 a ha) n
noncomputable abbrev sgV (S:List Int)(n u q:Nat)(ea wa ra:Addr):Vars:=[("_law_equations",.ref ea),("_law_wants_here",.ref wa),("_law_row",.ref ra),("_law_size_here",.int n),("_law_turn",.int u),("_law_many",.int q),("_law_script",.lst (S.map D.int))]
inductive SgL (S:List Int)(n u q:Nat)(ea wa ra:Addr)(σ:Sto)(k:Nat)(m':Vars)(σ':Sto):Prop
 | mk (E:List (List Int)) (t r:List Int) (hk:k<=q) (SI:SgI n u k E t r) (eq:σ'=(ra,.lst (r.map D.int))::(wa,.lst (t.map D.int))::(ea,.lst (E.map il))::σ) (hv:Hs m' (sgV S n u q ea wa ra)):SgL S n u q ea wa ra σ k m' σ'
section
variable {c:Cx} {σ:Sto} {X:Addr->Sto->Prop} {Q:D->Sto->Prop} {K:Frag} {C:Addr}
theorem single_ {S:List Int}(T:Tp c B10 N10)(G:Gi c G10)(Sy:Ks c K C "System" Bd10)(hS:S.length<=63)(h:∀σ',Q (.bool true) σ'):WF c (Room 6) "_law_single" [.lst (S.map .int)] σ Q X:=by
 refine WF.byG 41 (ps:=["_law_script"]) T G rfl rfl (bind1 fun _ _ _ _=>rfl) (by rfl) rfl fun A fr env g r hh hs fe=> ?_
 have m1:Mth K C "__init__":=Mth.byA 0 Sy rfl rfl
 have m2:Mth K C "begins":=Mth.byA 8 Sy rfl rfl
 refine Sp.mk ?_
 refine WF.at (cell_at_ T hS (by decide) (by decide) ?_) (by decide)
 refine Sp.mk ?_
 obtain ⟨n,hn,en⟩:∃n:Nat,(n=3\/n=4\/n=5)/\3+S.getD (Int.toNat 0) 0 % 3=n:=⟨(3+S.getD (Int.toNat 0) 0 % 3).toNat,z748,z749⟩
 rw [en]
 have hn2:3<=n/\n<=5:=z750 hn
 skip
 refine WF.at (cell_at_ T hS (by decide) (by decide) ?_) (by decide)
 refine Sp.mk ?_
 refine WB.modE (z751 hn) (z752 hn) ?_
 refine Sp.mk ?_
 obtain ⟨u,hu,eu⟩:∃u:Nat,u<n/\S.getD (Int.toNat 1) 0 % (n:Int)=u:=by
  have h1:=Int.emod_nonneg (S.getD (Int.toNat 1) 0) (show (n:Int)≠0 by exact z753 hn)
  have h2:=Int.emod_lt_of_pos (S.getD (Int.toNat 1) 0) (show (0:Int)<n by exact z751 hn)
  exact ⟨(S.getD (Int.toNat 1) 0 % (n:Int)).toNat,z754 hn2.1 h2,z755 h1⟩
 rw [eu]
 skip
 refine WF.at (cell_at_ T hS (by decide) (by decide) ?_) (by decide)
 refine Sp.mk ?_
 obtain ⟨q,hq,eq⟩:∃q:Nat,(q=2\/q=3)/\2+S.getD (Int.toNat 0) 0/3 % 2=q:=⟨(2+S.getD (Int.toNat 0) 0/3 % 2).toNat,z756,z757⟩
 rw [eq]
 skip
 refine .inr fun ea hea=> ?_
 refine Sp.mk ?_
 refine .inr fun wa hwa=> ?_
 refine Sp.mk ?_
 refine .inl ?_
 refine Sp.mk ?_
 refine WB.rep (z758 hn) (.inr fun ra hra=> ?_)
 refine Sp.mk ?_
 refine ⟨z653,z759 hq,?_⟩
 rw [Int.toNat_natCast]
 have ne1:wa≠ea:=fun z=>hwa (by rw [z];exact List.mem_cons_self)
 have ne2:ra≠wa/\ra≠ea:=⟨fun z=>hra (by rw [z];exact List.mem_cons_self),fun z=>hra (by rw [z];exact List.mem_cons_of_mem _ List.mem_cons_self)⟩
 refine Loop.of (SgL S n u q ea wa ra σ)
  (fun _ _=>kinds1 (by with_unfolding_all exact Or.inl (kindOf_of (by assumption) (by rfl)))) ⟨[],[],_,Nat.zero_le _,SgI.zero,rfl,Hs.lit rfl⟩ (fun _ _ _ _=>trivial) (fun k i m' σ' hi hL fr'=> ?_) (fun m' σ' hL=> ?_)
 ·obtain ⟨E,t,rw_,hk,SI,rfl,hv⟩:=hL
  have hi':i=k/\k<q:=by
   obtain ⟨z1,z2⟩:=List.getElem?_eq_some_iff.mp hi
   simp at z1 z2
   exact z655 z1 z2
  obtain ⟨rfl,hkq⟩:=hi'
  have hkn:i<n:=z760 hkq hq hn
  (with_reducible refine WS.base (Hs.both (by assumption) _) ?_;refine WS.goN (by assumption) ?_);refine Sp.mk ?_
  refine WF.at (cell_at_ T hS z761 (z762 eq hk) ?_) (by decide)
  refine Sp.mk ?_
  generalize S.getD (3+(i:Int)).toNat 0=cl
  skip
  refine .inl ?_
  refine Sp.mk ?_
  refine WB.rep (z758 hn) (.inr fun a ha=> ?_)
  refine Sp.mk ?_
  obtain ⟨s,hs1,es⟩:∃s:Int,(s=1\/s= -1)/\[D.int 1,D.int (-1)][(cl % 2).toNat]? =some (.int s):=by
   have:cl % 2=0\/cl % 2=1:=z763
   rcases this with z| z<;>rw [z]
   ·exact ⟨1,.inl rfl,rfl⟩
   ·exact ⟨-1,.inr rfl,rfl⟩
  have e2c:cl % 2=((cl % 2).toNat:Int):=z764
  have hpl:((u:Int)+i) % n=(((u+i) % n:Nat):Int):=by lia
  have hpn:(u+i) % n<n:=Nat.mod_lt _ (z745 hn)
  have hsm:s.natAbs<100:=z765 hs1
  have hrl:=SI.rlen
  skip
  refine W1.setL ?_ (by with_unfolding_all rfl)
  (with_reducible refine WE.go (by assumption) ?_);refine Sp.mk ?_
  refine .inl ?_
  refine Sp.mk ?_
  refine WSb.at (sd:=.lst _) e2c trivial es z766 ?_
  refine Sp.mk ?_;(with_reducible refine WE.go (by assumption) ?_);refine Sp.mk ?_;(with_reducible refine WE.go (by assumption) ?_);refine Sp.mk ?_
  refine WB.modE (z751 hn) (z752 hn) ?_
  refine Sp.mk ?_
  rw [hpl]
  refine ⟨a,_,(u+i) % n,[],_,rfl,rfl,rfl,by simp;exact hpn,z767 hpn hn,?_⟩
  rw [<-List.map_set]
  refine WS.freeze (σa:=[]) ?_
  generalize he:(List.replicate n (0:Int)).set ((u+i) % n) s=e
  have hna:a≠ra/\a≠wa/\a≠ea:=⟨fun z=>ha (by rw [z];exact List.mem_cons_self),fun z=>ha (by rw [z];exact List.mem_cons_of_mem _ List.mem_cons_self),fun z=>ha (by rw [z];exact List.mem_cons_of_mem _ (List.mem_cons_of_mem _ List.mem_cons_self))⟩
  simp only [sgV,List.cons_append,List.nil_append,fz_self,fz_ne hna.1.symm,fz_ne hna.2.1.symm,fz_ne hna.2.2.symm,fz_int,fz_lst,fz_nil]
  (with_reducible refine WS.goK (by assumption) ?_);refine Sp.mk ?_
  refine ⟨.ref ea _,rfl,rfl,List.mem_cons_of_mem _ (List.mem_cons_of_mem _ List.mem_cons_self),?_⟩
  refine Sp.mk ?_
  refine At1.append (σ1:=[_,_]) (by have:=SI.len;simp only [List.length_map,sizeLine];exact z768 hq this hk) ?_
  refine Sp.mk ?_
  simp only [List.cons_append,List.nil_append]
  skip
  refine ⟨.ref wa _,rfl,rfl,List.mem_cons_of_mem _ List.mem_cons_self,?_⟩
  obtain ⟨M,hM,eM⟩:∃M:Int,(0<M/\M<=9)/\[D.int 0,D.int 0,D.int 9,D.int 5][q]? =some (.int M):=by
   rcases hq with rfl| rfl
   ·exact ⟨9,by decide,rfl⟩
   ·exact ⟨5,by decide,rfl⟩
  obtain ⟨s2,hs2,es2⟩:∃s:Int,(s=1\/s= -1)/\[D.int 1,D.int 1,D.int 1,D.int (-1)][(cl/18 % 4).toNat]? =some (.int s):=by
   have:cl/18 % 4=0\/cl/18 % 4=1\/cl/18 % 4=2\/cl/18 % 4=3:=z769
   rcases this with z| z| z| z<;>rw [z]
   ·exact ⟨1,.inl rfl,rfl⟩
   ·exact ⟨1,.inl rfl,rfl⟩
   ·exact ⟨1,.inl rfl,rfl⟩
   ·exact ⟨-1,.inr rfl,rfl⟩
  have e4c:cl/18 % 4=((cl/18 % 4).toNat:Int):=z770
  refine Sp.mk ?_
  refine .inl ?_
  refine Sp.mk ?_
  refine WSb.at (sd:=.lst _) rfl trivial eM (z771 hq) ?_
  refine Sp.mk ?_
  refine WB.modE hM.1 (z772 hM.1 hM.2) ?_
  refine Sp.mk ?_
  refine .inl ?_
  refine Sp.mk ?_
  refine WSb.at (sd:=.lst _) e2c trivial es z766 ?_
  refine Sp.mk ?_
  refine WB.mul (mulOk_right (z773 hs1)) ?_
  refine Sp.mk ?_
  refine .inl ?_
  refine Sp.mk ?_
  refine WSb.at (sd:=.lst _) e4c trivial es2 z774 ?_
  refine Sp.mk ?_
  refine WB.mul (mulOk_right (z773 hs2)) ?_
  refine Sp.mk ?_
  have hτ: -8<=cl/2 % M*s*s2/\cl/2 % M*s*s2<=8:=by
   have z1:=Int.emod_nonneg (cl/2) (show M≠0 by exact z775 hM.1)
   have z2:=Int.emod_lt_of_pos (cl/2) hM.1
   rcases hs1 with rfl| rfl<;>rcases hs2 with rfl| rfl<;>lia
  generalize cl/2 % M*s*s2=τ at hτ⊢
  skip
  refine At1.append (σ1:=[_]) (by have:=SI.tlen;simp only [List.length_map,sizeLine];exact z780 hkn hn this) ?_
  refine Sp.mk ?_
  simp only [List.cons_append,List.nil_append]
  skip
  refine W1.setL ?_ (by with_unfolding_all rfl)
  (with_reducible refine WE.go (by assumption) ?_);refine Sp.mk ?_
  have htl:=SI.tlen
  refine WSb.item (sd:=.ref wa (t.map D.int++[.int τ])) (d:=.int τ) (List.mem_cons_of_mem _ List.mem_cons_self) z781 z782 (by simp only [SD.ds,List.length_append,List.length_map,List.length_cons,List.length_nil];exact z783) ?_ ?_
  ·simp only [SD.ds,List.length_append,List.length_map,List.length_cons,List.length_nil,idx,htl]
   rw [if_pos z784,show ((-1:Int)+((i+(0+1):Nat):Int)).toNat=i by exact z785,List.getElem?_append_right (by simp;lia)]
   simp [htl]
  refine Sp.mk ?_
  refine .inl ?_
  refine Sp.mk ?_
  refine WSb.at (sd:=.lst _) e2c trivial es z766 ?_
  refine Sp.mk ?_
  refine WB.mul (mulOk_right (z773 hs1)) ?_
  refine Sp.mk ?_;(with_reducible refine WE.go (by assumption) ?_);refine Sp.mk ?_;(with_reducible refine WE.go (by assumption) ?_);refine Sp.mk ?_
  refine WB.modE (z751 hn) (z752 hn) ?_
  refine Sp.mk ?_
  rw [hpl]
  refine ⟨ra,_,(u+i) % n,[],_,rfl,rfl,rfl,by rw [List.length_map,hrl];exact hpn,z767 hpn hn,?_⟩
  rw [<-List.map_set]
  (with_reducible refine WS.goK (by assumption) ?_);refine Sp.mk ?_
  refine ⟨E++[e],t++[τ],rw_.set ((u+i) % n) (τ*s),hkq,he▸SI.snoc hu hkn hs1 hτ,by simp,Hs.lit rfl⟩
 ·obtain ⟨E,t,r',hk,SI,rfl,hv⟩:=hL
  rw [List.length_range] at SI
  have SG:=SI.sgl hn
  have hEl:E.length=t.length:=SG.many
  have hE3:E.length<=3:=by rw [SI.len];exact z786 hq
  have hok:∀e∈E,okW n e:=fun e he=>⟨SI.elen e he,fun x hx=>by
   obtain ⟨j,hj,rfl⟩:=mem_get hx
   obtain ⟨i,hi,rfl⟩:=List.mem_iff_getElem.mp he
   have hz:(E[i],t[i]'(z39 hi hEl))∈E.zip t:=List.mem_iff_getElem.mpr ⟨i,by rw [List.length_zip];exact z342 hi hEl,by rw [List.getElem_zip]⟩
   obtain ⟨p,s,_,h1,h2,_⟩:=SG.one _ hz
   have h2:(E[i]).getD j 0=if j=p then s else 0:=h2 j
   rw [h2];split<;>lia⟩
  have htW:okW E.length t:=⟨hEl.symm,fun x hx=>by have:=SI.t8 x hx;exact z789 this.1 this.2⟩
  have hrl:=SI.rlen
  have hrne:r'≠[]:=fun z=>by rw [z] at hrl;simp at hrl;exact z790 hrl hn
  (with_reducible refine WS.base (by assumption) ?_;refine WS.goK (by assumption) ?_);refine Sp.mk ?_;(with_reducible refine WE.mthA (by with_unfolding_all rfl) (by assumption) (by assumption) (by assumption) ?_ (by with_unfolding_all decide) (by with_unfolding_all decide) (by with_unfolding_all rfl) (by with_unfolding_all (intro _;rfl)) (by with_unfolding_all rfl) (by with_unfolding_all rfl);refine WE.callCA (by with_unfolding_all rfl) (by assumption) (by assumption) (by assumption) (by with_unfolding_all exact kindOf_of (by assumption) (by rfl)) (by assumption) ?_ (by with_unfolding_all rfl) (by with_unfolding_all decide);refine WA.go (by assumption) ?_);refine Sp.mk ?_
  refine WIv.seqA rfl (sd:=.ref ea _) il hh rfl (List.mem_cons_of_mem _ (List.mem_cons_of_mem _ List.mem_cons_self)) (Turns.map (fun w=>il w) (fun _ _=>loc1 rfl) (List.mem_cons_of_mem _ (List.mem_cons_of_mem _ List.mem_cons_self)) (by simp only [SD.ds,List.length_map,sizeLine];exact z632 hE3) (fun w hw fr' cenv hc=> ?_) (.inl ?_))
  ·have g:=g.at (relab_of hc hs)
   have:=(hok w hw).1
   (with_reducible refine WE.go (by assumption) ?_);refine Sp.mk ?_
   refine At1.list (sd:=.lst _) trivial (by (simp only [SD.ds,List.length_map,List.length_range,List.length_zip,List.length_take,List.length_drop,List.length_append,List.length_replicate,List.length_cons,List.length_nil,sizeLine]<;>lia)) (.inl ⟨rfl,rfl⟩)
  refine Sp.mk ?_
  intro dx hdx
  refine WM.at (new_ (sd:=.lst _) (ws:=lstW E) T G Sy rfl trivial lstW_d ⟨fun w hw=>⟨(lstW_ok hw).1,hok _ (lstW_ok (σ:=[]) hw).2⟩,by rw [lstW_len];exact hE3⟩ (z792 hn) (z440 hn) ?_ dx) (by decide)
  (with_reducible refine kMeth.mk ?_;refine WA.go (by assumption) ?_);refine Sp.mk ?_
  rw [lstW_2]
  skip
  refine At1.list (sd:=.ref wa _) (List.mem_cons_of_mem _ List.mem_cons_self) (by simp only [SD.ds,List.length_map,sizeLine];exact z793 hEl hE3) (.inl ?_)
  refine Sp.mk ?_
  simp only [SD.ds]
  skip
  refine WM.at (begins_ (sd:=.lst _) T G Sy SG.beg hEl hok ⟨rfl,rfl,trivial⟩ htW hE3 (z792 hn) (z440 hn) fun out L=>.inl ?_) (by decide)
  refine Sp.mk ?_
  have few:=L.few
  skip
  refine At1.tuple (sd:=.ref ra _) List.mem_cons_self (by simp only [SD.ds,List.length_map,sizeLine];exact z791 hn hrl) ?_
  refine Sp.mk ?_
  simp only [SD.ds]
  skip
  refine .inl ?_
  refine Sp.mk ?_;(with_reducible refine WS.goK (by assumption) ?_);refine Sp.mk ?_
  refine At1.min (sd:=.ref ra _) (l:=r') hh rfl hrne List.mem_cons_self ?_
  skip
  by_cases hneg:minL r'<0
  ·refine brT (decide_eq_true hneg) ?_
   have hno:out=[]:=L.none fun x hx=>(minL_neg hrne).mp hneg (SG.min.mp hx).2
   subst hno
   refine Sp.mk ?_
   refine .inl ?_
   refine Sp.mk ?_
   refine WF.at (rows_ (sd:=.lst _) (l:=[]) T rfl trivial rfl (fun x hx=>by cases hx) (z794 hn) ?_) (by decide)
   refine Sp.mk ?_
   refine WB.eqD r (.of (Py.lst (n:=3) .nil)) (.of (Py.lst (n:=3) .nil)) ?_
   refine Sp.mk ?_
   exact h _
  ·refine brF (decide_eq_false hneg) ?_
   have hall:∀a∈r',0<=a:=Classical.byContradiction fun z=>hneg ((minL_neg hrne).mpr z)
   have hone:out=[r']:=L.only fun x=>SG.min.trans ⟨fun z=>z.1,fun z=>⟨z,hall⟩⟩
   subst hone
   refine Sp.mk ?_
   refine WF.at (rows_ (sd:=.lst _) (l:=[r']) T rfl trivial rfl (fun x hx=>by rw [List.mem_singleton.mp hx];exact hrl) (z794 hn) ?_) (by decide)
   refine Sp.mk ?_
   refine WB.eqD r (.of (Py.lst (n:=3) (PyAll.rows (xs:=[r'])))) (.of (Py.lst (n:=3) (PyAll.rows (xs:=[r'])))) ?_
   refine Sp.mk ?_
   rw [eqvRows1]
   exact h _
end
structure Wk (E:List (List Int))(n:Nat):Prop where
 ok:∀r∈E,okW n r
 many:E.length<=3
 shape:(n=1\/n=2)\/(n=3/\∀e∈E,∀x∈e,-2<=x/\x<=2)\/(n=3/\E.length<=1/\∀e∈E,∀x∈e,-5<=x/\x<=5)\/((4<=n/\n<=5)/\E.length<=1/\∀e∈E,∀x∈e,-2<=x/\x<=2)
noncomputable def capT (n:Nat):Int:=if n<3 then 20 else if n=3 then 6 else 3
theorem Wk.of {rows:List (List Int)}{n:Nat}(h1:1<=n)(h5:n<=5)(hm:rows.length<=3)(hE:∀e∈rows,e.length=n)(hw:∀e∈rows,∀x∈e,-mostN n rows.length<=x/\x<=mostN n rows.length)(h4:3<n->rows.length<=1):Wk rows n:=by
 refine ⟨fun e he=>okW_of ⟨hE e he,hw e he⟩ (mostN_ok n _).2,hm,?_⟩
 have:n=1\/n=2\/n=3\/(4<=n/\n<=5):=z637 h1 h5
 rcases this with h| h| h| h
 ·exact .inl (.inl h)
 ·exact .inl (.inr h)
 ·subst h
  by_cases q:rows.length<2
  ·exact .inr (.inr (.inl ⟨rfl,z638 q,fun e he x hx=>by
    have:=hw e he x hx
    unfold mostN at this
    rw [if_neg (by decide),if_pos rfl,if_pos q] at this
    exact this⟩))
  ·exact .inr (.inl ⟨rfl,fun e he x hx=>by
    have:=hw e he x hx
    unfold mostN at this
    rw [if_neg (by decide),if_pos rfl,if_neg q] at this
    exact this⟩)
 ·have q:=h4 (z639 h.1)
  exact .inr (.inr (.inr ⟨h,q,fun e he x hx=>by
   have:=hw e he x hx
   unfold mostN at this
   rw [if_neg (z92 h.1),if_neg (z93 h.1),if_pos (z640 q)] at this
   exact this⟩))
theorem capT_small {n:Nat}(h:n=1\/n=2):capT n=20:=by rcases h with rfl| rfl<;>rfl
theorem capT_big {n:Nat}(h:4<=n/\n<=5):capT n=3:=by unfold capT;exact (if_neg (z92 h.1) ..).trans (if_neg (z93 h.1) ..)
theorem capT_ok (n:Nat):0<=capT n/\capT n<=20:=by unfold capT;split;decide;split<;>decide
theorem mwN_cap {n:Nat}(h1:1<=n)(h5:n<=5):mwN n<=capT n:=by
 have:n=1\/n=2\/n=3\/n=4\/n=5:=z586 h1 h5
 rcases this with rfl| rfl| rfl| rfl| rfl<;>decide
theorem Wk.beg {E:List (List Int)}{n:Nat}{t:List Int}(W:Wk E n)(hl:E.length=t.length)(ht:∀τ∈t,-capT n<=τ/\τ<=capT n):Beg E n t:=by
 have hE:=fun e he=>(W.ok e he).1
 rcases W.shape with h| ⟨h,hw⟩| ⟨h,hm,hw⟩| ⟨h,hm,hw⟩
 ·rw [capT_small h] at ht
  exact Beg.small h hE W.many (fun e he=>(W.ok e he).2) ht
 ·subst h
  exact Beg.three hE W.many hw ht
 ·subst h
  rcases len01 hl hm with ⟨rfl,rfl⟩| ⟨e,τ,rfl,rfl⟩
  ·exact Beg.none (by decide)
  ·exact Beg.line3 (One.one (hE e (.head _))) hE (fun x hx=>by have:=hw e (.head _) x hx;exact z641 this.1 this.2) (ht τ (.head _))
 ·rw [capT_big h] at ht
  rcases len01 hl hm with ⟨rfl,rfl⟩| ⟨e,τ,rfl,rfl⟩
  ·exact Beg.none h.2
  ·exact Beg.line45 h.2 (One.one (hE e (.head _))) hE (hw e (.head _)) (ht τ (.head _))
theorem Wk.fits {E:List (List Int)}{n:Nat}(W:Wk E n):Fits6 E n:=by
 have hE:=fun e he=>(W.ok e he).1
 rcases W.shape with h| ⟨h,hw⟩| ⟨h,hm,hw⟩| ⟨h,hm,hw⟩
 ·exact .small h hE W.many fun e he=>(W.ok e he).2
 ·subst h;exact .size3 hE W.many hw
 ·subst h;exact .line3 hE hm hw
 ·exact .line45 (z642 h.1) h.2 hE hm hw
theorem rep_in (n:Nat){w:Int}(h:0<=w):∀x∈List.replicate n (0:Int),-w<=x/\x<=w:=fun x hx=>by
 exact ((List.mem_replicate.mp hx).2)▸z443 h
theorem in_snoc {α:Type}{l:List α}{a:α}{P:α->Prop}(h:∀x∈l,P x)(ha:P a):∀x∈l++[a],P x:=fun x hx=>by
 rcases List.mem_append.mp hx with q| q
 ·exact h x q
 ·rw [List.mem_singleton.mp q];exact ha
theorem Wk.beg2 {E:List (List Int)}{n:Nat}{t:List Int}(W:Wk E n)(hl:E.length=t.length)(h2:E.length<=2)(ht:∀τ∈t,-capT n<=τ/\τ<=capT n):Beg (E++[List.replicate n 0]) n (t++[0]):=by
 have hE:∀e∈E++[List.replicate n 0],e.length=n:=in_snoc (fun e he=>(W.ok e he).1) List.length_replicate
 have hm2:(E++[List.replicate n 0]).length<=3:=by simp;exact h2
 have ht0:=in_snoc ht (by have:=capT_ok n;exact z443 this.1: -capT n<=(0:Int)/\(0:Int)<=capT n)
 rcases W.shape with h| ⟨h,hw⟩| ⟨h,hm,hw⟩| ⟨h,hm,hw⟩
 ·rw [capT_small h] at ht0
  exact Beg.small h hE hm2 (in_snoc (P:=fun e=>∀x∈e,-20<=x/\x<=20) (fun e he=>(W.ok e he).2) (rep_in n (by decide))) ht0
 ·subst h
  exact Beg.three hE hm2 (in_snoc (P:=fun e=>∀x∈e,-2<=x/\x<=2) hw (rep_in 3 (by decide))) ht0
 ·subst h
  rcases len01 hl hm with ⟨rfl,rfl⟩| ⟨e,τ,rfl,rfl⟩
  ·exact Beg.line3 (One.one (List.length_replicate)) hE (rep_in 3 (by decide)) (by decide)
  ·exact Beg.line3 (One.two (W.ok e (.head _)).1) hE (fun x hx=>by have:=hw e (.head _) x hx;exact z641 this.1 this.2) (ht τ (.head _))
 ·rw [capT_big h] at ht
  rcases len01 hl hm with ⟨rfl,rfl⟩| ⟨e,τ,rfl,rfl⟩
  ·exact Beg.line45 h.2 (One.one (List.length_replicate)) hE (rep_in n (by decide)) (by decide)
  ·exact Beg.line45 h.2 (One.two (W.ok e (.head _)).1) hE (hw e (.head _)) (ht τ (.head _))
theorem Wk.first {E:List (List Int)}{n:Nat}(W:Wk E n)(h1:1<=n):∀τ∈E.map (fun e=>e.getD 0 0),-capT n<=τ/\τ<=capT n:=fun τ hτ=>by
 obtain ⟨e,he,rfl⟩:=List.mem_map.mp hτ
 have hm:e.getD 0 0∈e:=by
  have:=(W.ok e he).1
  rw [List.getD_eq_getElem?_getD,List.getElem?_eq_getElem (z643 h1 this)]
  exact List.getElem_mem _
 rcases W.shape with h| ⟨h,hw⟩| ⟨h,_,hw⟩| ⟨h,_,hw⟩
 ·rw [capT_small h];exact (W.ok e he).2 _ hm
 ·have:=hw e he _ hm;rw [h];exact z427 this.1 this.2
 ·have:=hw e he _ hm;rw [h];exact z641 this.1 this.2
 ·have:=hw e he _ hm;rw [capT_big h];exact z644 this.1 this.2
theorem zero_next {t:List Int}{k:Nat}(h:k<t.length):(List.replicate k 0++t.drop k).set k 0=List.replicate (k+1) 0++t.drop (k+1):=by
 rw [List.set_append_right _ _ (by simp),List.length_replicate,Nat.sub_self,List.drop_eq_getElem_cons h,List.replicate_succ',List.append_assoc];rfl
theorem one_row {n:Nat}(h:1<=n):(1:Int)::List.replicate (n-1) 0=unitR n 0:=by
 have:=unit_cat (n:=n) (p:=0) h
 simp at this
 exact this
theorem Sol.first {E:List (List Int)}{n:Nat}(hE:∀e∈E,e.length=n)(h1:1<=n):Sol E n (E.map fun e=>e.getD 0 0) (unitR n 0):=by
 refine ⟨Row.unit,(worths_eq (by exact (List.length_map ..).symm)).mp ?_⟩
 refine List.map_congr_left fun e he=> ?_
 exact dot_unit (hE e he) h1
noncomputable abbrev lwV (C:Addr)(n:Nat)(E:List (List Int))(t:List Int)(ha f:Addr)(out:List (List Int)):Vars:=[("_law_system_here",sy C n E),("_law_equations",rl E),("_law_size_here",.int n),("_law_wants_here",il t),("_law_handed",.ref ha),("_law_kept",.lst (out.map row)),("_law_first",.ref f)]
section
variable {c:Cx} {σ:Sto} {X:Addr->Sto->Prop} {Q:D->Sto->Prop} {K:Frag} {C:Addr}
theorem law_ {S:List Int}(T:Tp c B10 N10)(G:Gi c G10)(Sy:Ks c K C "System" Bd10)(hS:S.length<=63):WF c (Room 14) "law" [.lst (S.map .int)] [] (fun d _=>d=.bool true) X:=by
 refine WF.byG 43 (ps:=["_law_script"]) T G rfl rfl (bind1 fun _ _ _ _=>rfl) (by rfl) rfl fun A fr env g r hh hs fe=> ?_
 have m1:Mth K C "__init__":=Mth.byA 0 Sy rfl rfl
 have m2:Mth K C "begins":=Mth.byA 8 Sy rfl rfl
 have m3:Mth K C "joined":=Mth.byA 9 Sy rfl rfl
 have m4:Mth K C "least":=Mth.byA 5 Sy rfl rfl
 refine Sp.mk ?_
 refine WF.at (cell_at_ T hS (by decide) (by decide) ?_) (by decide)
 skip
 by_cases q5:S.getD (Int.toNat 0) 0/96 % 6=5
 ·refine brT (show (S.getD (Int.toNat 0) 0/96 % 6==5)=true by simpa using q5) ?_
  refine Sp.mk ?_
  refine WF.at (single_ T G Sy hS fun σ'=> ?_) (by decide)
  refine Sp.mk ?_
  rfl
 refine brF (show (S.getD (Int.toNat 0) 0/96 % 6==5)=false by simpa using q5) ?_
 refine Sp.mk ?_
 refine WF.at (size_ T hS ?_) (by decide)
 refine Sp.mk ?_
 refine WF.at (system_ T hS fun rows hrl hr=> ?_) (by decide)
 refine Sp.mk ?_
 have hn:=szS_ok S
 have hm:=manyS_ok S
 generalize szS S=n at hn hr⊢
 have hE0:∀e∈rows,e.length=n:=fun e he=>(hr e he).1
 have hw0:∀e∈rows,∀x∈e,-mostN n rows.length<=x/\x<=mostN n rows.length:=by rw [hrl];exact fun e he=>(hr e he).2
 have hm0:rows.length<=3:=z645 hrl hm
 clear hr
 refine WS.joinA rfl (fun m' σ'=>∃E,Wk E n/\σ'=[]/\Hs m' [("_law_equations",rl E),("_law_size_here",.int n),("_law_script",.lst (S.map .int))]) ?_ fun m' σ' ⟨E,W,e0,hv⟩=> ?_
 ·(with_reducible refine W1.goN (by assumption) ?_)
  by_cases q:3<n
  ·refine brT (decide_eq_true (show (3:Int)<n by exact z646 q)) ?_
   refine Sp.mk ?_;(with_reducible refine WE.sliceA (by with_unfolding_all rfl) ?_;refine WE.go (by assumption) ?_);refine Sp.mk ?_;(with_reducible refine WPt.none ?_;refine WPt.some ?_;refine WE.go (by assumption) ?_);refine Sp.mk ?_
   refine ⟨_,rfl,.lst _,rfl,rfl,trivial,by simp only [SD.ds,List.length_map,sizeLine];exact z647 hrl hm,.inl ?_⟩
   simp only [SD.ds]
   rw [show pick (rows.map il) none (some 1)=(rows.map il).take 1 from pick_upto (k:=1),<-List.map_take]
   have hl1:(rows.take 1).length<=1:=by rw [List.length_take];exact z648
   have hE1:∀e∈rows.take 1,e.length=n:=fun e he=>hE0 e (List.mem_of_mem_take he)
   have hw1:∀e∈rows.take 1,∀x∈e,-mostN n (rows.take 1).length<=x/\x<=mostN n (rows.take 1).length:=fun e he x hx=>by
    have h1:=hw0 e (List.mem_of_mem_take he) x hx
    have h2:=mostN_anti (n:=n) (m:=(rows.take 1).length) (m':=rows.length) (by rw [List.length_take];exact z649)
    exact z95 h1.1 h1.2 h2
   refine Sp.mk ?_
   exact ⟨rows.take 1,Wk.of hn.1 hn.2 (z471 hl1) hE1 hw1 fun _=>hl1,rfl,Hs.lit rfl⟩
  ·refine brF (decide_eq_false (show ¬(3:Int)<n by exact z650 q)) ?_
   refine Sp.mk ?_
   exact ⟨rows,Wk.of hn.1 hn.2 hm0 hE0 hw0 fun z=>absurd z q,rfl,Hs.lit rfl⟩
 subst e0
 clear hE0 hw0 hm0 hrl hm
 have hok:=W.ok
 have h3:=W.many
 have hE:∀e∈E,e.length=n:=fun e he=>(hok e he).1
 have hsm:∀r∈E,small r/\r.length<100:=fun x hx=>small_of (hok x hx) hn.2
 (with_reducible refine WS.base (by assumption) ?_;refine WS.goK (by assumption) ?_);refine Sp.mk ?_
 refine WF.at (wants_ T hS (fun x hx=>(hsm x hx).1) h3 hn.1 hn.2 fun t htl ht=> ?_) (by decide)
 refine Sp.mk ?_;(with_reducible refine WE.callCA (by with_unfolding_all rfl) (by assumption) (by assumption) (by assumption) (by with_unfolding_all exact kindOf_of (by assumption) (by rfl)) (by assumption) ?_ (by with_unfolding_all rfl) (by with_unfolding_all decide);refine WA.go (by assumption) ?_);refine Sp.mk ?_
 have hEl:E.length=t.length:=htl.symm
 have htc:∀τ∈t,-capT n<=τ/\τ<=capT n:=fun τ hτ=>by have:=ht τ hτ;have:=mwN_cap hn.1 hn.2;lia
 have cap:=capT_ok n
 have ht20:∀τ∈t,-20<=τ/\τ<=20:=fun τ hτ=>by have:=htc τ hτ;exact z594 this.1 cap.2 this.2
 have B:=W.beg hEl htc
 have ok1:okW E.length t:=⟨htl,ht20⟩
 clear ht
 skip
 refine WIv.seqA rfl (sd:=.lst _) il hh rfl trivial (Turns.map (fun w=>il w) (fun _ _=>loc1 rfl) trivial (by (simp only [SD.ds,List.length_map,List.length_range,List.length_zip,List.length_take,List.length_drop,List.length_append,List.length_replicate,List.length_cons,List.length_nil,sizeLine]<;>lia)) (fun w hw fr' cenv hc=> ?_) (.inl ?_))
 ·have g:=g.at (relab_of hc hs)
  have:=hE w hw
  (with_reducible refine WE.go (by assumption) ?_);refine Sp.mk ?_
  refine At1.list (sd:=.lst _) trivial (by (simp only [SD.ds,List.length_map,List.length_range,List.length_zip,List.length_take,List.length_drop,List.length_append,List.length_replicate,List.length_cons,List.length_nil,sizeLine]<;>lia)) (.inl ⟨rfl,rfl⟩)
 refine Sp.mk ?_
 intro dx hdx
 refine WM.at (new_ (sd:=.lst _) (ws:=lstW E) T G Sy rfl trivial lstW_d ⟨fun w hw=>⟨(lstW_ok hw).1,hok _ (lstW_ok (σ:=[]) hw).2⟩,by rw [lstW_len];exact h3⟩ hn.1 hn.2 ?_ dx) (by decide)
 refine Sp.mk ?_
 rw [lstW_2]
 skip
 refine At1.list (sd:=.lst _) trivial (by (simp only [SD.ds,List.length_map,List.length_range,List.length_zip,List.length_take,List.length_drop,List.length_append,List.length_replicate,List.length_cons,List.length_nil,sizeLine]<;>lia)) (.inr fun ha hha=> ?_)
 refine Sp.mk ?_;(with_reducible refine WE.mthA (by with_unfolding_all rfl) (by assumption) (by assumption) (by assumption) ?_ (by with_unfolding_all decide) (by with_unfolding_all decide) (by with_unfolding_all rfl) (by with_unfolding_all (intro _;rfl)) (by with_unfolding_all rfl) (by with_unfolding_all rfl);refine WE.go (by assumption) ?_);refine Sp.mk ?_;(with_reducible refine kMeth.mk ?_;refine WA.go (by assumption) ?_);refine Sp.mk ?_
 simp only [SD.ds]
 skip
 refine WM.at (begins_ (sd:=.ref ha _) T G Sy B hEl hok ⟨rfl,rfl,List.mem_cons_self⟩ ok1 h3 hn.1 hn.2 fun out L=>.inr fun f hf=> ?_) (by decide)
 refine Sp.mk ?_
 have few:=L.few
 have nfh:f≠ha:=fun z=>hf (by rw [z];exact List.mem_cons_self)
 have mf:(f,O.lst (out.map row))∈[(f,O.lst (out.map row)),(ha,.lst (t.map D.int))]:=List.mem_cons_self
 have mh:(ha,O.lst (t.map D.int))∈[(f,O.lst (out.map row)),(ha,.lst (t.map D.int))]:=List.mem_cons_of_mem _ List.mem_cons_self
 refine WS.checkA rfl ?_ ?_
 ·(with_reducible refine W1.goN (by assumption) ?_);refine Sp.mk ?_
  refine WB.neD r (.ref (n:=2) mh (.map fun _ _=>.int)) (.of (Py.ints (n:=1))) ?_
  skip
  rw [eqv_ints,decide_eq_true rfl]
  refine Sp.mk ?_
  refine WF.at (are_good_ T hEl hok h3 hn.1 hn.2 L mf ?_) (by decide)
  refine Sp.mk ?_
  exact ⟨rfl,rfl⟩
 refine WS.checkA rfl ?_ ?_
 ·(with_reducible refine W1.goN (by assumption) ?_);refine Sp.mk ?_
  refine WF.at (all_ T hEl hok ht20 h3 hn.1 hn.2 fun l hl hll=> ?_) (by decide)
  refine Sp.mk ?_
  refine WF.at (all_come_ T hEl hok h3 hn.1 hn.2 L mf hl hll ?_) (by decide)
  refine Sp.mk ?_
  exact ⟨rfl,rfl⟩
 (with_reducible refine WS.goK (by assumption) ?_);refine Sp.mk ?_
 refine At1.list (sd:=.ref f _) mf (by (simp only [SD.ds,List.length_map,List.length_range,List.length_zip,List.length_take,List.length_drop,List.length_append,List.length_replicate,List.length_cons,List.length_nil,sizeLine]<;>lia)) (.inl ?_)
 refine Sp.mk ?_
 simp only [SD.ds]
 skip
 refine At1.len (sd:=.ref ha _) mh (by (simp only [SD.ds,List.length_map]<;>lia)) ?_
 refine Sp.mk ?_
 rw [show ((SD.ref ha (t.map D.int)).ds.length:Int)=t.length by simp [SD.ds]]
 refine ⟨z653,z654 htl h3,?_⟩
 rw [Int.toNat_natCast]
 refine Loop.of (fun k m' σ'=>k<=t.length/\σ'=[(f,.lst (out.map row)),(ha,.lst ((List.replicate k 0++t.drop k).map D.int))]/\Hs m' (lwV C n E t ha f out))
  (fun _ _=>kinds1 (by with_unfolding_all exact Or.inl (kindOf_of (by assumption) (by rfl)))) ⟨Nat.zero_le _,by simp,Hs.lit rfl⟩ (fun _ _ _ _=>trivial) (fun k i m2 σ' hi hL fr'=> ?_) (fun m2 σ' hL=> ?_)
 ·obtain ⟨hk,rfl,hv⟩:=hL
  have hi':i=k/\k<t.length:=by
   obtain ⟨z1,z2⟩:=List.getElem?_eq_some_iff.mp hi
   simp at z1 z2
   exact z655 z1 z2
  obtain ⟨rfl,hkt⟩:=hi'
  (with_reducible refine WS.base (Hs.both (by assumption) _) ?_;refine WS.goN (by assumption) ?_);refine Sp.mk ?_
  refine W1.setL ?_ (by with_unfolding_all rfl)
  (with_reducible refine WE.go (by assumption) ?_);refine Sp.mk ?_;(with_reducible refine WE.go (by assumption) ?_);refine Sp.mk ?_;(with_reducible refine WE.go (by assumption) ?_);refine Sp.mk ?_
  refine ⟨ha,_,i,[_],[],rfl,rfl,rfl,by simp;exact z656 hkt,z657 htl h3 hk,?_⟩
  rw [show D.int 0=(D.int) 0 from rfl,<-List.map_set,zero_next hkt]
  (with_reducible refine WS.goK (by assumption) ?_);refine Sp.mk ?_
  exact ⟨hkt,rfl,Hs.lit rfl⟩
 obtain ⟨-,rfl,hv⟩:=hL
 refine WS.base hv ?_
 rw [List.length_range,List.drop_length,List.append_nil]
 have mf:(f,O.lst (out.map row))∈[(f,O.lst (out.map row)),(ha,.lst ((List.replicate t.length 0).map D.int))]:=List.mem_cons_self
 have mh:(ha,O.lst ((List.replicate t.length (0:Int)).map D.int))∈[(f,O.lst (out.map row)),(ha,.lst ((List.replicate t.length 0).map D.int))]:=List.mem_cons_of_mem _ List.mem_cons_self
 have hz0:E.length=(List.replicate t.length (0:Int)).length:=by rw [List.length_replicate,hEl]
 refine WS.checkA rfl ?_ ?_
 ·(with_reducible refine W1.goN (by assumption) ?_);refine Sp.mk ?_;(with_reducible refine WE.mthA (by with_unfolding_all rfl) (by assumption) (by assumption) (by assumption) ?_ (by with_unfolding_all decide) (by with_unfolding_all decide) (by with_unfolding_all rfl) (by with_unfolding_all (intro _;rfl)) (by with_unfolding_all rfl) (by with_unfolding_all rfl);refine WE.go (by assumption) ?_);refine Sp.mk ?_;(with_reducible refine kMeth.mk ?_;refine WA.go (by assumption) ?_);refine Sp.mk ?_
  refine WM.at (begins_ (sd:=.ref ha _) T G Sy (W.beg hz0 (rep_in _ cap.1)) hz0 hok ⟨rfl,rfl,mh⟩ ⟨hz0.symm,rep_in _ (by decide)⟩ h3 hn.1 hn.2 fun out2 L2=>.inl ?_) (by decide)
  refine Sp.mk ?_
  rw [L2.only fun x=>Min.nought hE fun τ hτ=>(List.mem_replicate.mp hτ).2]
  skip
  refine .inl ?_
  refine Sp.mk ?_
  refine WB.rep (z658 hn.2) (.inl ?_)
  refine Sp.mk ?_
  refine At1.tuple (sd:=.lst _) trivial (by (simp only [SD.ds,List.length_map,List.length_range,List.length_zip,List.length_take,List.length_drop,List.length_append,List.length_replicate,List.length_cons,List.length_nil,sizeLine]<;>lia)) ?_
  refine Sp.mk ?_
  simp only [SD.ds]
  skip
  refine .inl ?_
  refine Sp.mk ?_
  refine WB.neD r (.of (Py.lst (n:=3) PyAll.rows)) (.of (Py.lst (n:=3) (PyAll.rows (xs:=[List.replicate n 0])))) ?_
  skip
  rw [eqvRows1]
  refine Sp.mk ?_
  refine .inl ?_
  refine Sp.mk ?_
  refine At1.len (sd:=.lst _) trivial (by (simp only [SD.ds,List.length_map]<;>lia)) ?_
  refine Sp.mk ?_
  rw [show ((SD.lst (E.map il)).ds.length:Int)=t.length by simp [SD.ds,hEl]]
  refine WB.rep (z662 htl h3) (.inl ?_)
  refine Sp.mk ?_
  refine WB.neD r (.ref (n:=2) mh (.map fun _ _=>.int)) (.of (Py.ints (n:=1))) ?_
  skip
  rw [eqv_ints,decide_eq_true rfl]
  refine Sp.mk ?_
  exact ⟨rfl,rfl⟩
 refine WS.checkA rfl ?_ ?_
 ·(with_reducible refine W1.goN (by assumption) ?_);refine Sp.mk ?_
  refine At1.len (sd:=.lst _) trivial (by (simp only [SD.ds,List.length_map]<;>lia)) ?_
  skip
  rw [show ((SD.lst (E.map il)).ds.length:Int)=E.length by simp [SD.ds]]
  skip
  by_cases q:E.length<3
  ·refine brT (decide_eq_true (show (E.length:Int)<3 by exact z663 q)) ?_
   have hokz:okW n (List.replicate n 0):=⟨List.length_replicate,rep_in n (by decide)⟩
   have B2:=W.beg2 hEl (z664 q) htc
   have hl2:(E++[List.replicate n 0]).length=(t++[0]).length:=by rw [List.length_append,List.length_append,hEl];rfl
   have hm2:(E++[List.replicate n 0]).length<=3:=by rw [List.length_append,List.length_singleton];exact z665 q
   have ok2:okW (E++[List.replicate n 0]).length (t++[0]):=⟨hl2.symm,in_snoc ht20 (by decide)⟩
   refine Sp.mk ?_;(with_reducible refine WE.mthA (by with_unfolding_all rfl) (by assumption) (by assumption) (by assumption) ?_ (by with_unfolding_all decide) (by with_unfolding_all decide) (by with_unfolding_all rfl) (by with_unfolding_all (intro _;rfl)) (by with_unfolding_all rfl) (by with_unfolding_all rfl);refine WE.mthA (by with_unfolding_all rfl) (by assumption) (by assumption) (by assumption) ?_ (by with_unfolding_all decide) (by with_unfolding_all decide) (by with_unfolding_all rfl) (by with_unfolding_all (intro _;rfl)) (by with_unfolding_all rfl) (by with_unfolding_all rfl);refine WE.go (by assumption) ?_);refine Sp.mk ?_;(with_reducible refine kMeth.mk ?_;refine WA.go (by assumption) ?_);refine Sp.mk ?_
   refine .inl ?_
   refine Sp.mk ?_
   refine WB.rep (z658 hn.2) (.inl ?_)
   refine Sp.mk ?_
   refine WM.at (joined_ T G Sy hok (z664 q) hokz hn.1 hn.2 ?_) (by decide)
   (with_reducible refine kMeth.mk ?_;refine WA.go (by assumption) ?_);refine Sp.mk ?_
   refine .inl ?_
   refine Sp.mk ?_
   refine WB.addL (sd1:=.lst _) (sd2:=.lst _) rfl rfl trivial trivial (by simp only [SD.ds,List.length_map,List.length_cons,List.length_nil,sizeLine];exact z666 htl h3) (.inl ?_)
   refine Sp.mk ?_
   simp only [SD.ds]
   rw [show t.map D.int++[D.int 0]=(t++[0]).map D.int by rw [List.map_append];rfl]
   skip
   refine WM.at (begins_ (sd:=.lst _) T G Sy B2 hl2 (in_snoc hok hokz) ⟨rfl,rfl,trivial⟩ ok2 hm2 hn.1 hn.2 fun out2 L2=>.inl ?_) (by decide)
   refine Sp.mk ?_
   rw [L2.eq L fun x=>Min.more hE hEl]
   skip
   refine WB.neD r (.of (Py.lst (n:=3) PyAll.rows)) (.of (Py.lst (n:=3) PyAll.rows)) ?_
   skip
   rw [eqvRows1]
   refine Sp.mk ?_
   exact ⟨rfl,rfl⟩
  ·refine brF (decide_eq_false (show ¬(E.length:Int)<3 by exact z667 q)) ?_
   refine Sp.mk ?_
   exact ⟨rfl,rfl⟩
 (with_reducible refine WS.goK (by assumption) ?_);refine Sp.mk ?_
 refine WIv.seqA rfl (sd:=.lst _) il hh rfl trivial (Turns.map (fun w=>.int (w.getD 0 0)) (fun _ _=>loc1 rfl) trivial (by (simp only [SD.ds,List.length_map,List.length_range,List.length_zip,List.length_take,List.length_drop,List.length_append,List.length_replicate,List.length_cons,List.length_nil,sizeLine]<;>lia)) (fun w hw fr' cenv hc=> ?_) (.inl ?_))
 ·have g:=g.at (relab_of hc hs)
  have:=hE w hw
  (with_reducible refine WE.go (by assumption) ?_);refine Sp.mk ?_
  refine WSb.at (sd:=.lst _) (k:=0) rfl trivial (getD_row this (z668 hn.1)) (by decide) ?_
  refine Sp.mk ?_
  exact ⟨rfl,rfl⟩
 rw [show (E.map fun w=>D.int (w.getD 0 0))=(E.map fun w=>w.getD 0 0).map D.int by rw [List.map_map];rfl]
 have hf1:=W.first hn.1
 have sol1:=Sol.first hE hn.1
 have hel:E.length=(E.map fun w=>w.getD 0 0).length:=by rw [List.length_map]
 generalize (E.map fun w=>w.getD 0 0)=o at hf1 sol1 hel⊢
 refine Sp.mk ?_;(with_reducible refine WE.mthA (by with_unfolding_all rfl) (by assumption) (by assumption) (by assumption) ?_ (by with_unfolding_all decide) (by with_unfolding_all decide) (by with_unfolding_all rfl) (by with_unfolding_all (intro _;rfl)) (by with_unfolding_all rfl) (by with_unfolding_all rfl);refine WE.go (by assumption) ?_);refine Sp.mk ?_;(with_reducible refine kMeth.mk ?_;refine WA.go (by assumption) ?_);refine Sp.mk ?_
 refine WM.at (begins_ (sd:=.lst _) T G Sy (W.beg hel hf1) hel hok ⟨rfl,rfl,trivial⟩ ⟨hel.symm,fun τ hτ=>by have:=hf1 τ hτ;exact z594 this.1 cap.2 this.2⟩ h3 hn.1 hn.2 fun out2 L2=>.inr fun gl hgl=> ?_) (by decide)
 refine Sp.mk ?_
 have few2:=L2.few
 have mg:(gl,O.lst (out2.map row))∈[(gl,O.lst (out2.map row)),(f,O.lst (out.map row)),(ha,.lst ((List.replicate t.length 0).map D.int))]:=List.mem_cons_self
 have mf:(f,O.lst (out.map row))∈[(gl,O.lst (out2.map row)),(f,O.lst (out.map row)),(ha,.lst ((List.replicate t.length 0).map D.int))]:=List.mem_cons_of_mem _ List.mem_cons_self
 skip
 refine .inl ?_
 refine Sp.mk ?_
 refine .inl ?_
 refine Sp.mk ?_
 rw [show (n:Int)-1=((n-1:Nat):Int) by lia]
 refine WB.rep (z670 hn.2) (.inl ?_)
 refine Sp.mk ?_
 refine WB.addL (sd1:=.lst _) (sd2:=.lst _) rfl rfl trivial trivial (by simp only [SD.ds,List.length_map,List.length_cons,List.length_nil,List.length_replicate,sizeLine];exact z671 hn.2) (.inl ?_)
 refine Sp.mk ?_
 simp only [SD.ds]
 rw [show [D.int 1]++(List.replicate (n-1) 0).map D.int=(unitR n 0).map D.int by rw [<-one_row hn.1];rfl]
 skip
 refine At1.tupM (sd:=.lst _) (ds:=(unitR n 0).map D.int) rfl trivial (by simp only [List.length_map,unitR_len,sizeLine];exact z659 hn.2) ?_
 refine Sp.mk ?_
 refine WS.checkA rfl ?_ ?_
 ·(with_reducible refine W1.goN (by assumption) ?_);refine Sp.mk ?_
  refine WF.at (are_good_ T hel hok h3 hn.1 hn.2 L2 mg ?_) (by decide)
  refine Sp.mk ?_
  refine WIv.seqA rfl (sd:=.ref gl _) row hh rfl mg (Turns.of (fun o=>if inR o (unitR n 0)=true then some (row o) else none) (fun _ _=>loc1 rfl) mg (by simp only [sizeLine];exact z652 few2) (fun o ho fr' cenv hc=>WIfs.one ?_) (.inl ?_))
  ·have g:=g.at (relab_of hc hs)
   (with_reducible refine WT.go (by assumption) ?_);refine Sp.mk ?_
   refine WF.at (lawWithin_ T ?_) (by decide)
   refine Sp.mk ?_
   by_cases q:inR o (unitR n 0)=true
   ·rw [q]
    (with_reducible refine ite_t ?_;refine WE.go (by assumption) ?_);refine Sp.mk ?_
    exact ⟨rfl,by rw [if_pos rfl]⟩
   ·have q':inR o (unitR n 0)=false:=by simpa using q
    rw [q']
    (with_reducible refine ite_f ?_)
    exact ⟨rfl,by rw [if_neg (by decide)]⟩
  rw [inside_eq]
  obtain ⟨y,my,ly⟩:=sol1.below hE
  have hy:y∈out2.filter fun o=>inR o (unitR n 0):=List.mem_filter.mpr ⟨(L2.mem y).mpr my,((my.sol hE).row.inR sol1.row).mpr ly⟩
  generalize out2.filter (fun o=>inR o (unitR n 0))=ins' at hy⊢
  refine Sp.mk ?_
  refine .inl ?_
  refine Sp.mk ?_
  refine WB.eqD r (.of (Py.lst (n:=3) PyAll.rows)) (.of (Py.lst (n:=3) .nil)) ?_
  skip
  refine brF (show PyData.eqv (.list (ins'.map fun r=>.tuple (r.map .int))) (.list [])=false by cases hy<;>rfl) ?_
  refine Sp.mk ?_
  exact ⟨rfl,rfl⟩
 refine WS.checkA rfl ?_ ?_
 ·(with_reducible refine W1.goN (by assumption) ?_);refine Sp.mk ?_
  refine WB.neD r (.ref (n:=3) mf PyAll.rows) (.of (Py.lst (n:=3) PyAll.rows)) ?_
  skip
  rw [eqvRows1]
  refine Sp.mk ?_
  exact ⟨rfl,rfl⟩
 (with_reducible refine WS.goK (by assumption) ?_);refine Sp.mk ?_;(with_reducible refine WE.go (by assumption) ?_);refine Sp.mk ?_
 refine WE.methL F.slot_list_clear F.type_list_clear ?_ (hp:=by with_unfolding_all rfl) (hb:=by with_unfolding_all (intro _;rfl)) (hl:=by with_unfolding_all rfl) (hn:=by with_unfolding_all rfl)
 (with_reducible refine WE.go (by assumption) ?_);refine Sp.mk ?_
 refine ⟨.ref f _,rfl,rfl,mf,?_⟩
 (with_reducible refine WA.go (by assumption) ?_);refine Sp.mk ?_
 refine At1.clear (σ1:=[_]) (by (simp only [SD.ds,List.length_map,List.length_range,List.length_zip,List.length_take,List.length_drop,List.length_append,List.length_replicate,List.length_cons,List.length_nil,sizeLine]<;>lia)) ?_
 refine Sp.mk ?_;refine Sp.mk ?_;(with_reducible refine WE.go (by assumption) ?_);refine Sp.mk ?_
 simp only [List.cons_append,List.nil_append]
 skip
 refine WE.methL F.slot_list_clear F.type_list_clear ?_ (hp:=by with_unfolding_all rfl) (hb:=by with_unfolding_all (intro _;rfl)) (hl:=by with_unfolding_all rfl) (hn:=by with_unfolding_all rfl)
 (with_reducible refine WE.go (by assumption) ?_);refine Sp.mk ?_
 refine ⟨.ref gl _,rfl,rfl,List.mem_cons_self,?_⟩
 (with_reducible refine WA.go (by assumption) ?_);refine Sp.mk ?_
 refine At1.clear (σ1:=[]) (by (simp only [SD.ds,List.length_map,List.length_range,List.length_zip,List.length_take,List.length_drop,List.length_append,List.length_replicate,List.length_cons,List.length_nil,sizeLine]<;>lia)) ?_
 refine Sp.mk ?_;refine Sp.mk ?_;(with_reducible refine WE.callCA (by with_unfolding_all rfl) (by assumption) (by assumption) (by assumption) (by with_unfolding_all exact kindOf_of (by assumption) (by rfl)) (by assumption) ?_ (by with_unfolding_all rfl) (by with_unfolding_all decide);refine WA.go (by assumption) ?_);refine Sp.mk ?_
 simp only [List.cons_append,List.nil_append]
 have mg:(gl,O.lst [])∈[(gl,O.lst []),(f,O.lst []),(ha,.lst ((List.replicate t.length 0).map D.int))]:=List.mem_cons_self
 have mf:(f,O.lst [])∈[(gl,O.lst []),(f,O.lst []),(ha,.lst ((List.replicate t.length 0).map D.int))]:=List.mem_cons_of_mem _ List.mem_cons_self
 skip
 refine WIv.seqA rfl (sd:=.lst _) il hh rfl trivial (Turns.map (fun w=>il w) (fun _ _=>loc1 rfl) trivial (by (simp only [SD.ds,List.length_map,List.length_range,List.length_zip,List.length_take,List.length_drop,List.length_append,List.length_replicate,List.length_cons,List.length_nil,sizeLine]<;>lia)) (fun w hw fr' cenv hc=> ?_) (.inl ?_))
 ·have g:=g.at (relab_of hc hs)
  have:=hE w hw
  (with_reducible refine WE.go (by assumption) ?_);refine Sp.mk ?_
  refine At1.list (sd:=.lst _) trivial (by (simp only [SD.ds,List.length_map,List.length_range,List.length_zip,List.length_take,List.length_drop,List.length_append,List.length_replicate,List.length_cons,List.length_nil,sizeLine]<;>lia)) (.inl ⟨rfl,rfl⟩)
 refine Sp.mk ?_
 intro dx2 hdx2
 refine WM.at (new_ (sd:=.lst _) (ws:=lstW E) T G Sy rfl trivial lstW_d ⟨fun w hw=>⟨(lstW_ok hw).1,hok _ (lstW_ok (σ:=[]) hw).2⟩,by rw [lstW_len];exact h3⟩ hn.1 hn.2 ?_ dx2) (by decide)
 refine Sp.mk ?_;(with_reducible refine WE.mthA (by with_unfolding_all rfl) (by assumption) (by assumption) (by assumption) ?_ (by with_unfolding_all decide) (by with_unfolding_all decide) (by with_unfolding_all rfl) (by with_unfolding_all (intro _;rfl)) (by with_unfolding_all rfl) (by with_unfolding_all rfl);refine WE.go (by assumption) ?_);refine Sp.mk ?_;(with_reducible refine kMeth.mk ?_;refine WA.go (by assumption) ?_);refine Sp.mk ?_
 rw [lstW_2]
 skip
 refine At1.list (sd:=.lst _) trivial (by (simp only [SD.ds,List.length_map,List.length_range,List.length_zip,List.length_take,List.length_drop,List.length_append,List.length_replicate,List.length_cons,List.length_nil,sizeLine]<;>lia)) (.inl ?_)
 refine Sp.mk ?_
 simp only [SD.ds]
 skip
 refine WM.at (begins_ (sd:=.lst _) T G Sy B hEl hok ⟨rfl,rfl,trivial⟩ ok1 h3 hn.1 hn.2 fun out3 L3=>.inl ?_) (by decide)
 refine Sp.mk ?_
 rw [L3.eq L fun x=>Iff.rfl]
 skip
 refine WB.eqD r (.of (Py.lst (n:=3) PyAll.rows)) (.of (Py.lst (n:=3) PyAll.rows)) ?_
 skip
 rw [eqvRows1]
 refine Sp.mk ?_;(with_reducible refine WE.mthA (by with_unfolding_all rfl) (by assumption) (by assumption) (by assumption) ?_ (by with_unfolding_all decide) (by with_unfolding_all decide) (by with_unfolding_all rfl) (by with_unfolding_all (intro _;rfl)) (by with_unfolding_all rfl) (by with_unfolding_all rfl);refine WE.go (by assumption) ?_);refine Sp.mk ?_;(with_reducible refine kMeth.mk ?_;refine WA.go (by assumption) ?_);refine Sp.mk ?_
 refine WM.at (least_ T Sy W.fits hsm (z672 h3) (z633 hn.2) hn.1 fun o1 M1=>.inl ?_) (by decide)
 refine Sp.mk ?_;(with_reducible refine WE.mthA (by with_unfolding_all rfl) (by assumption) (by assumption) (by assumption) ?_ (by with_unfolding_all decide) (by with_unfolding_all decide) (by with_unfolding_all rfl) (by with_unfolding_all (intro _;rfl)) (by with_unfolding_all rfl) (by with_unfolding_all rfl);refine WE.go (by assumption) ?_);refine Sp.mk ?_;(with_reducible refine kMeth.mk ?_;refine WA.go (by assumption) ?_);refine Sp.mk ?_
 refine WM.at (least_ T Sy W.fits hsm (z672 h3) (z633 hn.2) hn.1 fun o2 M2=>.inl ?_) (by decide)
 refine Sp.mk ?_
 rw [M1.eq M2]
 refine WB.eqD r (.of (Py.lst (n:=3) PyAll.rows)) (.of (Py.lst (n:=3) PyAll.rows)) ?_
 skip
 rw [eqvRows1]
 refine Sp.mk ?_
 refine .inl ?_
 refine Sp.mk ?_
 refine WB.eqD r (.ref (n:=3) mf .nil) (.of (Py.lst (n:=3) .nil)) ?_
 refine Sp.mk ?_
 refine .inl ?_
 refine Sp.mk ?_
 refine WB.eqD r (.ref (n:=3) mg .nil) (.of (Py.lst (n:=3) .nil)) ?_
 refine Sp.mk ?_
 rfl
end
end Mine
open PySem PySem.W PyProof.Rows
set_option maxRecDepth 100000
set_option maxHeartbeats 8000000
theorem PySem.Challenge.cw_uf050013_10_holds : PySem.Challenge.rw_uf050013_10.Holds := by
 w_on
 refine holds_law Mine.said10 fun said=> ?_
 refine holds_open (q:=Mine.q10) (loose:=[]) (Xt:=fun s=>xlAt Mine.q10 [] s&&recOk (RowW.records PySem.Challenge.rw_uf050013_10.row.toRowW) s) (XP:=XL Mine.q10 []) (Yf:=Hook.obs Hook.none) (Ya:=Hook.val Hook.none) (YP:=Hook.says Hook.none) (N:=4732) Mine.left10 (Hook.of Hook.none) (Hook.keeps Hook.none) (fun s e=>xl_of s (Bool.and_eq_true_iff.mp e).1) XL.keeps (by rfl) (by rfl) (by rfl) (fun s e=>recFacts_of (Bool.and_eq_true_iff.mp e).2) (by rfl) (by assumption) (by decide+kernel) ⟨rfl,rfl,rfl,rfl,rfl,by decide+kernel⟩ ?hw ?hc
 (case hw=>w_witness2)
 intro w s₀ s₁ mg mb G Y fa o pm cd doc dV kV ho hd hcd hD hmg hg args vals as hpre hlay hrd hwl hlo
 refine Ground.open G ?_
 intro T B D TE TW
 clear ho hd hcd hD
 wrow_args hpre hlay hrd hwl hlo
 rename_i S hs1 hlay0 hL1 hr1 hl2 w4 w3 l vs as' hL ra w1 r0 hI hr hc1 hc2
 have Tm:Mine.Tp ⟨PySem.Challenge.rw_uf050013_10.row.prog,w,s₁.heap,mg,mb⟩ Mine.B10 Mine.N10:=Mine.Tp.ofTop T (by kernel_rfl) (by kernel_rfl) (by kernel_rfl)
 have Gm:Mine.Gi ⟨PySem.Challenge.rw_uf050013_10.row.prog,w,s₁.heap,mg,mb⟩ Mine.G10:=Mine.Gi.ofTop T (by kernel_rfl)
 obtain ⟨K,C,Sm⟩:=Mine.Ks.ofTop (c:=⟨PySem.Challenge.rw_uf050013_10.row.prog,w,s₁.heap,mg,mb⟩) (cn:=Str.ofString "System") (Bd:=Mine.Bd10) TE 0 (by kernel_rfl)
 have w2:Well w.params s₁.heap (.ref l) (.list (S.map WData.int)):=by
  have:=w1
  simp only [ofPy,Mine.ofPys_ints] at this
  exact this
 exact Mine.last (c:=⟨PySem.Challenge.rw_uf050013_10.row.prog,w,s₁.heap,mg,mb⟩) (Mine.law_ Tm Gm Sm (by omega)) (by decide) hmg (Mine.V.ofWell w2) rfl hg (Mine.post_ok _ _ _) (Mine.raises_ok _ _)
