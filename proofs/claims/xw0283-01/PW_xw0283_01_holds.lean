import PyProof.Rows.All
import Wide.All
import Wide.FinOn
import KE.KStateDown
import KE.KRevSl
import KE.BytesMake
import KE.KSliceW
import PySem.Challenge.RW_xw0283_01
/-
The statement is joined from these parts, each a text of its own in wip/ of the same repo (there with remarks and wider rows):
 1. `left`: the program's top, run by the kernel; what is needed of its heap is observed (obS, obFs).
 2. A small abstract machine: deep values DV, mutable objects MObj, relations Rep, Good; a compact syntax CE, CS; the compilers cE, cS from Expr, Stmt; a calculator of weakest preconditions wpE, wpSs.
 3. Its soundness over the model: one lemma for each construct, then `wp_sound`, then `spec_of` (a function's CallOk from its compiled body).
 4. The bodies c_NAME of the program's functions, compiled, and the facts Gd.k_NAME that tie them to the program's heap.
 5. The plain model of the law (P texts): items, rows, texts, `LawInv`.
 6. Specs sp_NAME of every function, each walked once in the small machine (S texts).
 7. The plain law: what the functions compute answers as the statement says, `law_inv` (P texts).
 8. `join` and the theorem.
Rows are told with few blanks, for the file's size alone.
-/
set_option Elab.async false
set_option maxRecDepth 100000
set_option tactic.hygienic false
set_option genSizeOf false
set_option genInjectivity false
set_option genCtorIdx false
set_option bootstrap.genMatcherCode false
set_option linter.all false
namespace Mine
@[elab_as_elim] theorem rwE{α:Sort u}{a b:α}{P:α->Prop}(h:a=b)(k:P b):P a:=h.symm▸k
end Mine
local macro_rules | `(tactic| omega) => `(tactic| first | lia | omega (config := {}))
local macro_rules | `(tactic| rw [$h:term]) => `(tactic| ((first | refine Mine.rwE $h ?_ | rewrite [$h:term]); rw []))
local macro_rules | `(tactic| rw [← $h:term]) => `(tactic| ((first | refine Mine.rwE (Eq.symm $h) ?_ | rewrite [← $h:term]); rw []))
local macro_rules | `(tactic| rw [$h, $hs,*]) => `(tactic| (rw [$h]; first | done | rw [$hs,*]))
noncomputable section
open PySem PySem.W PyProof.Rows
namespace Mine.Internal
section
section
variable {a b c d e f g i j k l m n:Nat}
theorem nLit(h:a<=b)(k:Nat.ble b c=true):a<=c:=Nat.le_trans h (Nat.le_of_ble_eq_true k)
theorem nLtl(h:a<b)(q:b<=c)(k:Nat.ble c (d+1)=true):a<=d:=Nat.le_of_lt_succ (Nat.lt_of_lt_of_le h (Nat.le_trans q (Nat.le_of_ble_eq_true k)))
theorem n1(h:a<=b):a<(b+1):=Nat.lt_succ_of_le h
theorem n2(h:a<=4):(a+1)<=5:=Nat.succ_le_succ h
theorem n3(h:b=a):a<=b:=Nat.le_of_eq (id (Eq.symm h))
theorem n4(h:a=1):0<a:=Nat.lt_of_sub_eq_succ h
theorem n5:0<=100000:=Nat.zero_le 100000
theorem n6:(((2 * a)+1) / 2)=a:=by omega
theorem n7(h:a=(b+2))(q:b<=800):a<=1000:=by omega
theorem n8(h:(a / 2)<b):(a / 2)<(b+1):=Nat.lt_add_right 1 h
theorem n9(h:b=(a+1)):a<b:=by omega
theorem n10(h:a<c)(q:b=(c+1)):a<b:=by omega
theorem n11(h:¬ (b<a)):a<=b:=Nat.le_of_not_lt h
theorem n12(h:a=2):0<a:=Nat.lt_of_sub_eq_succ h
theorem n13(h:a=2):1<a:=by omega
theorem n14(h:0<a):¬ (a=0):=Nat.ne_zero_of_lt h
theorem n15(h:b=(a+2)):(a+1)<b:=by omega
theorem n16(h:b=(a+2)):a<b:=by omega
theorem n17(h:a<=4):(a+1)<=100000:=by omega
theorem n18(h:a<a):False:=by omega
theorem n19(h:a=(b+1)):0<a:=Nat.lt_of_sub_eq_succ h
theorem n20(h:a<(b+1)):a<=b:=Nat.le_of_lt_succ h
theorem n21(h:a=b)(q:a<=2):a<=100000:=by omega
theorem n22(h:b=(a+1)):a<=b:=Nat.le.intro (id (Eq.symm h))
theorem n23(h:b=(c+1))(q:(0<a)/\(a<c)):(0<a)/\(a<b):=by omega
theorem n24:(((a+1) * 2) / 2)=(a+1):=by omega
theorem n25(h:a=b)(q:b<=1000):a<=100000:=by omega
theorem n26(h:d<b)(q:b<=a)(r:(a-d)<=c):(a-b)<c:=by omega
theorem n27{b:Prop}(h:c<d)(q:d<=c):(a≠4)/\b:=by omega
theorem n28:(2 * a)=(a * 2):=Nat.mul_comm 2 a
theorem n29(h:¬ (b<=a)):a<=b:=Nat.le_of_not_ge h
theorem n30(h:a<(c+1))(q:b=5)(r:c<=4):a<b:=by omega
theorem n31(h:a<(b+1))(q:b<=a):a<(b+1):=Nat.lt_of_succ_le h
theorem n32(h:a<=800):a<=800:=by omega
theorem n33:(((a * 2)+1) / 2)=a:=by omega
theorem n34:((a * 2) / 2)=a:=by omega
theorem n35(h:a<b):a<(b+1):=Nat.lt_add_right 1 h
theorem n36:(((2 * a)+1) % 2)=1:=by omega
theorem n37(h:a<c)(q:c<=b):a<b:=Nat.lt_of_lt_of_le h q
theorem n38:a<=(a+b):=Nat.le_add_right a b
theorem n39(h:(a-b)≠0):1<=(a-b):=Nat.one_le_iff_ne_zero.mpr h
theorem n40:(((a:Nat):Int)=(0:Int))↔(a=0):=Int.ofNat_eq_zero
theorem n41:(((a:Nat):Int)=(((b * 2):Nat):Int))↔(a=(b * 2)):=Int.ofNat_inj
theorem n42:4<=100000:=Nat.le_of_ble_eq_true rfl
theorem n43(h:a=(b+1))(q:b<=60):a<=1000:=by omega
theorem n44(h:(((a:Nat):Int)-(1:Int))=(((a-1):Nat):Int))(q:a<=1000):(a-1)<=100000:=by omega
theorem n45:0<=16777216:=Nat.zero_le 16777216
theorem n46(h:¬ (b<=a)):(a+1)<=b:=by omega
theorem n47(h:((2 * a) / 2)<a):False:=by omega
theorem n48(h:(((2 * a)+1) / 2)<a):False:=by omega
theorem n49(h:0<a)(q:b=(a+1)):(0<a)/\(a<b):=by omega
theorem n50(h:a<c)(q:c=(b+1))(r:b<=a):a=b:=by omega
theorem n51(h:(a / 2)=b)(q:(a % 2)≠1):a=(2 * b):=by omega
theorem n52(h:(a+64)<b):a<b:=Nat.lt_of_add_right_lt h
theorem n53(h:a=(b+c))(q:b<=800)(r:c<=2):a<=1000:=by omega
theorem n54(h:((a+(2 * (b+1)))+4)<=c):(((a+1)+(2 * b))+4)<=c:=by omega
theorem n55{a:Prop}(h:b<(c+1))(q:(c+2)<=b):a:=by omega
theorem n56(h:a<=800):(a+1)<=100000:=by omega
theorem n57(h:¬ (b<a))(q:¬ (b=a)):a<=b:=Nat.le_of_not_lt h
theorem n58:((((a+1):Nat):Int)-(1:Int))=((a:Nat):Int):=Int.sub_eq_iff_eq_add.mpr rfl
theorem n59(h:(((a:Nat):Int) % (2:Int))=(0:Int)):(a % 2)=0:=Int.ofNat_eq_zero.mp h
theorem n60(h:¬ ((((a:Nat):Int) % (2:Int))=(0:Int))):¬ ((a % 2)=0):=Int.ofNat_ne_zero.mp h
theorem n61{c:Prop}(h:(a / 2)<e)(q:e<=(a / 2)):(((a % 2)=1)->(b=0))->(c\/(d<e)):=by omega
theorem n62(h:0<a)(q:(0 / 2)=a):False:=by omega
theorem n63:((2 * a) / 2)=a:=by omega
theorem n64{b:Prop}(h:c<d)(q:d=e)(r:e<=c):(a≠4)/\b:=by omega
theorem n65{c:Prop}(h:(a / 2)<e)(q:e=f)(r:f<=(a / 2)):(((a % 2)=1)->(b=0))->(c\/(d<e)):=by omega
theorem n66(h:(a+(b+1))<=1000):a<=100000:=by omega
theorem n67(h:(a+(b+1))<=1000):((a+1)+b)<=1000:=by omega
theorem n68(h:b=5)(q:a<=c)(r:c<=4):a<b:=by omega
theorem n69(h:b=(a+1))(q:(c / 2)=a):a<=b:=Nat.le.intro (id (Eq.symm h))
theorem n70:¬ ((2 * a)=((a+1) * 2)):=by omega
theorem n71:(2 * (a+1))=((a+1) * 2):=Nat.mul_comm 2 (a+1)
theorem n72(h:(((a:Nat):Int)=((b:Nat):Int))/\(((c:Nat):Int)=((d:Nat):Int))):(a=b)/\(c=d):=by omega
theorem n73(h:¬ (((a:Nat):Int)=((b:Nat):Int))):¬ (a=b):=Ne.intro λa=>h (congrArg Nat.cast a)
theorem n74(h:a<b)(q:c<b):(a<b)/\(c<b):=⟨h,q⟩
theorem n75(h:¬ ((a / 2)=(b / 2))):a≠b:=Ne.intro λa=>h (congrFun (congrArg HDiv.hDiv a) 2)
end
theorem e02{G:Prop}(k:A->B->G)(h:A/\B):G:=k h.1 h.2
theorem e03{G:Prop}(k:A->B->C->G)(h:A/\B/\C):G:=k h.1 h.2.1 h.2.2
theorem e04{A B C D:Prop}{G:Prop}(k:A->B->C->D->G)(h:A/\B/\C/\D):G:=k h.1 h.2.1 h.2.2.1 h.2.2.2
theorem e05{G:Prop}(k:A->B->C->D->E->G)(h:A/\B/\C/\D/\E):G:=k h.1 h.2.1 h.2.2.1 h.2.2.2.1 h.2.2.2.2
theorem e06{A B C D E F:Prop}{G:Prop}(k:A->B->C->D->E->F->G)(h:A/\B/\C/\D/\E/\F):G:=k h.1 h.2.1 h.2.2.1 h.2.2.2.1 h.2.2.2.2.1 h.2.2.2.2.2
theorem e11{α0:Type}{A:α0->Prop}{G:Prop}(k:∀ x0,A x0->G)(h:∃ x0,A x0):G:=h.elim λx0 h=>k x0 h
theorem e12{α0:Type}{A B:α0->Prop}{G:Prop}(k:∀ x0,A x0->B x0->G)(h:∃ x0,A x0/\B x0):G:=h.elim λx0 h=>k x0 h.1 h.2
theorem e13{A B C:α0->Prop}{G:Prop}(k:∀ x0,A x0->B x0->C x0->G)(h:∃ x0,A x0/\B x0/\C x0):G:=h.elim λx0 h=>k x0 h.1 h.2.1 h.2.2
theorem e14{α0:Type}{A B C D:α0->Prop}{G:Prop}(k:∀ x0,A x0->B x0->C x0->D x0->G)(h:∃ x0,A x0/\B x0/\C x0/\D x0):G:=h.elim λx0 h=>k x0 h.1 h.2.1 h.2.2.1 h.2.2.2
theorem e16{α0:Type}{A B C D E F:α0->Prop}{G:Prop}(k:∀ x0,A x0->B x0->C x0->D x0->E x0->F x0->G)(h:∃ x0,A x0/\B x0/\C x0/\D x0/\E x0/\F x0):G:=h.elim λx0 h=>k x0 h.1 h.2.1 h.2.2.1 h.2.2.2.1 h.2.2.2.2.1 h.2.2.2.2.2
theorem e21{α0 α1:Type}{A:α0->α1->Prop}{G:Prop}(k:∀ x0 x1,A x0 x1->G)(h:∃ x0,∃ x1,A x0 x1):G:=h.elim λx0 h=>h.elim λx1 h=>k x0 x1 h
theorem e22{α0 α1:Type}{A B:α0->α1->Prop}{G:Prop}(k:∀ x0 x1,A x0 x1->B x0 x1->G)(h:∃ x0,∃ x1,A x0 x1/\B x0 x1):G:=h.elim λx0 h=>h.elim λx1 h=>k x0 x1 h.1 h.2
theorem e23{α0 α1:Type}{A B C:α0->α1->Prop}{G:Prop}(k:∀ x0 x1,A x0 x1->B x0 x1->C x0 x1->G)(h:∃ x0,∃ x1,A x0 x1/\B x0 x1/\C x0 x1):G:=h.elim λx0 h=>h.elim λx1 h=>k x0 x1 h.1 h.2.1 h.2.2
theorem e24{α0 α1:Type}{A B C D:α0->α1->Prop}{G:Prop}(k:∀ x0 x1,A x0 x1->B x0 x1->C x0 x1->D x0 x1->G)(h:∃ x0,∃ x1,A x0 x1/\B x0 x1/\C x0 x1/\D x0 x1):G:=h.elim λx0 h=>h.elim λx1 h=>k x0 x1 h.1 h.2.1 h.2.2.1 h.2.2.2
theorem e32{α0 α1 α2:Type}{A B:α0->α1->α2->Prop}{G:Prop}(k:∀ x0 x1 x2,A x0 x1 x2->B x0 x1 x2->G)(h:∃ x0,∃ x1,∃ x2,A x0 x1 x2/\B x0 x1 x2):G:=h.elim λx0 h=>h.elim λx1 h=>h.elim λx2 h=>k x0 x1 x2 h.1 h.2
theorem e33{A B C:α0->α1->α2->Prop}{G:Prop}(k:∀ x0 x1 x2,A x0 x1 x2->B x0 x1 x2->C x0 x1 x2->G)(h:∃ x0,∃ x1,∃ x2,A x0 x1 x2/\B x0 x1 x2/\C x0 x1 x2):G:=h.elim λx0 h=>h.elim λx1 h=>h.elim λx2 h=>k x0 x1 x2 h.1 h.2.1 h.2.2
theorem e34{α0 α1 α2:Type}{A B C D:α0->α1->α2->Prop}{G:Prop}(k:∀ x0 x1 x2,A x0 x1 x2->B x0 x1 x2->C x0 x1 x2->D x0 x1 x2->G)(h:∃ x0,∃ x1,∃ x2,A x0 x1 x2/\B x0 x1 x2/\C x0 x1 x2/\D x0 x1 x2):G:=h.elim λx0 h=>h.elim λx1 h=>h.elim λx2 h=>k x0 x1 x2 h.1 h.2.1 h.2.2.1 h.2.2.2
theorem e35{α0 α1 α2:Type}{A B C D E:α0->α1->α2->Prop}{G:Prop}(k:∀ x0 x1 x2,A x0 x1 x2->B x0 x1 x2->C x0 x1 x2->D x0 x1 x2->E x0 x1 x2->G)(h:∃ x0,∃ x1,∃ x2,A x0 x1 x2/\B x0 x1 x2/\C x0 x1 x2/\D x0 x1 x2/\E x0 x1 x2):G:=h.elim λx0 h=>h.elim λx1 h=>h.elim λx2 h=>k x0 x1 x2 h.1 h.2.1 h.2.2.1 h.2.2.2.1 h.2.2.2.2
theorem e36{α0 α1 α2:Type}{A B C D E F:α0->α1->α2->Prop}{G:Prop}(k:∀ x0 x1 x2,A x0 x1 x2->B x0 x1 x2->C x0 x1 x2->D x0 x1 x2->E x0 x1 x2->F x0 x1 x2->G)(h:∃ x0,∃ x1,∃ x2,A x0 x1 x2/\B x0 x1 x2/\C x0 x1 x2/\D x0 x1 x2/\E x0 x1 x2/\F x0 x1 x2):G:=h.elim λx0 h=>h.elim λx1 h=>h.elim λx2 h=>k x0 x1 x2 h.1 h.2.1 h.2.2.1 h.2.2.2.1 h.2.2.2.2.1 h.2.2.2.2.2
theorem e41{α0 α1 α2 α3:Type}{A:α0->α1->α2->α3->Prop}{G:Prop}(k:∀ x0 x1 x2 x3,A x0 x1 x2 x3->G)(h:∃ x0,∃ x1,∃ x2,∃ x3,A x0 x1 x2 x3):G:=h.elim λx0 h=>h.elim λx1 h=>h.elim λx2 h=>h.elim λx3 h=>k x0 x1 x2 x3 h
theorem e43{α0 α1 α2 α3:Type}{A B C:α0->α1->α2->α3->Prop}{G:Prop}(k:∀ x0 x1 x2 x3,A x0 x1 x2 x3->B x0 x1 x2 x3->C x0 x1 x2 x3->G)(h:∃ x0,∃ x1,∃ x2,∃ x3,A x0 x1 x2 x3/\B x0 x1 x2 x3/\C x0 x1 x2 x3):G:=h.elim λx0 h=>h.elim λx1 h=>h.elim λx2 h=>h.elim λx3 h=>k x0 x1 x2 x3 h.1 h.2.1 h.2.2
theorem e44{α0 α1 α2 α3:Type}{A B C D:α0->α1->α2->α3->Prop}{G:Prop}(k:∀ x0 x1 x2 x3,A x0 x1 x2 x3->B x0 x1 x2 x3->C x0 x1 x2 x3->D x0 x1 x2 x3->G)(h:∃ x0,∃ x1,∃ x2,∃ x3,A x0 x1 x2 x3/\B x0 x1 x2 x3/\C x0 x1 x2 x3/\D x0 x1 x2 x3):G:=h.elim λx0 h=>h.elim λx1 h=>h.elim λx2 h=>h.elim λx3 h=>k x0 x1 x2 x3 h.1 h.2.1 h.2.2.1 h.2.2.2
theorem e45{α0 α1 α2 α3:Type}{A B C D E:α0->α1->α2->α3->Prop}{G:Prop}(k:∀ x0 x1 x2 x3,A x0 x1 x2 x3->B x0 x1 x2 x3->C x0 x1 x2 x3->D x0 x1 x2 x3->E x0 x1 x2 x3->G)(h:∃ x0,∃ x1,∃ x2,∃ x3,A x0 x1 x2 x3/\B x0 x1 x2 x3/\C x0 x1 x2 x3/\D x0 x1 x2 x3/\E x0 x1 x2 x3):G:=h.elim λx0 h=>h.elim λx1 h=>h.elim λx2 h=>h.elim λx3 h=>k x0 x1 x2 x3 h.1 h.2.1 h.2.2.1 h.2.2.2.1 h.2.2.2.2
theorem e37{α0 α1 α2:Type}{A B C D E F Z:α0->α1->α2->Prop}{G:Prop}(k:∀ x0 x1 x2,A x0 x1 x2->B x0 x1 x2->C x0 x1 x2->D x0 x1 x2->E x0 x1 x2->F x0 x1 x2->Z x0 x1 x2->G)(h:∃ x0,∃ x1,∃ x2,A x0 x1 x2/\B x0 x1 x2/\C x0 x1 x2/\D x0 x1 x2/\E x0 x1 x2/\F x0 x1 x2/\Z x0 x1 x2):G:=h.elim λx0 h=>h.elim λx1 h=>h.elim λx2 h=>k x0 x1 x2 h.1 h.2.1 h.2.2.1 h.2.2.2.1 h.2.2.2.2.1 h.2.2.2.2.2.1 h.2.2.2.2.2.2
theorem e31{A:α0->α1->α2->Prop}{G:Prop}(k:∀ x0 x1 x2,A x0 x1 x2->G)(h:∃ x0,∃ x1,∃ x2,A x0 x1 x2):G:=h.elim λx0 h=>h.elim λx1 h=>h.elim λx2 h=>k x0 x1 x2 h
theorem by_g(h:¬P->False):P:=Classical.byContradiction h
noncomputable def okL:List Nat->Bool
 |[]=>true
 |c::r=>Nat.ble c 127&&okL r
def okc(s:Str):Bool:=okL s.cps.toList
noncomputable def encL:List Nat->Nat
 |[]=>0
 |c::r=>encL r * 129+(c+1)
def enc(s:Str):Nat:=encL s.cps.toList
theorem zQ6:∀{a b:List Nat},okL a=true->okL b=true->encL a=encL b->a=b
 |[],[],_,_,_=>rfl
 |[],c::r,_,_,h=>by simp only[encL]at h;omega
 |c::r,[],_,_,h=>by simp only[encL]at h;omega
 |c::r,d::t,ha,hb,h=>by
  simp only[okL,Bool.and_eq_true,Nat.ble_eq]at ha hb
  simp only[encL]at h
  have h1:c=d:=by omega
  have h2:encL r=encL t:=by omega
  rw[h1,zQ6 ha.2 hb.2 h2]
theorem zBz(hs:okc s=true)(ht:okc t=true)(h:enc s=enc t):s=t:=by
 cases s;cases t
 have:=zQ6 hs ht h
 simp only[Str.mk.injEq]
 exact Array.toList_inj.mp this
set_option genCtorIdx true in
inductive Bi where
 |len|range|zip|tuple|sorted|min|int|bytes
 deriving DecidableEq
noncomputable def Bi.val:Bi->Value
 |.len=>.builtin "len"|.range=>.type "range"|.zip=>.type "zip"|.tuple=>.type "tuple"|.sorted=>.builtin "sorted"|.min=>.builtin "min"|.int=>.type "int"|.bytes=>.type "bytes"
inductive DV where
 |none
 |bool (b:Bool)
 |int (i:Int)
 |str (n:Nat)
 |bytes (b:Array UInt8)
 |rng (a b c:Int)
 |tup (l:List DV)
 |lst (l:List DV)
 |inst (C:Addr) (ns:List Nat) (vs:List DV)
 |ref (a:Addr)
 |fn (a:Addr)
 |cls (C:Addr)
 |bi (b:Bi)
noncomputable def DV.ctorIdx(d:DV):Nat:=@DV.casesOn (λU=>Nat) d 0 (λU=>1) (λU=>2) (λU=>3) (λU=>4) (λU U U=>5) (λU=>6) (λU=>7) (λU U U=>8) (λU=>9) (λU=>10) (λU=>11) (λU=>12)
abbrev Hp:=Addr->Option Obj
mutual
inductive Rep(g:Hp):DV->Value->Prop
 |none:Rep g .none Value.none
 |bool (b:Bool):Rep g (.bool b) (Value.bool b)
 |int (i:Int) (t:Tok):Rep g (.int i) (Value.int i t)
 |str (s:Str) (t:Tok) (h:okc s=true):Rep g (.str (enc s)) (Value.str s t)
 |bytes (b:Array UInt8) (t:Tok):Rep g (.bytes b) (Value.bytes b t)
 |rng {a:Addr} {x y z:Int} {t u v:Tok} (h:g a=some {cls:=.type "range",dict:=none,data:=.fields #[.int x t,.int y u,.int z v],slots:=#[]}):Rep g (.rng x y z) (.ref a)
 |tup {a:Addr} {o:Obj} {n:Nat} {ds:List DV} {vs:List Value} (h:g a=some o) (hc:o.cls=.type "tuple") (hd:o.data=.seq vs.toArray n) (r:RepL g ds vs):Rep g (.tup ds) (.ref a)
 |lst {a:Addr} {n:Nat} {ds:List DV} {vs:List Value} (h:g a=some (listOf vs.toArray n)) (r:RepL g ds vs):Rep g (.lst ds) (.ref a)
 |inst {a C dx:Addr} {sl:Array (Option Value)} {es:List DictEntry} {n:Nat} {ns:List Nat} {ds:List DV} (h:g a=some ⟨.ref C,some dx,.plain,sl⟩) (hd:g dx=some (dictOf es n)) (r:RepE g ns ds es):Rep g (.inst C ns ds) (.ref a)
 |ref (a:Addr):Rep g (.ref a) (Value.ref a)
 |fn (a:Addr):Rep g (.fn a) (Value.ref a)
 |cls (a:Addr):Rep g (.cls a) (Value.ref a)
 |bi (b:Bi):Rep g (.bi b) b.val
inductive RepL(g:Hp):List DV->List Value->Prop
 |nil:RepL g [] []
 |cons {d:DV} {v:Value} {ds:List DV} {vs:List Value} (h:Rep g d v) (r:RepL g ds vs):RepL g (d::ds) (v::vs)
inductive RepE(g:Hp):List Nat->List DV->List DictEntry->Prop
 |nil:RepE g [] [] []
 |cons {d:DV} {v:Value} {x:Str} {t:Tok} {hs:Int} {ns:List Nat} {ds:List DV} {es:List DictEntry} (ok:okc x=true) (h:Rep g d v) (r:RepE g ns ds es) :
   RepE g (enc x::ns) (d::ds) (⟨hs,.str x t,v⟩::es)
end
def Ext(g g':Hp):Prop:=∀ b o,g b=some o->g' b=some o
theorem Ext.rfl:Ext g g:=λU U h=>h
theorem Ext.trans(a:Ext g g')(b:Ext g' g''):Ext g g'':=λU U h=>b _ _ (a _ _ h)
theorem Rep.mono(e:Ext g g')(h:Rep g d v):Rep g' d v:=
 Rep.rec (motive_1:=λd v U=>Rep g' d v) (motive_2:=λds vs U=>RepL g' ds vs) (motive_3:=λns ds es U=>RepE g' ns ds es)
  .none .bool .int (λs t h=>.str s t h) .bytes (λh=>.rng (e _ _ h)) (λh hc hd U r=>.tup (e _ _ h) hc hd r) (λh U r=>.lst (e _ _ h) r) (λh hd U r=>.inst (e _ _ h) (e _ _ hd) r) .ref .fn .cls .bi
  .nil (λU U a b=>.cons a b) .nil (λok U U a b=>.cons ok a b) h
theorem RepL.ind{g:Hp}{P:List DV->List Value->Prop}(h0:P [] [])(h1:∀{d v ds vs},Rep g d v->RepL g ds vs->P ds vs->P (d::ds) (v::vs)){ds:List DV}{vs:List Value}(h:RepL g ds vs):P ds vs:=
 RepL.rec (motive_1:=λU U U=>True) (motive_2:=λds vs U=>P ds vs) (motive_3:=λU U U U=>True)
  trivial (λU=>trivial) (λU U=>trivial) (λU U U=>trivial) (λU U=>trivial) (λU=>trivial) (λU U U U U=>trivial) (λU U U=>trivial) (λU U U U=>trivial) (λU=>trivial) (λU=>trivial) (λU=>trivial) (λU=>trivial)
  h0 (λa b U p=>h1 a b p) trivial (λU U U U U=>trivial) h
theorem RepE.ind{P:List Nat->List DV->List DictEntry->Prop}(h0:P [] [] [])(h1:∀{d:DV} {v:Value} {x:Str} {t:Tok} {hs:Int} {ns:List Nat} {ds:List DV} {es:List DictEntry},okc x=true->Rep g d v->RepE g ns ds es->P ns ds es->P (enc x::ns) (d::ds) (⟨hs,.str x t,v⟩::es)){ns:List Nat}{es:List DictEntry}(h:RepE g ns ds es):P ns ds es:=
 RepE.rec (motive_1:=λU U U=>True) (motive_2:=λU U U=>True) (motive_3:=λns ds es U=>P ns ds es)
  trivial (λU=>trivial) (λU U=>trivial) (λU U U=>trivial) (λU U=>trivial) (λU=>trivial) (λU U U U U=>trivial) (λU U U=>trivial) (λU U U U=>trivial) (λU=>trivial) (λU=>trivial) (λU=>trivial) (λU=>trivial)
  trivial (λU U U U=>trivial) h0 (λok a b U p=>h1 ok a b p) h
theorem RepL.mono{g g':Hp}(e:Ext g g'){ds:List DV}{vs:List Value}(h:RepL g ds vs):RepL g' ds vs:=h.ind .nil λa U p=>.cons (a.mono e) p
theorem RepE.mono{g g':Hp}(e:Ext g g'){ns:List Nat}(h:RepE g ns ds es):RepE g' ns ds es:=h.ind .nil λok a U p=>.cons ok (a.mono e) p
theorem RepL.length{g:Hp}{ds:List DV}{vs:List Value}(h:RepL g ds vs):ds.length=vs.length:=h.ind (P:=λds vs=>ds.length=vs.length) rfl λU U p=>congrArg (·+1) p
theorem RepL.append{g:Hp}{ds ds':List DV}{vs vs':List Value}(h:RepL g ds vs)(k:RepL g ds' vs'):RepL g (ds++ds') (vs++vs'):=h.ind (P:=λds vs=>RepL g (ds++ds') (vs++vs')) k λa U p=>.cons a p
theorem RepL.get{g:Hp}{ds:List DV}{vs:List Value}(h:RepL g ds vs):∀{i:Nat} {d:DV},ds[i]?=some d->∃ v,vs[i]?=some v/\Rep g d v:=
 h.ind (P:=λds vs=>∀{i:Nat} {d:DV},ds[i]?=some d->∃ v,vs[i]?=some v/\Rep g d v) (λh=>by cases h) λ{_ v _ _} a _ p {i d} e=>by
  cases i with
  |zero=>cases e;exact⟨v,rfl,a⟩
  |succ i=>exact p e
theorem RepL.drop{g:Hp}(n:Nat){ds:List DV}{vs:List Value}(h:RepL g ds vs):RepL g (ds.drop n) (vs.drop n):=
 h.ind (P:=λds vs=>∀ n,RepL g (ds.drop n) (vs.drop n)) (λn=>by rw[List.drop_nil,List.drop_nil];exact .nil) (λa b p n=>by cases n with|zero=>exact .cons a b|succ n=>exact p n) n
theorem RepL.take{g:Hp}(n:Nat){ds:List DV}{vs:List Value}(h:RepL g ds vs):RepL g (ds.take n) (vs.take n):=
 h.ind (P:=λds vs=>∀ n,RepL g (ds.take n) (vs.take n)) (λn=>by rw[List.take_nil,List.take_nil];exact .nil) (λa b p n=>by cases n with|zero=>exact .nil|succ n=>exact .cons a (p n)) n
theorem RepL.reverse{g:Hp}{ds:List DV}{vs:List Value}(h:RepL g ds vs):RepL g ds.reverse vs.reverse:=
 h.ind (P:=λds vs=>RepL g ds.reverse vs.reverse) .nil λa U p=>by rw[List.reverse_cons,List.reverse_cons];exact p.append (.cons a .nil)
theorem RepL.set{g:Hp}{ds:List DV}{vs:List Value}(h:RepL g ds vs):∀(i:Nat) {d:DV} {v:Value},Rep g d v->RepL g (ds.set i d) (vs.set i v):=
 h.ind (P:=λds vs=>∀(i:Nat) {d:DV} {v:Value},Rep g d v->RepL g (ds.set i d) (vs.set i v)) (λU U U U=>.nil) λa b p i U U k=>by
  cases i with
  |zero=>exact .cons k b
  |succ i=>exact .cons a (p i k)
noncomputable def fld(ns:List Nat)(ds:List DV)(m:Nat):Option DV:=match ns with
 |[]=>none
 |n::ns=>(match ds with
  |[]=>none
  |d::ds=>if Nat.beq n m then some d else fld ns ds m)
noncomputable def fput(ns:List Nat)(ds:List DV)(m:Nat)(v:DV):List Nat×List DV:=match ns with
 |[]=>([m],[v])
 |n::ns=>(match ds with
  |[]=>([m],[v])
  |d::ds=>if Nat.beq n m then(n::ns,v::ds)else(n::(fput ns ds m v).1,d::(fput ns ds m v).2))
inductive F2{α β:Type}(R:α->β->Prop):List α->List β->Prop
 |nil:F2 R [] []
 |cons {a:α} {b:β} {l:List α} {m:List β} (h:R a b) (r:F2 R l m):F2 R (a::l) (b::m)
inductive MObj where
 |lst (l:List DV)
 |dE
 |dI (ks:List Int)
 |dT (ks:List (List Int))
 |dS (kv:List (Nat×DV))
 |inst (C dx:Addr)
 |attrs (ns:List Nat) (vs:List DV)
noncomputable def MObj.ctorIdx(d:MObj):Nat:=@MObj.casesOn (λU=>Nat) d (λU=>0) 1 (λU=>2) (λU=>3) (λU=>4) (λU U=>5) (λU U=>6)
abbrev Mt:=Addr->Option MObj
noncomputable def Mt.set(m:Mt)(a:Addr)(o:MObj):Mt:=λb=>if Nat.beq b a then some o else m b
noncomputable def Mt.del(m:Mt)(a:Addr):Mt:=λb=>if Nat.beq b a then none else m b
theorem zA9(h:a≠b):Nat.beq a b=false:=by
 cases e:Nat.beq a b with
 |false=>
  rfl
 |true=>
  exact absurd (Nat.eq_of_beq_eq_true e) h
theorem zBn(a:Nat):Nat.beq a a=true:=Nat.beq_refl a
inductive MRep(prog:Program)(w:World)(g:Hp):MObj->Obj->Prop
 |lst {ds:List DV} {vs:List Value} {n:Nat} (r:RepL g ds vs):MRep prog w g (.lst ds) (listOf vs.toArray n)
 |dE {ep:Nat}:MRep prog w g .dE {cls:=.type "dict",data:=.dict #[] ep}
 |dI {o:Obj} {kvs:List (Int×Value)} (h:o.IsDictOf (intKind prog w) kvs):MRep prog w g (.dI (kvs.map (·.1))) o
 |dT {o:Obj} {xs:List (List Int×Addr×Value)} {es:Array DictEntry} {ep:Nat} (hx:o.ExactDict) (hd:o.data=.dict es ep) (he:es.toList=xs.map (entryOfKey (tupleKind (intKind prog w))))
   (hi:∀ x∈xs,∃ o n vs,g x.2.1=some o/\o.cls=.type "tuple"/\o.data=.seq vs n/\ItemsAre (intKind prog w) x.1 vs.toList) (nd:(xs.map (·.1)).Nodup):MRep prog w g (.dT (xs.map (·.1))) o
 |dS {o:Obj} {kvs:List (Str×Value)} {kv:List (Nat×DV)} (h:o.IsDictOf (strKind prog w) kvs) (r:F2 (λk e=>okc e.1=true/\enc e.1=k.1/\Rep g k.2 e.2) kv kvs):MRep prog w g (.dS kv) o
 |inst {C dx:Addr} {sl:Array (Option Value)}:MRep prog w g (.inst C dx) ⟨.ref C,some dx,.plain,sl⟩
 |attrs {ns:List Nat} {ds:List DV} {es:List DictEntry} {n:Nat} (r:RepE g ns ds es):MRep prog w g (.attrs ns ds) (dictOf es n)
theorem F2.imp(h:∀ a b,R a b->S a b)(r:F2 R l m):F2 S l m:=by
 induction r with
 |nil=>exact .nil
 |cons a _ ih=>exact .cons (h _ _ a) ih
theorem MRep.mono(e:Ext g g')(h:MRep prog w g m o):MRep prog w g' m o:=by
 cases h with
 |lst r=>exact .lst (r.mono e)
 |dE=>exact .dE
 |dI h=>exact .dI h
 |dT hx hd he hi nd=>exact .dT hx hd he (λx hx=>by obtain⟨o,n,vs,a,b⟩:=hi x hx;exact⟨o,n,vs,e _ _ a,b⟩) nd
 |dS h r=>exact .dS h (F2.imp (λU U h=>⟨h.1,h.2.1,h.2.2.mono e⟩) r)
 |inst=>exact .inst
 |attrs r=>exact .attrs (r.mono e)
structure Wd where
 prog:Program
 w:World
 K:Frag
 h₀:Heap
 mg:Str->Option Value
 mb:Str->Option Value
 os:OsState
noncomputable abbrev Wd.M(W:Wd):Model:=model W.prog W.w
structure Wd.Ok(W:Wd):Prop where
 kin:W.K.In W.h₀
 ng:W.h₀.Ns mainGlobals W.mg
 nb:W.h₀.Ns builtinsNs W.mb
 nolim:W.h₀.NoLimit
 bt:∀ x:Str,x≠"__name__"->W.mb x=bootBuiltins x
noncomputable def isD(o:Obj):Bool:=match o.data with|.dict _ _=>true|_=>false
def Kpt(o:Obj)(x:Option Obj):Prop:=x=some o\/(isD o=true/\∃ sl,x=some {o with slots:=sl})
structure Sim(W:Wd)(g kp:Hp)(m:Mt)(s:Shared):Prop where
 base:∀ b o,W.h₀.get? b=some o->g b=some o
 frz:∀ b o,g b=some o->s.heap.get? b=some o
 kept:∀ b o,kp b=some o->g b=none/\Kpt o (s.heap.get? b)
 muts:∀ b o,m b=some o->g b=none/\kp b=none/\∃ ob,s.heap.get? b=some ob/\MRep W.prog W.w g o ob
 mabove:∀ b o,m b=some o->W.h₀.objs.size<=b
 gens:s.gens=#[]
 os:s.os=W.os
abbrev Loc:=List (Nat×DV)
noncomputable def look:Loc->Nat->Option DV
 |[],_=>none
 |(k,d)::r,x=>if Nat.beq k x then some d else look r x
noncomputable def put:Loc->Nat->DV->Loc
 |[],x,d=>[(x,d)]
 |(k,e)::r,x,d=>if Nat.beq k x then(k,d)::r else(k,e)::put r x d
structure St where
 loc:Loc
 mu:Mt
noncomputable def zAn(kd:List (Nat×Nat))(x:Nat):Nat:=match kd with
 |[]=>9
 |(y,k)::r=>if Nat.beq y x then k else zAn r x
structure Frm(env:Env)(kd:List (Nat×Nat))(kp g:Hp)(V:St)(s:Shared):Prop where
 ns:∃ m,s.heap.Ns env.locals m/\∀(x:Str) d,okc x=true->look V.loc (enc x)=some d->zAn kd (enc x)=0->∃ v,m x=some v/\Rep g d v
 cells:∀(x:Str) d,okc x=true->look V.loc (enc x)=some d->zAn kd (enc x)=1->∃ c v,env.cells.lookup x=some c/\s.heap.IsCell c (some v)/\Rep g d v
 apart:g env.locals=none/\kp env.locals=none/\V.mu env.locals=none
 capart:∀ x c,(x,c)∈env.cells->g c=none/\V.mu c=none/\c≠env.locals/\∃ v,s.heap.IsCell c v
end
section
theorem zAu:∀(l:Loc) (x:Nat) (d:DV),look (put l x d) x=some d
 |[],x,d=>by simp[put,look]
 |(k,e)::r,x,d=>by
  unfold put
  cases h:Nat.beq k x with
  |true=>
   simp[look,h]
  |false=>
   simp[look,h,zAu r x d]
theorem zAg:∀(l:Loc) {x y:Nat} (d:DV),x≠y->look (put l x d) y=look l y
 |[],x,y,d,h=>by simp[put,look,zA9 h]
 |(k,e)::r,x,y,d,h=>by
  unfold put
  cases hk:Nat.beq k x with
  |true=>
   have:k=x:=Nat.eq_of_beq_eq_true hk
   subst this
   simp[look,zA9 h]
  |false=>
   simp only[Bool.false_eq_true,if_false,look]
   cases Nat.beq k y with
   |true=>rfl
   |false=>simp[zAg r d h]
theorem Mt.set_self(m:Mt)(a:Addr)(o:MObj):m.set a o a=some o:=by simp[Mt.set]
theorem Mt.set_ne(m:Mt)(o:MObj)(h:b≠a):m.set a o b=m b:=by simp[Mt.set,zA9 h]
theorem Mt.del_self(m:Mt)(a:Addr):m.del a a=none:=by simp[Mt.del]
theorem Mt.del_ne(m:Mt)(h:b≠a):m.del a b=m b:=by simp[Mt.del,zA9 h]
section
variable {W:Wd}{g g' kp:Hp}{m m':Mt}{s s':Shared}
theorem Sim.ext(S:Sim W g kp m s):∀ b o,W.h₀.get? b=some o->s.heap.get? b=some o:=λb o h=>S.frz b o (S.base b o h)
theorem Sim.gmu(S:Sim W g kp m s)(h:g b=some o):m b=none:=by
 cases e:m b with
 |none=>
  rfl
 |some x=>
  rw[(S.muts b x e).1]at h;cases h
theorem Sim.kmu(S:Sim W g kp m s)(h:kp b=some o):m b=none:=by
 cases e:m b with
 |none=>
  rfl
 |some x=>
  rw[(S.muts b x e).2.1]at h;cases h
theorem Sim.gnone(S:Sim W g kp m s)(h:s.heap.get? b=none):g b=none:=by
 cases e:g b with
 |none=>
  rfl
 |some x=>
  rw[S.frz b x e]at h;cases h
theorem Sim.knone(S:Sim W g kp m s)(h:s.heap.get? b=none):kp b=none:=by
 cases e:kp b with
 |none=>
  rfl
 |some x=>
  rcases(S.kept b x e).2 with q|⟨_,sl,q⟩<;>rw[q]at h<;>cases h
theorem Sim.mnone(S:Sim W g kp m s)(h:s.heap.get? b=none):m b=none:=by
 cases e:m b with
 |none=>rfl
 |some x=>refine e03 (λU U q9=>e12 (λob q U=>?_) q9) (S.muts b x e);rw[q]at h;cases h
theorem zAe(h:Heap):h.get? h.objs.size=none:=by
 cases e:h.get? h.objs.size with
 |none=>
  rfl
 |some o=>
  exact absurd (Heap.lt_size e) (Nat.lt_irrefl _)
theorem zC1{h:Heap}{b:Addr}(hb:h.objs.size<=b):h.get? b=none:=by
 cases e:h.get? b with
 |none=>
  rfl
 |some o=>
  exact absurd (Heap.lt_size e) (Nat.not_lt.mpr hb)
theorem Sim.step(S:Sim W g kp m s)(hg:Ext g g')
  (hnew:∀ b o,g' b=some o->g b=some o\/(s'.heap.get? b=some o/\(s.heap.get? b=none\/m b≠none)))
  (hk:∀ b o,s.heap.get? b=some o->g b≠none\/kp b≠none->m b=none->s'.heap.get? b=some o)
  (hm:∀ b o,m' b=some o->g' b=none/\(s.heap.objs.size<=b\/m b≠none)/\∃ ob,s'.heap.get? b=some ob/\MRep W.prog W.w g' o ob)
  (hge:s'.gens=s.gens) (hos:s'.os=s.os) (hsz:W.h₀.objs.size<=s.heap.objs.size):Sim W g' kp m' s' where
 mabove b o h:=by
  rcases(hm b o h).2.1 with q|q
  ·exact Nat.le_trans hsz q
  ·cases e:m b with
   |none=>exact absurd e q
   |some x=>exact S.mabove b x e
 base b o h:=hg _ _ (S.base b o h)
 frz b o h:=by
  rcases hnew b o h with h|h
  ·exact hk _ _ (S.frz b o h) (.inl (by rw[h];simp)) (S.gmu h)
  ·exact h.1
 kept b o h:=by
  refine e02 (λh1 h2=>?_) (S.kept b o h)
  refine⟨?_,?_⟩
  ·cases e:g' b with
   |none=>rfl
   |some x=>
    rcases hnew b x e with q|⟨_,q|q⟩
    ·rw[h1]at q;cases q
    ·rcases h2 with h2|⟨_,sl,h2⟩<;>rw[h2]at q<;>cases q
    ·exact absurd (S.kmu h) q
  ·rcases h2 with h2|⟨hd,sl,h2⟩
   ·exact .inl (hk _ _ h2 (.inr (by rw[h];simp)) (S.kmu h))
   ·exact .inr ⟨hd,sl,hk _ _ h2 (.inr (by rw[h];simp)) (S.kmu h)⟩
 muts b o h:=by
  refine e03 (λh1 h2 h3=>?_) (hm b o h)
  refine⟨h1,?_,h3⟩
  rcases h2 with q|q
  ·exact S.knone (zC1 q)
  ·cases e:kp b with
   |none=>rfl
   |some x=>exact absurd (S.kmu e) q
 gens:=hge.trans S.gens
 os:=hos.trans S.os
theorem Sim.toks(S:Sim W g kp m s)(t:Nat):Sim W g kp m {s with toks:=t}:=⟨S.base,S.frz,S.kept,S.muts,S.mabove,S.gens,S.os⟩
end
structure Cx where
 A:Around
 env:Env
 kd:List (Nat×Nat)
 kp:Hp
 g₀:Hp
structure Good(W:Wd)(cx:Cx)(g:Hp)(V:St)(s:Shared):Prop where
 ext:Ext cx.g₀ g
 sim:Sim W g cx.kp V.mu s
 frm:Frm cx.env cx.kd cx.kp g V s
 above:W.h₀.objs.size<=cx.env.locals
section
variable {W:Wd}{cx:Cx}{g g':Hp}{V:St}{s s':Shared}
theorem Good.lt(G:Good W cx g V s):cx.env.locals<s.heap.objs.size:=by
 refine by_g λkG=>?_
 obtain⟨⟨mm,hns,_⟩,_⟩:=G.frm
 refine kG ?_
 exact hns.lt
theorem Good.size(G:Good W cx g V s):W.h₀.objs.size<=s.heap.objs.size:=Nat.le_of_lt (Nat.lt_of_le_of_lt G.above G.lt)
theorem Good.stepL{m':Mt}(G:Good W cx g V s)(hg:Ext g g')
  (hnew:∀ b o,g' b=some o->g b=some o\/(s'.heap.get? b=some o/\(s.heap.get? b=none\/V.mu b≠none)))
  (hk:∀ b o,b≠cx.env.locals->s.heap.get? b=some o->V.mu b=none->s'.heap.get? b=some o)
  (hL:∀ mm,s.heap.Ns cx.env.locals mm->s'.heap.Ns cx.env.locals mm)
  (hm:∀ b o,m' b=some o->g' b=none/\(s.heap.objs.size<=b\/V.mu b≠none)/\∃ ob,s'.heap.get? b=some ob/\MRep W.prog W.w g' o ob)
  (hge:s'.gens=s.gens) (hos:s'.os=s.os):Good W cx g' ⟨V.loc,m'⟩ s' where
 ext:=G.ext.trans hg
 above:=G.above
 sim:=G.sim.step hg hnew (λb o h hgk hmu=>hk b o (λe=>by
  subst e
  refine e03 (λa1 a2 U=>?_) G.frm.apart
  rcases hgk with q|q
  ·exact q a1
  ·exact q a2) h hmu) hm hge hos G.size
 frm:=by
  obtain⟨⟨mm,hns,hv⟩,hc,⟨a1,a2,a3⟩,ca⟩:=G.frm
  have hns':=hL mm hns
  (revert hns;refine e32 λoL es ep hLo hr=>?_)
  refine⟨⟨mm,hns',λx d ok hl hkd=>?_⟩,λx d ok hl hkd=>?_,⟨?_,a2,?_⟩,λx c hxc=>?_⟩
  ·refine e12 (λv h1 h2=>?_) (hv x d ok hl hkd)
   exact⟨v,h1,h2.mono hg⟩
  ·obtain⟨c,v,h1,⟨o,h2,h2'⟩,h3⟩:=hc x d ok hl hkd
   exact⟨c,v,h1,⟨o,hk _ _ (ca x c (mem_of_lookup h1)).2.2.1 h2 (ca x c (mem_of_lookup h1)).2.1,h2'⟩,h3.mono hg⟩
  ·cases e:g' cx.env.locals with
   |none=>rfl
   |some o=>
    rcases hnew _ o e with q|⟨_,q|q⟩
    ·rw[a1]at q;cases q
    ·rw[hLo]at q;cases q
    ·exact absurd a3 q
  ·cases e:m' cx.env.locals with
   |none=>exact e
   |some o=>
    rcases(hm _ o e).2.1 with q|q
    ·rw[zC1 q]at hLo;cases hLo
    ·exact absurd a3 q
  ·refine e04 (λc1 c2 c3 q9=>e22 (λv o ho hd=>?_) q9) (ca x c hxc)
   refine⟨?_,?_,c3,v,o,hk _ _ c3 ho c2,hd⟩
   ·cases e:g' c with
    |none=>rfl
    |some o'=>
     rcases hnew _ o' e with q|⟨_,q|q⟩
     ·rw[c1]at q;cases q
     ·rw[ho]at q;cases q
     ·exact absurd c2 q
   ·cases e:m' c with
    |none=>exact e
    |some o'=>
     rcases(hm _ o' e).2.1 with q|q
     ·rw[zC1 q]at ho;cases ho
     ·exact absurd c2 q
theorem Good.step(G:Good W cx g V s)(hg:Ext g g')
  (hnew:∀ b o,g' b=some o->g b=some o\/(s'.heap.get? b=some o/\(s.heap.get? b=none\/V.mu b≠none)))
  (hk:∀ b o,s.heap.get? b=some o->V.mu b=none->s'.heap.get? b=some o)
  (hm:∀ b o,m' b=some o->g' b=none/\(s.heap.objs.size<=b\/V.mu b≠none)/\∃ ob,s'.heap.get? b=some ob/\MRep W.prog W.w g' o ob)
  (hge:s'.gens=s.gens) (hos:s'.os=s.os):Good W cx g' ⟨V.loc,m'⟩ s':=
 G.stepL hg hnew (λb o U=>hk b o) (λmm h=>h.elim λo h=>h.elim λes h=>h.elim λep h=>⟨o,es,ep,hk _ _ h.1 G.frm.apart.2.2,h.2⟩) hm hge hos
theorem Good.toks(G:Good W cx g V s)(t:Nat):Good W cx g V {s with toks:=t}:=
 ⟨G.ext,G.sim.toks t,⟨G.frm.ns,G.frm.cells,G.frm.apart,G.frm.capart⟩,G.above⟩
theorem Good.grow(G:Good W cx g V s)(hk:∀ b o,s.heap.get? b=some o->h'.get? b=some o):Good W cx g V {s with heap:=h',toks:=t}:=by
 have:=G.step (g':=g) (m':=V.mu) (s':={s with heap:=h',toks:=t}) Ext.rfl (λU U h=>.inl h) (λb o h U=>hk b o h) (λb o h=>by
  refine by_g λkG=>?_
  refine e03 (λh1 U q9=>e12 (λob h3 h4=>?_) q9) (G.sim.muts b o h)
  refine kG ?_
  exact⟨h1,.inr (by rw[h];simp),ob,hk _ _ h3,h4⟩) rfl rfl
 exact this
noncomputable def gadd(g:Hp)(a:Addr)(o:Obj):Hp:=λb=>if Nat.beq b a then some o else g b
theorem zBh(g:Hp)(a:Addr)(o:Obj):gadd g a o a=some o:=by simp[gadd]
theorem zCo(g:Hp)(o:Obj)(h:b≠a):gadd g a o b=g b:=by simp[gadd,zA9 h]
theorem zHs(h:g a=none):Ext g (gadd g a o):=λb o' e=>by
 by_cases q:b=a
 ·subst q;rw[h]at e;cases e
 ·rw[zCo _ _ q];exact e
theorem Good.newF(G:Good W cx g V s)(o:Obj)(hf:o.isFreed=false):Ext g (gadd g s.heap.objs.size o)/\Good W cx (gadd g s.heap.objs.size o) V {s with heap:=s.heap.push o}:=by
 have hn:=zAe s.heap
 have he:Ext g (gadd g s.heap.objs.size o):=zHs (G.sim.gnone hn)
 refine⟨he,?_⟩
 have:=G.step (g':=gadd g s.heap.objs.size o) (m':=V.mu) (s':={s with heap:=s.heap.push o}) he (λb o' h=>?_) (λb o' h U=>Heap.get?_push_of_some _ h) (λb o' h=>?_) rfl rfl
 ·exact this
 ·by_cases q:b=s.heap.objs.size
  ·subst q;rw[zBh]at h;cases h
   exact .inr ⟨Heap.get?_push_size _ hf,.inl hn⟩
  ·rw[zCo _ _ q]at h;exact .inl h
 ·refine by_g λkG=>?_
  refine e03 (λh1 U q9=>e12 (λob h3 h4=>?_) q9) (G.sim.muts b o' h)
  have q:b≠s.heap.objs.size:=λq=>by subst q;rw[hn]at h3;cases h3
  refine kG ?_
  exact⟨by rw[zCo _ _ q];exact h1,.inr (by rw[h];simp),ob,Heap.get?_push_of_some _ h3,h4.mono he⟩
theorem Good.newM(G:Good W cx g V s)(o:Obj)(hf:o.isFreed=false)(r:MRep W.prog W.w g mo o):Good W cx g ⟨V.loc,V.mu.set s.heap.objs.size mo⟩ {s with heap:=s.heap.push o}:=by
 have hn:=zAe s.heap
 refine G.step Ext.rfl (λU U h=>.inl h) (λb o' h U=>Heap.get?_push_of_some _ h) (λb o' h=>?_) rfl rfl
 refine by_g λkG=>?_
 by_cases q:b=s.heap.objs.size
 ·refine kG ?_
  subst q;rw[Mt.set_self]at h;cases h
  exact⟨G.sim.gnone hn,.inl (Nat.le_refl _),o,Heap.get?_push_size _ hf,r⟩
 ·rw[Mt.set_ne _ _ q]at h
  refine e03 (λh1 U q9=>e12 (λob h3 h4=>?_) q9) (G.sim.muts b o' h)
  refine kG ?_
  exact⟨h1,.inr (by rw[h];simp),ob,Heap.get?_push_of_some _ h3,h4⟩
theorem Good.updM(G:Good W cx g V s)(hm:V.mu a=some mo)(hs:Heap.SameBut a s.heap h')(ho:h'.get? a=some o')(r:MRep W.prog W.w g mo' o') :
  Good W cx g ⟨V.loc,V.mu.set a mo'⟩ {s with heap:=h',toks:=t}:=by
 refine G.step Ext.rfl (λU U h=>.inl h) (λb o h hb=>?_) (λb o h=>?_) rfl rfl
 ·have q:b≠a:=λq=>by subst q;rw[hm]at hb;cases hb
  exact(hs.2 b q).trans h
 ·refine by_g λkG=>?_
  by_cases q:b=a
  ·refine kG ?_
   subst q;rw[Mt.set_self]at h;cases h
   exact⟨(G.sim.muts _ _ hm).1,.inr (by rw[hm];simp),o',ho,r⟩
  ·rw[Mt.set_ne _ _ q]at h
   refine e03 (λh1 U q9=>e12 (λob h3 h4=>?_) q9) (G.sim.muts b o h)
   refine kG ?_
   exact⟨h1,.inr (by rw[h];simp),ob,(hs.2 b q).trans h3,h4⟩
theorem Good.drop(G:Good W cx g V s)(hm:∀ b o,m' b=some o->V.mu b=some o):Good W cx g ⟨V.loc,m'⟩ s:=
 G.step Ext.rfl (λU U h=>.inl h) (λU U h U=>h) (λb o h=>by
  refine by_g λkG=>?_
  refine e03 (λk1 U q9=>e12 (λob' k3 k4=>?_) q9) (G.sim.muts b o (hm b o h))
  refine kG ?_
  exact⟨k1,.inr (by rw[hm b o h];simp),ob',k3,k4⟩) rfl rfl
theorem zGg{h:Heap}{L:Addr}{m m':Str->Option Value}(a:h.Ns L m)(b:h.Ns L m'):m=m':=by
 refine by_g λkG=>?_
 (revert a;refine e34 λo es ep ho hd U hm=>?_)
 (revert b;refine e34 λo' es' ep' ho' hd' U hm'=>?_)
 refine kG ?_
 rw[ho]at ho';cases ho'
 rw[hd]at hd';cases hd'
 funext x
 rw[<-hm x,<-hm' x]
noncomputable def zG3(h₀ h:Heap)(L:Addr):List (Addr×Obj):=(List.range h.objs.size).filterMap λb=>if b=L then none else match h₀.get? b with|some _=>none|none=>(h.get? b).map λo=>(b,o)
theorem mem_ledger:(b,o)∈zG3 h₀ h L↔b≠L/\h₀.get? b=none/\h.get? b=some o:=by
 unfold zG3
 rw[List.mem_filterMap]
 constructor
 ·intro hR
  refine by_g λkG=>?_
  (revert hR;refine e12 λc U hc=>?_)
  by_cases q:c=L
  ·refine kG ?_
   rw[if_pos q]at hc;cases hc
  ·rw[if_neg q]at hc
   cases e:h₀.get? c with
   |some x=>
    refine kG ?_
    rw[e]at hc;cases hc
   |none=>
    rw[e]at hc
    cases e2:h.get? c with
    |none=>
     refine kG ?_
     rw[e2]at hc;cases hc
    |some x=>
     refine kG ?_
     rw[e2]at hc;cases hc;exact⟨q,e,e2⟩
 ·rintro⟨h1,h2,h3⟩
  exact⟨b,List.mem_range.mpr (Heap.lt_size h3),by rw[if_neg h1,h2,h3];rfl⟩
noncomputable def zH5(a:Addr)(o:Obj):List (Addr×Obj)->List (Addr×Obj)
 |[]=>[]
 |p::r=>if p.1=a then(a,o)::r else p::zH5 a o r
theorem zSf:∀{l:List (Addr×Obj)},(a,o)∈l->(l.map (·.1)).Nodup->Upd a o o' l (zH5 a o' l)
 |p::r,h,nd=>by
  rw[List.map_cons,List.nodup_cons]at nd
  unfold zH5
  by_cases q:p.1=a
  ·rw[if_pos q]
   have:p=(a,o):=by
    rcases List.mem_cons.mp h with e|e
    ·exact e.symm
    ·exact absurd (List.mem_map.mpr ⟨_,e,rfl⟩) (q▸nd.1)
   subst this
   exact .head λx hx e=>nd.1 (List.mem_map.mpr ⟨x,hx,e⟩)
  ·rw[if_neg q]
   refine .tail q (zSf ?_ nd.2)
   rcases List.mem_cons.mp h with e|e
   ·exact absurd (by rw[<-e]) q
   ·exact e
theorem yBp(hp:p.1≠a)(h:p∈l):p∈zH5 a o l:=by
 induction l with
 |nil=>cases h
 |cons q r ih=>
  unfold zH5
  rcases List.mem_cons.mp h with e|e
  ·subst e;rw[if_neg hp];exact .head _
  ·split
   ·exact .tail _ e
   ·exact .tail _ (ih e)
set_option tactic.hygienic true in
theorem zMz(h:(a,o)∈l):(a,o')∈zH5 a o' l:=by
 induction l with
 |nil=>cases h
 |cons q r ih=>
  unfold zH5
  split
  ·exact .head _
  ·rename_i hq
   rcases List.mem_cons.mp h with e|e
   ·exact absurd (by rw[<-e]) hq
   ·exact .tail _ (ih e)
theorem zCy{β:Type}{f:Nat->Option (Nat×β)}(hf:∀ a p,f a=some p->p.1=a):∀{l:List Nat},l.Nodup->((l.filterMap f).map (·.1)).Nodup
 |[],_=>.nil
 |a::r,nd=>by
  rw[List.nodup_cons]at nd
  rw[List.filterMap_cons]
  cases e:f a with
  |none=>
   exact zCy hf nd.2
  |some p=>
   rw[List.map_cons,List.nodup_cons]
   refine⟨λhm=>?_,zCy hf nd.2⟩
   refine by_g λkG=>?_
   refine e12 (λq hq hq'=>?_) (List.mem_map.mp hm)
   refine e12 (λb hb hfb=>?_) (List.mem_filterMap.mp hq)
   have h1:=hf a p e
   have h2:=hf b q hfb
   refine kG ?_
   exact nd.1 (by rw[<-h1,<-hq',h2];exact hb)
theorem zN5(h₀ h:Heap)(L:Addr):((zG3 h₀ h L).map (·.1)).Nodup:=by
 refine zCy (λb p e=>?_) List.nodup_range
 refine by_g λkG=>?_
 split at e
 ·cases e
 ·split at e
  ·cases e
  ·cases q:h.get? b with
   |none=>
    refine kG ?_
    rw[q]at e;cases e
   |some o=>
    refine kG ?_
    rw[q]at e;cases e;rfl
theorem Good.fr(G:Good W cx g V s):∃ mm,Fr W.h₀ cx.env.locals s.heap mm/\News W.h₀ cx.env.locals s.heap (zG3 W.h₀ s.heap cx.env.locals):=by
 refine by_g λkG=>?_
 obtain⟨⟨mm,hns,_⟩,_⟩:=G.frm
 refine kG ?_
 exact⟨mm,⟨hns,G.sim.ext,G.above⟩,λp hp=>by
  refine by_g λkG=>?_
  obtain⟨b,o⟩:=p
  refine e03 (λh1 h2 h3=>?_) (mem_ledger.mp hp)
  refine kG ?_
  exact⟨h3,h1,h2⟩⟩
theorem zQ1(F':Fr h₀ L h' mm)(k:∀ b o,h₀.get? b=some o->h.get? b=some o)(N':News h₀ L h' news)(hs:∀ p∈zG3 h₀ h L,p∈news) :
  ∀ b o,b≠L->h.get? b=some o->h'.get? b=some o:=λb o hb e=>by
 cases q:h₀.get? b with
 |some x=>
  rw[k _ _ q]at e;cases e;exact F'.keep _ _ q
 |none=>
  exact(N' _ (hs _ (mem_ledger.mpr ⟨hb,q,e⟩))).1
theorem Good.inLedger(G:Good W cx g V s)(hm:V.mu a=some mo)(ho:s.heap.get? a=some o):(a,o)∈zG3 W.h₀ s.heap cx.env.locals:=by
 refine mem_ledger.mpr ⟨λe=>?_,?_,ho⟩
 ·subst e;rw[G.frm.apart.2.2]at hm;cases hm
 ·cases e:W.h₀.get? a with
  |none=>
   rfl
  |some x=>
   rw[G.sim.gmu (G.sim.base _ _ e)]at hm;cases hm
theorem Good.newsU(G:Good W cx g V s)(F:Fr W.h₀ cx.env.locals s.heap mm){h':Heap}{t:Nat}{a:Addr}{mo mo':MObj}{o o':Obj}(hm:V.mu a=some mo)(ho:s.heap.get? a=some o)
  (F':Fr W.h₀ cx.env.locals h' mm) (N':News W.h₀ cx.env.locals h' (zH5 a o' (zG3 W.h₀ s.heap cx.env.locals))) (r:MRep W.prog W.w g mo' o') :
  Good W cx g ⟨V.loc,V.mu.set a mo'⟩ {s with heap:=h',toks:=t}:=by
 have hin:=G.inLedger hm ho
 have hk:∀ b o,b≠cx.env.locals->b≠a->s.heap.get? b=some o->h'.get? b=some o:=λb o hb hba e=>by
  cases q:W.h₀.get? b with
  |some x=>
   rw[G.sim.ext _ _ q]at e;cases e;exact F'.keep _ _ q
  |none=>
   exact(N' _ (yBp hba (mem_ledger.mpr ⟨hb,q,e⟩))).1
 refine G.stepL Ext.rfl (λU U h=>.inl h) (λb o hb h hmu=>hk b o hb (λe=>by subst e;rw[hm]at hmu;cases hmu) h) (λm₂ h=>by rw[<-zGg F.ns h];exact F'.ns) (λb o₂ h=>?_) rfl rfl
 refine by_g λkG=>?_
 by_cases q:b=a
 ·refine kG ?_
  subst q;rw[Mt.set_self]at h;cases h
  exact⟨(G.sim.muts _ _ hm).1,.inr (by rw[hm];simp),o',(N' _ (zMz hin)).1,r⟩
 ·rw[Mt.set_ne _ _ q]at h
  refine e03 (λh1 U q9=>e12 (λob h3 h4=>?_) q9) (G.sim.muts b o₂ h)
  refine kG ?_
  exact⟨h1,.inr (by rw[h];simp),ob,hk _ _ (λe=>by subst e;rw[G.frm.apart.2.2]at h;cases h) q h3,h4⟩
theorem Good.newsL(G:Good W cx g V s){mm:Str->Option Value}(F:Fr W.h₀ cx.env.locals s.heap mm){h':Heap}{t:Nat}{l:List DV}(F':Fr W.h₀ cx.env.locals h' mm)
  (N':News W.h₀ cx.env.locals h' ((s.heap.objs.size,o)::zG3 W.h₀ s.heap cx.env.locals)) (r:MRep W.prog W.w g (.lst l) o) :
  Good W cx g ⟨V.loc,V.mu.set s.heap.objs.size (.lst l)⟩ {s with heap:=h',toks:=t}:=by
 have hn:=zAe s.heap
 have hk:=zQ1 F' G.sim.ext N' λp hp=>.tail _ hp
 refine G.stepL Ext.rfl (λU U h=>.inl h) (λb o hb h U=>hk b o hb h) (λm₂ h=>by rw[<-zGg F.ns h];exact F'.ns) (λb o' h=>?_) rfl rfl
 refine by_g λkG=>?_
 by_cases q:b=s.heap.objs.size
 ·refine kG ?_
  subst q;rw[Mt.set_self]at h;cases h
  exact⟨G.sim.gnone hn,.inl (Nat.le_refl _),o,(N' _ (.head _)).1,r⟩
 ·rw[Mt.set_ne _ _ q]at h
  refine e03 (λh1 U q9=>e12 (λob h3 h4=>?_) q9) (G.sim.muts b o' h)
  refine kG ?_
  exact⟨h1,.inr (by rw[h];simp),ob,hk _ _ (λe=>by subst e;rw[G.frm.apart.2.2]at h;cases h) h3,h4⟩
end
end
set_option genCtorIdx true in
inductive BOp where|add|sub|mul|fdiv|mod|pow|band
 deriving DecidableEq
set_option genCtorIdx true in
inductive COp where|eq|ne|lt|le|gt|ge|inn|nin
 deriving DecidableEq
mutual
inductive CE where
 |cst (d:DV)
 |var (x:Nat)
 |glob (x:Nat)
 |tup (es:CEs)
 |lst (es:CEs)
 |dct (kv:List (Nat×Int))
 |bin (op:BOp) (a b:CE)
 |neg (i:Int)
 |notE (a:CE)
 |ite (t a b:CE)
 |andE (a b:CE)
 |orE (a b:CE)
 |cmp (a:CE) (r:CCs)
 |isN (b:Bool) (a:CE)
 |call (f:CE) (es:CEs)
 |meth (o:CE) (m:Nat) (es:CEs)
 |attr (o:CE) (m:Nat)
 |sub (o i:CE)
 |slc (o l u:CE)
 |rev (o:CE)
 |comp (elt:CE) (xs:CN) (it:CE) (ifs:CEs)
 |compZ (elt:CE) (xs:CN) (a b:CE)
 |bad
inductive CEs where
 |nil
 |cons (e:CE) (r:CEs)
inductive CCs where
 |one (op:COp) (e:CE)
 |cons (op:COp) (e:CE) (r:CCs)
inductive CN where
 |one (x:Nat)
 |tup (xs:List Nat)
end
inductive CT where
 |nm (n:CN)
 |swap (xs:List Nat)
 |attr (o:CE) (m:Nat)
 |sub (o i:CE)
 |attr3 (o₁:CE) (m₁:Nat) (o₂:CE) (m₂:Nat) (o₃:CE) (m₃:Nat)
mutual
inductive CS where
 |asg (t:CT) (e:CE)
 |expr (e:CE)
 |ret (e:CE)
 |ife (t:CE) (a b:CSs)
 |whl (t:CE) (b:CSs)
 |forS (n:CN) (it:CE) (b:CSs)
 |raiseT (e:CE)
 |tryT (x:Nat) (e:CE) (ev told:Nat)
 |bad
inductive CSs where
 |nil
 |cons (s:CS) (r:CSs)
end
noncomputable def CE.ctorIdx(d:CE):Nat:=@CE.casesOn (λU=>Nat) d (λU=>0) (λU=>1) (λU=>2) (λU=>3) (λU=>4) (λU=>5) (λU U U=>6) (λU=>7) (λU=>8) (λU U U=>9) (λU U=>10) (λU U=>11) (λU U=>12) (λU U=>13) (λU U=>14) (λU U U=>15) (λU U=>16) (λU U=>17) (λU U U=>18) (λU=>19) (λU U U U=>20) (λU U U U=>21) 22
noncomputable def CEs.ctorIdx(d:CEs):Nat:=@CEs.casesOn (λU=>Nat) d 0 (λU U=>1)
noncomputable def CCs.ctorIdx(d:CCs):Nat:=@CCs.casesOn (λU=>Nat) d (λU U=>0) (λU U U=>1)
noncomputable def CN.ctorIdx(d:CN):Nat:=@CN.casesOn (λU=>Nat) d (λU=>0) (λU=>1)
noncomputable def CT.ctorIdx(d:CT):Nat:=@CT.casesOn (λU=>Nat) d (λU=>0) (λU=>1) (λU U=>2) (λU U=>3) (λU U U U U U=>4)
noncomputable def CS.ctorIdx(d:CS):Nat:=@CS.casesOn (λU=>Nat) d (λU U=>0) (λU=>1) (λU=>2) (λU U U=>3) (λU U=>4) (λU U U=>5) (λU=>6) (λU U U U=>7) 8
noncomputable def CSs.ctorIdx(d:CSs):Nat:=@CSs.casesOn (λU=>Nat) d 0 (λU U=>1)
def kinds:List (Str×NameKind)->List (Nat×Nat)
 |[]=>[]
 |(x,k)::r=>(enc x,match k with|.local=>0|.cell=>1|.free=>1|.globalImplicit=>2|.globalExplicit=>8)::kinds r
noncomputable def zJm:Nat:=2054627849268437038508221251
noncomputable def nZip:Nat:=1894230
noncomputable def yFw:Nat:=6368
def zCa(l:List (Str×NameKind)):Bool:=l.all λp=>okc p.1&&!(Nat.beq (enc p.1) zJm)
def zAk(l:List (Str×NameKind)):List (Nat×Nat):=(kinds l).filter λp=>!(Nat.beq p.1 yFw)
noncomputable def yC5:NameKind->Bool
 |.cell=>true
 |_=>false
noncomputable def zUp:NameKind->Bool
 |.free=>true
 |_=>false
def zJl(l:List (Str×NameKind)):Bool:=l.all λp=>!(yC5 p.2)
noncomputable def yGg:ScopeKind->Bool
 |.function=>true
 |_=>false
def zQ0(kd:List (Nat×Nat))(l:List (Str×NameKind)):Bool:=l.all λp=>!(zUp p.2)||Nat.beq (zAn kd (enc p.1)) 1
noncomputable def cnN:CN->List Nat
 |.one x=>[x]
 |.tup xs=>xs
noncomputable def cBOp:Operator->Option BOp
 |.Add=>some .add|.Sub=>some .sub|.Mult=>some .mul|.FloorDiv=>some .fdiv|.Mod=>some .mod|.Pow=>some .pow|.BitAnd=>some .band
 |_=>none
noncomputable def cCOp:CmpOp->Option COp
 |.Eq=>some .eq|.NotEq=>some .ne|.Lt=>some .lt|.LtE=>some .le|.Gt=>some .gt|.GtE=>some .ge|.In=>some .inn|.NotIn=>some .nin
 |_=>none
def cStr(x:Str):CE:=if okc x then .cst (.str (enc x))else .bad
def yA9:Const->CE
 |.none=>.cst .none
 |.bool b=>.cst (.bool b)
 |.int i=>.cst (.int i)
 |.str x=>cStr x
 |.bytes b=>.cst (.bytes b.toArray)
 |_=>.bad
def yHf(kd:List (Nat×Nat))(x:Str):CE:=
 if okc x&&!(Nat.beq (enc x) (enc "__debug__"))then(match zAn kd (enc x)with|0=>.var (enc x)|1=>.var (enc x)|2=>.glob (enc x)|_=>.bad)else .bad
def cSto(kd:List (Nat×Nat))(x:Str):Option Nat:=if okc x&&Nat.ble (zAn kd (enc x)) 1 then some (enc x)else none
def zC3(kd:List (Nat×Nat))(x:Str):Option Nat:=if okc x&&Nat.beq (zAn kd (enc x)) 0 then some (enc x)else none
noncomputable def zBd:List Nat->Bool
 |[]=>true
 |x::r=>!(r.any λy=>Nat.beq x y)&&zBd r
def scOk(kd:List (Nat×Nat))(sc:Scope)(xs:List Nat):Bool:=
 zCa sc.names&&yGg sc.kind&&zJl sc.names&&zBd ((kinds sc.names).map (·.1))&&zQ0 kd sc.names&&(zAk sc.names).all (λp=>!(Nat.beq p.2 0)||xs.any (Nat.beq p.1))
noncomputable def zDm:PySem.Expr->Bool
 |.Set ..=>false
 |_=>true
noncomputable def zUk:CN->Bool
 |.tup _=>true
 |_=>false
noncomputable def zPv:PySem.Expr->Bool
 |.Starred ..=>true
 |_=>false
def noStar(l:List PySem.Expr):Bool:=match l with
 |[]=>true
 |e::r=>!(zPv e)&&noStar r
noncomputable def ob{α β:Type}(b:β)(o:Option α)(f:α->β):β:=match o with
 |some a=>f a
 |none=>b
noncomputable def zQ8:PySem.Expr->Option Const
 |.Constant c _ _=>some c
 |_=>none
noncomputable def zZ1:PySem.Expr->Option (PySem.Expr×List PySem.Expr×List Keyword)
 |.Call f es ks _=>some (f,es,ks)
 |_=>none
noncomputable def zGr{α:Type}:List α->Bool
 |[]=>true
 |_::_=>false
def zGe(e:PySem.Expr):Bool:=ob true (zZ1 e) λU=>false
noncomputable def unE:PySem.Expr->Option (UnaryOp×PySem.Expr)
 |.UnaryOp op a _=>some (op,a)
 |_=>none
noncomputable def zFz:PySem.Expr->Option Str
 |.Name x _=>some x
 |_=>none
noncomputable def zS4:PySem.Expr->Option (PySem.Expr×Str)
 |.Attribute o m _=>some (o,m)
 |_=>none
noncomputable def zQq:PySem.Expr->Option (List PySem.Expr)
 |.Tuple vs _ _=>some vs
 |_=>none
noncomputable def optB{α β:Type}(o:Option α)(f:α->β)(b:β):β:=match o with
 |some a=>f a
 |none=>b
def zEs(f:Str->Option Nat)(es:List PySem.Expr):Option (List Nat):=match es with
 |[]=>some []
 |e::r=>ob none (zFz e) λx=>ob none (f x) λn=>ob none (zEs f r) λl=>some (n::l)
def cTgt(f:Str->Option Nat)(e:PySem.Expr):Option CN:=optB (zFz e) (λx=>ob none (f x) λn=>some (.one n)) (ob none (zQq e) λes=>ob none (zEs f es) λl=>if zBd l then some (.tup l)else none)
noncomputable def intC:Const->Option Int
 |.int i=>some i
 |_=>none
noncomputable def yFt:Const->Bool
 |.none=>true
 |_=>false
noncomputable def negO:UnaryOp->Bool
 |.USub=>true
 |_=>false
def zYd(e:PySem.Expr):Option Int:=ob none (zQ8 e) intC
noncomputable def strC:Const->Option Str
 |.str x=>some x
 |_=>none
def strE(e:Option PySem.Expr):Option Str:=ob none e λe=>ob none (zQ8 e) strC
def cKV(ks:List (Option PySem.Expr))(vs:List PySem.Expr):Option (List (Nat×Int)):=match ks with
 |[]=>(match vs with
  |[]=>some []
  |_::_=>none)
 |k::ks=>(match vs with
  |[]=>none
  |v::vs=>ob none (strE k) λx=>ob none (zYd v) λi=>if okc x then ob none (cKV ks vs) λl=>some ((enc x,i)::l)else none)
def zUo(e:PySem.Expr):Bool:=ob false (zQ8 e) yFt
noncomputable def isC(b:Bool):CmpOp:=match b with
 |true=>.Is
 |false=>.IsNot
noncomputable def isOp:CmpOp->Option Bool
 |.Is=>some true
 |.IsNot=>some false
 |_=>none
def isM1(e:PySem.Expr):Bool:=ob false (unE e) λp=>negO p.1&&ob false (zYd p.2) λi=>decide (i=1)
noncomputable def one1{α:Type}(l:List α):Option α:=match l with
 |[]=>none
 |a::r=>(match r with|[]=>some a|_::_=>none)
def two2{α:Type}(l:List α):Option (α×α):=match l with
 |[]=>none
 |a::r=>(match one1 r with|some b=>some (a,b)|none=>none)
def zMd{α:Type}(l:List α):Option (α×α×α):=match l with
 |[]=>none
 |a::r=>ob none (two2 r) λp=>some (a,p)
def isOf(ops:List CmpOp)(es:List PySem.Expr):Option Bool:=ob none (one1 ops) λop=>ob none (one1 es) λe=>if zUo e then isOp op else none
def zYj(g:List Comprehension):Option (PySem.Expr×PySem.Expr×List PySem.Expr):=ob none (one1 g) λc=>if decide (c.is_async=0)then some (c.target,c.iter,c.ifs)else none
noncomputable def zZd:PySem.Expr->Option (PySem.Expr×Str×Pos)
 |.Attribute o m p=>some (o,m,p)
 |_=>none
noncomputable def zJf:PySem.Expr->Option (Option PySem.Expr×Option PySem.Expr×Option PySem.Expr)
 |.Slice l u s _=>some (l,u,s)
 |_=>none
def zS8(e:PySem.Expr):Option (Str×PySem.Expr×PySem.Expr):=ob none (zZ1 e) λc=>if zGr c.2.2 then ob none (zFz c.1) λz=>ob none (two2 c.2.1) λp=>some (z,p.1,p.2)else none
def zS9(kd:List (Nat×Nat))(xs:CN)(it:PySem.Expr)(ifs:List PySem.Expr):Option (PySem.Expr×PySem.Expr):=
 if zGr ifs then ob none (zS8 it) λq=>if Nat.beq (enc q.1) nZip&&okc q.1&&Nat.beq (zAn kd (enc q.1)) 2&&zUk xs&&noStar [q.2.1,q.2.2]then some q.2 else none else none
mutual
noncomputable def cE:Nat->List (Nat×Nat)->PySem.Expr->CE
 |0,_,_=>.bad
 |n+1,kd,e=>match e with
  |.Constant c _ _=>yA9 c
  |.Name x _=>yHf kd x
  |.Tuple es _ _=>if noStar es then .tup (cEs n kd es)else .bad
  |.List es _=>if noStar es then .lst (cEs n kd es)else .bad
  |.Dict ks vs _=>ob .bad (cKV ks vs) λl=>if Nat.ble l.length 15&&zBd (l.map (·.1))then .dct l else .bad
  |.BinOp a op b _=>ob .bad (cBOp op) λo=>.bin o (cE n kd a) (cE n kd b)
  |.UnaryOp op a _=>(match op with
   |.USub=>ob .bad (zYd a) .neg
   |.Not=>.notE (cE n kd a)
   |_=>.bad)
  |.IfExp t a b _=>.ite (cE n kd t) (cE n kd a) (cE n kd b)
  |.BoolOp op vs _=>zOy n kd (match op with|.And=>true|.Or=>false) vs
  |.Compare a ops es _=>ob (if lastMarks ops es then .bad else ob .bad (cCmp n kd ops es) λr=>.cmp (cE n kd a) r) (isOf ops es) λb=>.isN b (cE n kd a)
  |.Call f es ks pos=>if zGr ks then optB (zZd f) (λ(q:PySem.Expr×Str×Pos)=>if okc q.2.1&&noStar es&&zGe q.1&&q.2.2.endLine==pos.line&&Nat.ble es.length 20 then .meth (cE n kd q.1) (enc q.2.1) (cEs n kd es)else .bad)
    (if noStar es then .call (cE n kd f) (cEs n kd es)else .bad)else .bad
  |.Attribute o m _=>if okc m&&zGe o then .attr (cE n kd o) (enc m)else .bad
  |.Subscript o i _=>optB (zJf i) (λ(q:Option PySem.Expr×Option PySem.Expr×Option PySem.Expr)=>optB q.2.2 (λs=>if isM1 s&&q.1.isNone&&q.2.1.isNone then .rev (cE n kd o)else .bad)
    (.slc (cE n kd o) (optB q.1 (cE n kd) (.cst .none)) (optB q.2.1 (cE n kd) (.cst .none)))) (.sub (cE n kd o) (cE n kd i))
  |.ListComp elt gens sc _=>ob .bad (zYj gens) λ(g:PySem.Expr×PySem.Expr×List PySem.Expr)=>ob .bad (cTgt (zC3 (zAk sc.names)) g.1) λxs=>
    if scOk kd sc (cnN xs)&&zDm g.2.1 then
     ob (.comp (cE n (zAk sc.names) elt) xs (cE n kd g.2.1) (cEs n (zAk sc.names) g.2.2)) (zS9 kd xs g.2.1 g.2.2) λ(q:PySem.Expr×PySem.Expr)=>.compZ (cE n (zAk sc.names) elt) xs (cE n kd q.1) (cE n kd q.2)
    else .bad
  |_=>.bad
noncomputable def cEs:Nat->List (Nat×Nat)->List PySem.Expr->CEs
 |0,_,_=>.cons .bad .nil
 |n+1,kd,es=>match es with
  |[]=>.nil
  |e::r=>.cons (cE n kd e) (cEs n kd r)
noncomputable def zOy:Nat->List (Nat×Nat)->Bool->List PySem.Expr->CE
 |0,_,_,_=>.bad
 |n+1,kd,c,es=>match es with
  |[]=>.bad
  |e::r=>(match r with
   |[]=>cE n kd e
   |e₂::r=>(match c with
    |true=>.andE (cE n kd e) (zOy n kd true (e₂::r))
    |false=>.orE (cE n kd e) (zOy n kd false (e₂::r))))
noncomputable def cCmp:Nat->List (Nat×Nat)->List CmpOp->List PySem.Expr->Option CCs
 |0,_,_,_=>none
 |n+1,kd,ops,es=>match ops with
  |[]=>none
  |op::ops=>(match es with
   |[]=>none
   |e::es=>ob none (cCOp op) λo=>if zGr ops&&zGr es then some (.one o (cE n kd e))else ob none (cCmp n kd ops es) λr=>some (.cons o (cE n kd e) r))
end
noncomputable def zEa:PySem.Expr->Bool
 |.ListComp ..=>true
 |.SetComp ..=>true
 |.DictComp ..=>true
 |_=>false
noncomputable def isTL:PySem.Expr->Bool
 |.Tuple ..=>true
 |.List ..=>true
 |_=>false
def zPa(kd:List (Nat×Nat))(ts vs:List PySem.Expr):Option (List Nat):=
 if(ts.length==2||ts.length==3)&&vs.length==ts.length&&(match ts with|t::r=>r.all (λu=>u.pos.line==t.pos.line)|[]=>false)&&!(vs.any λ|.Starred ..=>true|_=>false)&&!(vs.all (constantsAlone 8))then
  ob none (zEs (zC3 kd) ts) λl=>if zBd l then some l else none
 else none
def zW4(ts:List PySem.Expr):Option ((PySem.Expr×Str)×(PySem.Expr×Str)×(PySem.Expr×Str)):=ob none (zMd ts) λq=>ob none (zS4 q.1) λa=>ob none (zS4 q.2.1) λb=>ob none (zS4 q.2.2) λc=>some (a,b,c)
noncomputable def yC0:PySem.Expr->Bool
 |.Slice ..=>true
 |_=>false
def asgN(kd:List (Nat×Nat))(c:CE)(ts:List PySem.Expr):CS:=ob .bad (zEs (cSto kd) ts) λl=>if zBd l then .asg (.nm (.tup l)) c else .bad
noncomputable def lcP:PySem.Expr->Option (PySem.Expr×List Comprehension×Scope×Pos)
 |.ListComp e g sc p=>some (e,g,sc,p)
 |_=>none
noncomputable def yFv:PySem.Expr->Option (Str×Pos)
 |.Name x p=>some (x,p)
 |_=>none
noncomputable def subE:PySem.Expr->Option (PySem.Expr×PySem.Expr)
 |.Subscript o i _=>some (o,i)
 |_=>none
def yJc(n:Nat)(kd:List (Nat×Nat))(t v:PySem.Expr):CS:=ob .bad (yFv t) λ(x:Str×Pos)=>ob .bad (lcP v) λ(q:PySem.Expr×List Comprehension×Scope×Pos)=>ob .bad (zC3 kd x.1) λy=>
 if x.2.line==q.2.2.2.line&&(kinds q.2.2.1.names).all (λq=>!(Nat.beq q.1 y)||Nat.beq q.2 2||Nat.beq q.2 8)&&ob false (zYj q.2.1) (λg=>(zS8 g.2.1).isNone)then .asg (.nm (.one y)) (cE n kd v)else .bad
def yHg(n:Nat)(kd:List (Nat×Nat))(ts:List PySem.Expr)(v:PySem.Expr):CS:=
 optB (zW4 ts) (λq=>if okc q.1.2&&okc q.2.1.2&&okc q.2.2.2 then .asg (.attr3 (cE n kd q.1.1) (enc q.1.2) (cE n kd q.2.1.1) (enc q.2.1.2) (cE n kd q.2.2.1) (enc q.2.2.2)) (cE n kd v)else .bad)
  (optB (zQq v) (λvs=>if vs.all (foldedForSure 8)then asgN kd (cE n kd v) ts else ob .bad (zPa kd ts vs) λl=>.asg (.swap l) (cE n kd v)) (asgN kd (cE n kd v) ts))
def cAsg(n:Nat)(kd:List (Nat×Nat))(t v:PySem.Expr):CS:=if zEa v then yJc n kd t v else
 optB (zFz t) (λx=>ob .bad (cSto kd x) λy=>.asg (.nm (.one y)) (cE n kd v)) (optB (zQq t) (λts=>yHg n kd ts v)
  (optB (zS4 t) (λ(q:PySem.Expr×Str)=>if okc q.2 then .asg (.attr (cE n kd q.1) (enc q.2)) (cE n kd v)else .bad)
   (ob .bad (subE t) λ(q:PySem.Expr×PySem.Expr)=>if yC0 q.2 then .bad else .asg (.sub (cE n kd q.1) (cE n kd q.2)) (cE n kd v))))
noncomputable def asgE:Stmt->Option (List PySem.Expr×PySem.Expr)
 |.Assign ts v _=>some (ts,v)
 |_=>none
def yDk(l:List Stmt):Option (Str×PySem.Expr):=ob none (one1 l) λs=>ob none (asgE s) λp=>ob none (one1 p.1) λt=>ob none (zFz t) λx=>some (x,p.2)
def yAb(e:PySem.Expr):Option (Str×Str):=ob none (zS4 e) λp=>ob none (zFz p.1) λx=>some (x,p.2)
def yGm(l:List ExceptHandler):Option (Str×Str×Str×Str×Str):=ob none (one1 l) λh=>match h with
 |.ExceptHandler c ev b _=>ob none c λc=>ob none (zFz c) λc=>ob none ev λev=>ob none (yDk b) λp=>ob none (yAb p.2) λq=>some (c,ev,p.1,q.1,q.2)
def yHb(e:PySem.Expr):Option (Str×PySem.Expr):=ob none (zZ1 e) λq=>if zGr q.2.2 then ob none (zFz q.1) λc=>ob none (one1 q.2.1) λe=>some (c,e)else none
def zTc(x c:Option PySem.Expr):Option (Str×PySem.Expr):=match x with
 |some x=>(match c with|none=>yHb x|some _=>none)
 |none=>none
def yEi(kd:List (Nat×Nat))(b:List Stmt)(hs:List ExceptHandler):Option (Nat×PySem.Expr×Nat×Nat):=ob none (yDk b) λ(p:Str×PySem.Expr)=>ob none (yGm hs) λ(q:Str×Str×Str×Str×Str)=>
 ob none (zC3 kd p.1) λx=>ob none (zC3 kd q.2.2.1) λt=>ob none (zC3 kd q.2.1) λev=>
  if Nat.beq (enc q.1) (enc "TooLarge")&&okc q.1&&Nat.beq (zAn kd (enc q.1)) 2&&okc q.2.2.2.1&&Nat.beq (enc q.2.2.2.1) ev&&okc q.2.2.2.2&&Nat.beq (enc q.2.2.2.2) (enc "told")&&zBd [x,t,ev]&&!(zEa p.2)&&!(Nat.beq ev (enc "__debug__"))then some (x,p.2,ev,t)else none
mutual
noncomputable def cS:Nat->List (Nat×Nat)->Stmt->CS
 |0,_,_=>.bad
 |n+1,kd,s=>match s with
  |.Assign ts v _=>ob .bad (one1 ts) λt=>cAsg n kd t v
  |.Expr v _=>if zEa v then .bad else .expr (cE n kd v)
  |.Return v _=>ob .bad v λv=>.ret (cE n kd v)
  |.If t a b _=>.ife (cE n kd t) (cSs n kd a) (cSs n kd b)
  |.While t b els _=>if zGr els then .whl (cE n kd t) (cSs n kd b)else .bad
  |.For t it b els _=>if zGr els&&zDm it then ob .bad (cTgt (cSto kd) t) λxs=>.forS xs (cE n kd it) (cSs n kd b)else .bad
  |.Raise x c _=>ob .bad (zTc x c) λ(q:Str×PySem.Expr)=>if Nat.beq (enc q.1) (enc "TooLarge")&&okc q.1&&Nat.beq (zAn kd (enc q.1)) 2&&!(zPv q.2)then .raiseT (cE n kd q.2)else .bad
  |.Try b hs els fin _=>if zGr els&&zGr fin then ob .bad (yEi kd b hs) λ(q:Nat×PySem.Expr×Nat×Nat)=>.tryT q.1 (cE n kd q.2.1) q.2.2.1 q.2.2.2 else .bad
  |_=>.bad
noncomputable def cSs:Nat->List (Nat×Nat)->List Stmt->CSs
 |0,_,_=>.cons .bad .nil
 |n+1,kd,l=>match l with
  |[]=>.nil
  |s::r=>.cons (cS n kd s) (cSs n kd r)
end
structure Tabs where
 gl:List (Str×DV)
 at_:List (Addr×List Str)
 me:List (Addr×List (Str×Addr))
 ini:List (Addr×Addr)
 kf:List Addr
noncomputable def buV:Value->Option String
 |.builtin a=>some a
 |_=>none
noncomputable def tyV:Value->Option String
 |.type a=>some a
 |_=>none
noncomputable def refV:Value->Option Addr
 |.ref a=>some a
 |_=>none
noncomputable def intV:Value->Option Int
 |.int i _=>some i
 |_=>none
def yEv(a b:Value):Bool:=optB (buV a) (λx=>ob false (buV b) λy=>x==y) (ob false (tyV a) λx=>ob false (tyV b) λy=>x==y)
def isSN(x:Option (Option Value)):Bool:=ob false x λo=>o.isNone
def zNb(a:Addr)(x:Option (Option Value)):Bool:=ob false x λo=>ob false o λv=>ob false (refV v) λb=>Nat.beq a b
def isBu(a:String)(x:Option (Option Value)):Bool:=ob false x λo=>ob false o λv=>ob false (buV v) λb=>a==b
def gvOk(K:Frag)(x:Str):DV->Bool
 |.int i=>ob false (nsIn K mainGlobals x) λo=>ob false o λv=>ob false (intV v) λj=>decide (i=j)
 |.fn a=>zNb a (nsIn K mainGlobals x)
 |.cls a=>zNb a (nsIn K mainGlobals x)
 |.bi b=>isSN (nsIn K mainGlobals x)&&!(x==("__name__": Str))&&ob false (bootBuiltins x) λv=>yEv v b.val
 |_=>false
def gvP(K:Frag)(p:Str×DV):Bool:=okc p.1&&!(p.1==("__debug__": Str))&&gvOk K p.1 p.2
def atX(K:Frag)(C:Addr)(x:Str):Bool:=okc x&&plainGet K C x&&ob false (findIn K (.ref C) x) (noGet K)&&isSN (takerIn K C x)
def atP(K:Frag)(p:Addr×List Str):Bool:=hasDictIn K p.1&&isBu "object.__setattr__" (findIn K (.ref p.1) "__setattr__")&&plainOver K p.1&&p.2.all (atX K p.1)
def meX(K:Frag)(C:Addr)(q:Str×Addr):Bool:=okc q.1&&plainGet K C q.1&&zNb q.2 (findIn K (.ref C) q.1)&&isFn K (.ref q.2)&&keepIn K (.ref q.2)
def iniP(K:Frag)(p:Addr×Addr):Bool:=makesIn K p.1&&zNb p.2 (findIn K (.ref p.1) "__init__")&&isFn K (.ref p.2)&&keepIn K (.ref p.1)
def Tabs.ok(t:Tabs)(K:Frag):Bool:=t.gl.all (gvP K)&&t.at_.all (atP K)&&(t.me.all λp=>p.2.all (meX K p.1))&&t.ini.all (iniP K)&&t.kf.all λa=>keepIn K (.ref a)
noncomputable def yGo:Data->Option FuncData
 |.func fd=>some fd
 |_=>none
def fdAt(K:Frag)(f:Addr):Option FuncData:=ob none (K.lookup f) λo=>yGo o.data
def zZv(l:List (Str×NameKind)):Bool:=l.all λp=>!(zUp p.2)
def fdOk(K:Frag)(fd:FuncData):Bool:=
 codeIn K fd.code fd.qualname&&fd.closure.isEmpty&&!fd.scope.isCoroutine&&!fd.scope.isGenerator&&yGg fd.scope.kind&&Nat.beq fd.globals mainGlobals&&Nat.beq fd.builtins builtinsNs&&
 zCa fd.scope.names&&zBd ((kinds fd.scope.names).map (·.1))&&zZv fd.scope.names
noncomputable def isLC:NameKind->Bool
 |.local=>true
 |.cell=>true
 |_=>false
def yF8(fd:FuncData)(ns:List Str):Bool:=ns.all λx=>okc x&&ob false (fd.scope.names.lookup x) isLC
noncomputable def pS(x:String)(d:DV):Str×DV:=(Str.ofString x,d)
def tabs:Tabs where
 gl:=[pS "EMPTY_ALL" (.int 63),pS "Frag" (.cls 137),pS "INST_ALT" (.int 0),pS "INST_CAPTURE" (.int 2),pS "INST_EMPTY" (.int 3),pS "INST_FAIL" (.int 6),pS "INST_MATCH" (.int 4),pS "INST_NOP" (.int 5),pS "INST_RANGE" (.int 1),pS "Inst" (.cls 65),pS "Maker" (.cls 200),pS "Program" (.cls 86),pS "TooLarge" (.cls 45),pS "_law_digits" (.fn 325),pS "_law_first" (.fn 339),pS "_law_fits" (.fn 332),pS "_law_found" (.fn 416),pS "_law_group" (.fn 356),pS "_law_joined" (.fn 361),pS "_law_kept" (.fn 344),pS "_law_loops" (.fn 366),pS "_law_made" (.fn 390),pS "_law_mark" (.fn 349),pS "_law_meant" (.fn 371),pS "_law_needs" (.fn 376),pS "_law_none" (.fn 318),pS "_law_rows" (.fn 395),pS "_law_shape" (.fn 383),pS "_law_tried" (.fn 402),pS "_law_ways" (.fn 409),pS "bytes" (.bi .bytes),pS "ends_one" (.fn 211),pS "frag_alt" (.fn 275),pS "frag_capture" (.fn 311),pS "frag_cat" (.fn 268),pS "frag_choice" (.fn 282),pS "frag_empty" (.fn 254),pS "frag_is_none" (.fn 225),pS "frag_is_nop" (.fn 239),pS "frag_match" (.fn 261),pS "frag_none" (.fn 218),pS "frag_nop" (.fn 232),pS "frag_plus" (.fn 289),pS "frag_quest" (.fn 296),pS "frag_range" (.fn 247),pS "frag_star" (.fn 303),pS "inst_fault" (.fn 104),pS "int" (.bi .int),pS "len" (.bi .len),pS "min" (.bi .min),pS "program_faults" (.fn 118),pS "program_heads" (.fn 97),pS "program_ways_fault" (.fn 111),pS "range" (.bi .range),pS "sorted" (.bi .sorted),pS "tuple" (.bi .tuple)]
 at_:=[(65,["op","out","arg","low","high","is_folded","is_last"]),(86,["insts","start","start_loose","is_reversed","is_anchored_start","is_anchored_end","is_flat","heads","prefix","is_prefix_folded","byte_cuts"]),(137,["begin","ends","is_nullable"]),(200,["most","insts"])]
 me:=[(200,[("need",162),("new",169),("way",176),("lead",183),("patch",190),("joined",197)])]
 ini:=[(65,62),(86,83),(137,134),(200,155)]
 kf:=[97,104,111,118,211,218,225,232,239,247,254,261,268,275,282,289,296,303,311,318,325,332,339,344,349,356,361,366,371,376,383,390,395,402,409,416]
@[irreducible] noncomputable def zGw:CSs:=(.cons (.expr (.meth (.var 3636518804617) 3638987581326 (.cons (.ite (.var 566630696248834) (.bin .add (.lst (.cons (.tup (.cons (.var 1695162) (.cons (.var 253056312) .nil))) .nil)) (.var 220890551)) (.bin .add (.var 220890551) (.lst (.cons (.tup (.cons (.var 1695162) (.cons (.var 253056312) .nil))) .nil)))) .nil))) .nil)
@[irreducible] noncomputable def zGv:CSs:=(.cons (.ife (.var 566630696248834) (.cons (.ret (.comp (.call (.glob 1166390519185675387188) (.cons (.bin .add (.lst (.cons (.tup (.cons (.var 15191) (.cons (.call (.glob 7888506755506000443) .nil) .nil))) .nil)) (.sub (.var 28481783181) (.var 15191))) .nil)) (.one 15191) (.var 4172336439038) .nil)) .nil) .nil) (.cons (.ret (.comp (.call (.glob 1166390519185675387188) (.cons (.bin .add (.sub (.var 28481783181) (.var 15191)) (.lst (.cons (.tup (.cons (.var 15191) (.cons (.call (.glob 7888506755506000443) .nil) .nil))) .nil))) .nil)) (.one 15191) (.var 4172336439038) .nil)) .nil))
noncomputable def zZ3:CSs:=(.cons (.expr (.meth (.var 32066903573) 29293531157 (.cons (.attr (.var 224901412) 250711086) (.cons (.var 3638995965936) .nil)))) (.cons (.ret (.call (.glob 224901380) (.cons (.var 28181297528) (.cons (.call (.glob 61151211047737299) (.cons (.bin .mul (.var 3638995965936) (.cst (.int 2))) .nil)) (.cons (.attr (.var 224901412) 131251851267392784618517) .nil))))) .nil))
def zZ4:CSs:=(.cons (.asg (.attr (.sub (.attr (.var 32066903573) 32376161590) (.var 28181297528)) 1962331) (.attr (.var 224901412) 30967732746)) zZ3)
def zZ5:CSs:=(.cons (.asg (.attr (.sub (.attr (.var 32066903573) 32376161590) (.var 3638995965936)) 1745597) (.ite (.var 129907780876443790661926) (.bin .mul (.cst (.int 2)) (.var 31547473586)) (.bin .add (.bin .mul (.cst (.int 2)) (.var 31547473586)) (.cst (.int 1))))) zZ4)
def zZ6:CSs:=(.cons (.asg (.attr (.sub (.attr (.var 32066903573) 32376161590) (.var 28181297528)) 1745597) (.ite (.var 129907780876443790661926) (.bin .add (.bin .mul (.cst (.int 2)) (.var 31547473586)) (.cst (.int 1))) (.bin .mul (.cst (.int 2)) (.var 31547473586)))) zZ5)
@[irreducible] noncomputable def zGu:CSs:=(.cons (.ife (.cmp (.call (.glob 1860418) (.cons (.attr (.var 32066903573) 32376161590) .nil)) (.one .ne (.bin .add (.call (.glob 1860418) (.cons (.var 28181297528) .nil)) (.var 32341580436)))) (.cons (.ret (.cst .none)) .nil) .nil) (.cons (.ret (.var 220655771)) .nil))
def zS0:CSs:=(.cons (.ife (.cmp (.isN false (.var 218644023)) (.one .ne (.cmp (.var 32341580436) (.one .gt (.var 238014145))))) (.cons (.ret (.cst .none)) .nil) .nil) (.cons (.ife (.isN false (.var 218644023)) (.cons (.ife (.orE (.cmp (.var 218644023) (.one .ne (.bin .add (.call (.glob 1860418) (.cons (.var 28181297528) .nil)) (.var 238014145)))) (.cmp (.call (.glob 8967465052419388374) (.cons (.attr (.var 32066903573) 32376161590) .nil)) (.one .ne (.var 28181297528)))) (.cons (.ret (.cst .none)) .nil) .nil) (.cons (.asg (.attr (.var 32066903573) 253107527) (.cst (.int 1000))) (.cons (.asg (.nm (.one 220655771)) (.call (.glob 7882497530926760610) (.cons (.var 32066903573) (.cons (.var 32066789281) (.cons (.var 32376143279) (.cons (.var 2011483) (.cons (.var 129907780876443790661926) .nil))))))) .nil))) .nil) zGu))
@[irreducible] noncomputable def zIq:CSs:=(.cons (.ife (.cmp (.attr (.var 253107394) 14689) (.one .eq (.glob 11630288511819499376935229))) (.cons (.ret (.lst (.cons (.tup (.cons (.attr (.var 253107394) 1962331) (.cons (.var 15191) (.cons (.call (.glob 9039943730525302719) (.cons (.var 253056312) (.cons (.call (.glob 8350937765289675702) (.cons (.bin .sub (.attr (.var 253107394) 1745597) (.cst (.int 2))) (.cons (.var 15191) .nil))) .nil))) .nil)))) .nil))) .nil) .nil) (.cons (.ife (.andE (.cmp (.attr (.var 253107394) 14689) (.one .eq (.glob 698045809012978434836))) (.andE (.cmp (.var 15191) (.one .lt (.call (.glob 1860418) (.cons (.var 253189449) .nil)))) (.call (.glob 8965653572193319233) (.cons (.tup (.cons (.attr (.var 253107394) 2011477) (.cons (.attr (.var 253107394) 227146788) (.cons (.attr (.var 253107394) 7806419509700087986) .nil)))) (.cons (.sub (.var 253189449) (.var 15191)) .nil))))) (.cons (.ret (.lst (.cons (.tup (.cons (.attr (.var 253107394) 1962331) (.cons (.bin .add (.var 15191) (.cst (.int 1))) (.cons (.var 253056312) .nil)))) .nil))) .nil) .nil) (.cons (.ret (.lst .nil)) .nil)))
@[irreducible] noncomputable def zGx:CSs:=(.cons (.expr (.meth (.var 252889903) 3638987581326 (.cons (.rev (.call (.glob 8968589649808350543) (.cons (.sub (.var 32376161590) (.var 4136611441551)) (.cons (.var 15191) (.cons (.var 253056312) (.cons (.var 253189449) (.cons (.var 32341698207) .nil))))))) .nil))) .nil)
noncomputable def zVt:CSs:=(.cons (.asg (.attr (.var 222936110) 32341513866) (.lst .nil)) (.cons (.asg (.attr (.var 222936110) 4352065896212) (.cst (.bytes #[]))) (.cons (.asg (.attr (.var 222936110) 4640661148044596755148102409466918) (.cst (.bool false))) (.cons (.asg (.attr (.var 222936110) 8965708764269794395) (.cst .none)) .nil))))
@[irreducible] noncomputable def zLs:CSs:=(.cons (.asg (.swap [28209471649,1712705]) (.tup (.cons (.call (.glob 1007728412735072043432) (.cons (.attr (.var 32066903573) 32376161590) (.cons (.attr (.var 28482000420) 30967732746) (.cons (.var 253189449) (.cons (.var 32341698207) .nil))))) (.cons (.sub (.sub (.sub (.var 244219938) (.cst (.int 0))) (.cst (.int 2))) (.cst (.int 0))) .nil)))) (.cons (.ife (.sub (.sub (.var 244219938) (.cst (.int 0))) (.cst (.int 3))) (.cons (.ret (.cmp (.var 28209471649) (.one .eq (.var 1712705)))) .nil) .nil) (.cons (.ret (.cmp (.call (.glob 3636527441303) (.cons (.comp (.var 1695162) (.tup [1695162,253056312]) (.var 28209471649) .nil) .nil)) (.one .eq (.call (.glob 3636527441303) (.cons (.comp (.var 1695162) (.tup [1695162,253056312]) (.var 1712705) .nil) .nil))))) .nil)))
@[irreducible] def zHv:CSs:=(.cons (.asg (.attr (.var 32066903573) 253107527) (.cst (.int 1000))) (.cons (.asg (.nm (.one 28482000420)) (.call (.glob 70007884325057599) (.cons (.var 32066903573) (.cons (.sub (.sub (.var 244219938) (.cst (.int 0))) (.cst (.int 0))) (.cons (.call (.glob 1046454326422742070934) (.cons (.var 32066903573) (.cons (.cst (.int 0)) .nil))) .nil))))) (.cons (.asg (.nm (.one 225134396)) (.call (.glob 510443033226591) .nil)) (.cons (.asg (.attr3 (.var 225134396) 32376161590 (.var 225134396) 32648492339 (.var 225134396) 131322104223801899105978) (.tup (.cons (.attr (.var 32066903573) 32376161590) (.cons (.attr (.var 28482000420) 30967732746) (.cons (.attr (.var 28482000420) 30967732746) .nil))))) (.cons (.ife (.cmp (.call (.glob 320281018651823988000424012532) (.cons (.var 225134396) .nil)) (.one .ne (.lst .nil))) (.cons (.ret (.cst (.bool false))) .nil) .nil) zLs)))))
@[irreducible] noncomputable def zLy:CSs:=(.cons (.expr (.meth (.var 244219938) 3638987513726 (.cons (.tup (.cons (.var 220655771) (.cons (.var 28490354198) (.cons (.call (.glob 1165996963648393049889) (.cons (.var 32066789281) (.cons (.var 4172355774465) (.cons (.var 2011483) (.cons (.var 253189449) (.cons (.var 32341698207) .nil)))))) (.cons (.var 510831270252895) .nil))))) .nil))) .nil)
@[irreducible] def zLz:CSs:=(.cons (.asg (.nm (.one 510831270252895)) (.andE (.cmp (.comp (.var 1711813) (.one 1711813) (.var 30959396126) (.cons (.notE (.sub (.var 1711813) (.cst (.int 3)))) .nil)) (.one .eq (.lst .nil))) (.notE (.andE (.cmp (.var 32066789281) (.one .inn (.tup (.cons (.cst (.str 248515262)) (.cons (.cst (.str 250993736)) .nil))))) (.sub (.sub (.var 4172364345482) (.cst (.int 0))) (.cst (.int 1))))))) zLy)
@[irreducible] def zM0:CSs:=(.cons (.asg (.nm (.one 220655771)) (.call (.glob 1007031116914193801124) (.cons (.var 32066903573) (.cons (.var 238014145) (.cons (.call (.glob 1155339948352359783195) (.cons (.var 32066789281) (.cons (.var 4172364345482) .nil))) (.cons (.var 32066789281) (.cons (.var 32376143279) (.cons (.var 2011483) (.cons (.cmp (.var 474219854675971) (.one .eq (.cst (.int 1)))) .nil))))))))) (.cons (.asg (.nm (.one 28490354198)) (.call (.glob 1017762394540301816733) (.cons (.var 32066789281) (.cons (.var 4172364345482) .nil)))) (.cons (.ife (.orE (.isN true (.var 220655771)) (.cmp (.tup (.cons (.cmp (.attr (.var 220655771) 30967732746) (.one .eq (.cst (.int 0)))) (.cons (.attr (.var 220655771) 131251851267392784618517) .nil))) (.one .ne (.var 28490354198)))) (.cons (.ret (.cst (.bool false))) .nil) .nil) zLz)))
@[irreducible] def zM1:CSs:=(.cons (.asg (.swap [30959396126,244219938]) (.tup (.cons (.slc (.var 244219938) (.bin .sub (.call (.glob 1860418) (.cons (.var 244219938) .nil)) (.var 263755961)) (.cst .none)) (.cons (.slc (.var 244219938) (.cst .none) (.bin .sub (.call (.glob 1860418) (.cons (.var 244219938) .nil)) (.var 263755961))) .nil)))) (.cons (.asg (.nm (.one 4172364345482)) (.comp (.sub (.var 1711813) (.cst (.int 1))) (.one 1711813) (.var 30959396126) .nil)) (.cons (.asg (.swap [32376143279,4172355774465]) (.tup (.cons (.comp (.sub (.var 1711813) (.cst (.int 0))) (.one 1711813) (.var 30959396126) .nil) (.cons (.comp (.sub (.var 1711813) (.cst (.int 2))) (.one 1711813) (.var 30959396126) .nil) .nil)))) zM0)))
@[irreducible] def zLx:CSs:=(.cons (.asg (.nm (.one 263755961)) (.meth (.var 129906622853851102991730) 1960259 (.cons (.var 32066789281) (.cons (.cst (.int 0)) .nil)))) (.cons (.ife (.cmp (.var 263755961) (.one .gt (.call (.glob 1860418) (.cons (.var 244219938) .nil)))) (.cons (.asg (.nm (.tup [32066789281,263755961])) (.tup (.cons (.cst (.str 28471249426)) (.cons (.cst (.int 0)) .nil)))) .nil) .nil) zM1))
@[irreducible] def zOx:CSs:=(.cons (.asg (.nm (.tup [32066789281,238014145,2011483])) (.ite (.cmp (.var 4175940780565) (.one .ne (.lst .nil))) (.meth (.var 4175940780565) 1894994 (.cons (.cst (.int 0)) .nil)) (.tup (.cons (.cst (.str 1959739)) (.cons (.cst (.int 0)) (.cons (.tup (.cons (.cst (.bool false)) (.cons (.sub (.var 1156415915808219961899) (.cst (.int 0))) (.cons (.tup (.cons (.cst (.int 0)) (.cons (.cst (.int 1)) .nil))) (.cons (.cst (.int 1)) .nil))))) .nil)))))) zLx)
@[irreducible] def zLt:CSs:=(.cons (.whl (.orE (.cmp (.var 4175940780565) (.one .ne (.lst .nil))) (.cmp (.call (.glob 1860418) (.cons (.var 244219938) .nil)) (.one .gt (.cst (.int 1))))) zOx) zHv)
@[irreducible] noncomputable def zOw:CSs:=(.cons (.asg (.nm (.tup [218676522,248645936,263955652,238014145,31547473586,250976694])) (.call (.glob 149197441734739796308497) (.cons (.var 235816228) (.cons (.lst (.cons (.cst (.int 16)) (.cons (.cst (.int 7)) (.cons (.cst (.int 2)) (.cons (.cst (.int 4)) (.cons (.cst (.int 2)) (.cons (.cst (.int 10)) .nil))))))) .nil)))) (.cons (.asg (.nm (.one 32376094778)) (.sub (.lst (.cons (.tup (.cons (.bin .mul (.cst (.int 2)) (.var 31547473586)) (.cons (.bin .add (.bin .mul (.cst (.int 2)) (.var 31547473586)) (.cst (.int 1))) .nil))) (.cons (.tup (.cons (.bin .add (.bin .mul (.cst (.int 2)) (.var 31547473586)) (.cst (.int 1))) (.cons (.bin .mul (.cst (.int 2)) (.var 31547473586)) .nil))) .nil))) (.var 474219854675971))) (.cons (.asg (.nm (.one 2011483)) (.tup (.cons (.cmp (.var 263955652) (.one .eq (.cst (.int 1)))) (.cons (.sub (.var 1156415915808219961899) (.var 248645936)) (.cons (.var 32376094778) (.cons (.sub (.var 1007032309778334464532) (.var 250976694)) .nil)))))) (.cons (.expr (.meth (.var 4175940780565) 3638987513726 (.cons (.tup (.cons (.sub (.var 149177348187315714245916) (.var 218676522)) (.cons (.ite (.cmp (.var 238014145) (.one .eq (.cst (.int 3)))) (.cst (.int 1000)) (.var 238014145)) (.cons (.var 2011483) .nil)))) .nil))) .nil))))
@[irreducible] def zLu:CSs:=(.cons (.asg (.swap [32066903573,244219938,4175940780565]) (.tup (.cons (.call (.glob 32066903541) (.cons (.cst (.int 1)) .nil)) (.cons (.lst .nil) (.cons (.lst .nil) .nil))))) (.cons (.forS (.one 235816228) (.slc (.var 32358870424) (.cst (.int 2)) (.cst .none)) zOw) zLt))
@[irreducible] def zLv:CSs:=(.cons (.asg (.nm (.tup [474219854675971,3783545516296])) (.call (.glob 149197441734739796308497) (.cons (.sub (.var 32358870424) (.cst (.int 0))) (.cons (.lst (.cons (.cst (.int 2)) (.cons (.cst (.int 5)) .nil))) .nil)))) (.cons (.asg (.nm (.one 253189449)) (.call (.glob 32343979308) (.cons (.comp (.sub (.var 149197142690429954922783) (.var 32629270550)) (.one 32629270550) (.call (.glob 149197441734739796308497) (.cons (.bin .fdiv (.sub (.var 32358870424) (.cst (.int 0))) (.cst (.int 10))) (.cons (.bin .mul (.lst (.cons (.cst (.int 6)) .nil)) (.var 3783545516296)) .nil))) .nil) .nil))) (.cons (.asg (.nm (.one 32341698207)) (.call (.glob 149197441734739796308497) (.cons (.sub (.var 32358870424) (.cst (.int 1))) (.cons (.bin .mul (.lst (.cons (.cst (.int 64)) .nil)) (.cst (.int 5))) .nil)))) zLu)))
@[irreducible] def zLw:CSs:=(.cons (.asg (.nm (.one 32358870424)) (.comp (.bin .mod (.call (.glob 1961422) (.cons (.var 235816228) .nil)) (.bin .pow (.cst (.int 10)) (.cst (.int 12)))) (.one 235816228) (.slc (.var 4211118804251) (.cst .none) (.cst (.int 12))) .nil)) (.cons (.asg (.nm (.one 32358870424)) (.bin .add (.var 32358870424) (.slc (.var 9041727382494137289) (.call (.glob 1860418) (.cons (.var 32358870424) .nil)) (.cst .none)))) zLv))
noncomputable def zGb:CSs:=(.cons (.asg (.attr (.var 222936110) 218644023) (.var 218644023)) .nil)
noncomputable def zJ2:CSs:=(.cons (.asg (.attr (.var 222936110) 14689) (.var 14689)) (.cons (.asg (.attr (.var 222936110) 1962331) (.var 1962331)) (.cons (.asg (.attr (.var 222936110) 1745597) (.var 1745597)) (.cons (.asg (.attr (.var 222936110) 2011477) (.var 2011477)) (.cons (.asg (.attr (.var 222936110) 227146788) (.var 227146788)) (.cons (.asg (.attr (.var 222936110) 7806419509700087986) (.var 7806419509700087986)) (.cons (.asg (.attr (.var 222936110) 543339266573686) (.cst (.bool false))) .nil)))))))
def zFd:CSs:=(.cons (.asg (.attr (.var 222936110) 32376161590) (.lst (.cons (.call (.glob 253107362) (.cons (.glob 5949141005194406978) .nil)) .nil))) (.cons (.asg (.attr (.var 222936110) 32648492339) (.cst (.int 0))) (.cons (.asg (.attr (.var 222936110) 131322104223801899105978) (.cst (.int 0))) (.cons (.asg (.attr (.var 222936110) 129907780876443790661926) (.cst (.bool false))) (.cons (.asg (.attr (.var 222936110) 693329460861025571136594217707607069) (.cst (.bool false))) (.cons (.asg (.attr (.var 222936110) 35998791720882497672107593410212) (.cst (.bool false))) (.cons (.asg (.attr (.var 222936110) 542699284915561) (.cst (.bool false))) zVt)))))))
noncomputable def zEq:CSs:=(.cons (.asg (.nm (.one 28209471649)) (.lst (.cons (.cst (.int 0)) .nil))) (.cons (.forS (.one 4136611441551) (.call (.glob 28471249426) (.cons (.bin .sub (.call (.glob 1860418) (.cons (.attr (.var 225134396) 32376161590) .nil)) (.cst (.int 1))) .nil)) (.cons (.ife (.attr (.sub (.attr (.var 225134396) 32376161590) (.var 4136611441551)) 543339266573686) (.cons (.expr (.meth (.var 28209471649) 3638987513726 (.cons (.bin .add (.var 4136611441551) (.cst (.int 1))) .nil))) .nil) .nil) .nil)) (.cons (.ret (.var 28209471649)) .nil)))
noncomputable def zH9:CSs:=(.cons (.ife (.andE (.cmp (.attr (.var 253107394) 14689) (.one .eq (.glob 698045809012978434836))) (.notE (.cmp (.cst (.int 0)) (.cons .le (.attr (.var 253107394) 2011477) (.cons .le (.attr (.var 253107394) 227146788) (.one .le (.cst (.int 255)))))))) (.cons (.ret (.cst (.str 10066810740840042778421732090246202300733))) .nil) .nil) (.cons (.ife (.andE (.cmp (.attr (.var 253107394) 14689) (.one .eq (.glob 11630288511819499376935229))) (.cmp (.attr (.var 253107394) 1745597) (.one .lt (.cst (.int 2))))) (.cons (.ret (.cst (.str 669948021656738298881476131437297008))) .nil) .nil) (.cons (.ife (.andE (.cmp (.attr (.var 253107394) 14689) (.one .eq (.glob 896894582063802735542))) (.orE (.cmp (.attr (.var 253107394) 1745597) (.one .eq (.cst (.int 0)))) (.cmp (.bin .band (.attr (.var 253107394) 1745597) (.glob 5950925298516583888)) (.one .ne (.attr (.var 253107394) 1745597))))) (.cons (.ret (.cst (.str 3520519398056387884255916018911438404070515456640361134999536078892057))) .nil) .nil) (.cons (.ife (.andE (.cmp (.attr (.var 253107394) 14689) (.one .eq (.glob 727420221652351404308))) (.cmp (.attr (.var 253107394) 1745597) (.one .lt (.cst (.int 0))))) (.cons (.ret (.cst (.str 281801533636894515556852462615))) .nil) .nil) (.cons (.ret (.cst .none)) .nil)))))
noncomputable def zCp:CSs:=(.cons (.asg (.nm (.one 253107394)) (.sub (.attr (.var 225134396) 32376161590) (.var 4136611441551))) (.cons (.ife (.cmp (.attr (.var 253107394) 14689) (.one .inn (.tup (.cons (.glob 727420221652351404308) (.cons (.glob 5949141005194406978) .nil))))) (.cons (.ret (.cst .none)) .nil) .nil) (.cons (.forS (.one 2042964) (.ite (.cmp (.attr (.var 253107394) 14689) (.one .eq (.glob 50886942273647366))) (.lst (.cons (.attr (.var 253107394) 1962331) (.cons (.attr (.var 253107394) 1745597) .nil))) (.lst (.cons (.attr (.var 253107394) 1962331) .nil))) (.cons (.ife (.notE (.cmp (.cst (.int 0)) (.cons .le (.var 2042964) (.one .lt (.call (.glob 1860418) (.cons (.attr (.var 225134396) 32376161590) .nil)))))) (.cons (.ret (.cst (.str 831268812013831688987650406176980637254135795199950018439))) .nil) .nil) (.cons (.ife (.andE (.attr (.var 225134396) 542699284915561) (.cmp (.var 2042964) (.one .nin (.var 32341513866)))) (.cons (.ret (.cst (.str 1488466607305098176764717288870929640542289))) .nil) .nil) .nil))) (.cons (.ret (.cst .none)) .nil))))
noncomputable def zEb:CSs:=(.cons (.asg (.nm (.one 28209471649)) (.lst .nil)) (.cons (.ife (.orE (.cmp (.attr (.var 225134396) 32376161590) (.one .eq (.lst .nil))) (.cmp (.attr (.sub (.attr (.var 225134396) 32376161590) (.cst (.int 0))) 14689) (.one .ne (.glob 5949141005194406978)))) (.cons (.ret (.lst (.cons (.cst (.str 16297481443411017325912024699275285678802941088)) .nil))) .nil) .nil) (.cons (.asg (.nm (.one 218644023)) (.call (.glob 2480150453382738628956535913) (.cons (.var 225134396) .nil))) (.cons (.asg (.nm (.one 32341513866)) (.dct [])) (.cons (.forS (.one 4136611441551) (.var 218644023) (.cons (.asg (.sub (.var 32341513866) (.var 4136611441551)) (.cst (.bool true))) .nil)) (.cons (.forS (.one 4136611441551) (.call (.glob 28471249426) (.cons (.call (.glob 1860418) (.cons (.attr (.var 225134396) 32376161590) .nil)) .nil)) (.cons (.asg (.nm (.one 253107394)) (.sub (.attr (.var 225134396) 32376161590) (.var 4136611441551))) (.cons (.forS (.one 32635942561) (.tup (.cons (.call (.glob 1165855461747238037059) (.cons (.var 253107394) .nil)) (.cons (.call (.glob 89405120735668294995197066550787540520) (.cons (.var 225134396) (.cons (.var 4136611441551) (.cons (.var 32341513866) .nil)))) .nil))) (.cons (.ife (.isN false (.var 32635942561)) (.cons (.expr (.meth (.var 28209471649) 3638987513726 (.cons (.bin .add (.bin .add (.call (.glob 1928924) (.cons (.var 4136611441551) .nil)) (.cst (.str 4316))) (.var 32635942561)) .nil))) .nil) .nil) .nil)) (.cons (.ife (.andE (.attr (.var 225134396) 542699284915561) (.cmp (.attr (.var 253107394) 14689) (.one .eq (.glob 50886942273647366)))) (.cons (.expr (.meth (.var 28209471649) 3638987513726 (.cons (.bin .add (.call (.glob 1928924) (.cons (.var 4136611441551) .nil)) (.cst (.str 89445742882344700055161980646999954064))) .nil))) .nil) .nil) .nil)))) (.cons (.forS (.one 4136611441551) (.tup (.cons (.attr (.var 225134396) 32648492339) (.cons (.attr (.var 225134396) 131322104223801899105978) .nil))) (.cons (.ife (.orE (.notE (.cmp (.cst (.int 0)) (.cons .le (.var 4136611441551) (.one .lt (.call (.glob 1860418) (.cons (.attr (.var 225134396) 32376161590) .nil)))))) (.andE (.attr (.var 225134396) 542699284915561) (.cmp (.var 4136611441551) (.one .nin (.var 32341513866))))) (.cons (.expr (.meth (.var 28209471649) 3638987513726 (.cons (.cst (.str 1298618585573286975889542179503106193032672)) .nil))) .nil) .nil) .nil)) (.cons (.ife (.andE (.attr (.var 225134396) 542699284915561) (.orE (.cmp (.attr (.var 225134396) 32341513866) (.one .ne (.var 218644023))) (.notE (.attr (.sub (.attr (.var 225134396) 32376161590) (.neg 1)) 543339266573686)))) (.cons (.expr (.meth (.var 28209471649) 3638987513726 (.cons (.cst (.str 7146976977455851823670719111642874358239225229721646742)) .nil))) .nil) .nil) (.cons (.ret (.var 28209471649)) .nil)))))))))
noncomputable def zCd:CSs:=(.cons (.asg (.attr (.var 222936110) 30967732746) (.var 30967732746)) (.cons (.asg (.attr (.var 222936110) 250711086) (.var 250711086)) (.cons (.asg (.attr (.var 222936110) 131251851267392784618517) (.var 131251851267392784618517)) .nil)))
noncomputable def zHd:CSs:=(.cons (.asg (.attr (.var 222936110) 253107527) (.var 253107527)) (.cons (.asg (.attr (.var 222936110) 32376161590) (.lst (.cons (.call (.glob 253107362) (.cons (.glob 5949141005194406978) .nil)) .nil))) .nil))
noncomputable def yA7:CSs:=(.cons (.ife (.cmp (.bin .add (.call (.glob 1860418) (.cons (.attr (.var 222936110) 32376161590) .nil)) (.var 263755961)) (.one .gt (.attr (.var 222936110) 253107527))) (.cons (.raiseT (.attr (.var 222936110) 253107527)) .nil) .nil) .nil)
noncomputable def yHd:CSs:=(.cons (.expr (.meth (.var 222936110) 218526240 (.cons (.cst (.int 1)) .nil))) (.cons (.expr (.meth (.attr (.var 222936110) 32376161590) 3638987513726 (.cons (.call (.glob 253107362) (.cons (.var 14689) .nil)) .nil))) (.cons (.ret (.bin .sub (.call (.glob 1860418) (.cons (.attr (.var 222936110) 32376161590) .nil)) (.cst (.int 1)))) .nil)))
noncomputable def yHc:CSs:=(.cons (.asg (.nm (.one 253107394)) (.sub (.attr (.var 222936110) 32376161590) (.bin .fdiv (.var 233768879) (.cst (.int 2))))) (.cons (.ret (.ite (.cmp (.bin .mod (.var 233768879) (.cst (.int 2))) (.one .eq (.cst (.int 0)))) (.attr (.var 253107394) 1962331) (.attr (.var 253107394) 1745597))) .nil))
noncomputable def yA8:CSs:=(.cons (.asg (.nm (.one 253107394)) (.sub (.attr (.var 222936110) 32376161590) (.bin .fdiv (.var 233768879) (.cst (.int 2))))) (.cons (.ife (.cmp (.bin .mod (.var 233768879) (.cst (.int 2))) (.one .eq (.cst (.int 0)))) (.cons (.asg (.attr (.var 253107394) 1962331) (.var 28501269794)) .nil) (.cons (.asg (.attr (.var 253107394) 1745597) (.var 28501269794)) .nil)) .nil))
noncomputable def zVu:CSs:=(.cons (.asg (.nm (.one 233768879)) (.sub (.var 250711086) (.cst (.int 0)))) (.cons (.whl (.cmp (.var 233768879) (.one .ne (.cst (.int 0)))) (.cons (.asg (.nm (.one 3638995965936)) (.meth (.var 222936110) 2042964 (.cons (.var 233768879) .nil))) (.cons (.expr (.meth (.var 222936110) 218459674 (.cons (.var 233768879) (.cons (.var 4208068358925) .nil)))) (.cons (.asg (.nm (.one 233768879)) (.var 3638995965936)) .nil)))) .nil))
noncomputable def zQd:CSs:=(.cons (.ife (.cmp (.sub (.var 1711813) (.cst (.int 0))) (.one .eq (.cst (.int 0)))) (.cons (.ret (.var 32066856103)) .nil) .nil) (.cons (.ife (.cmp (.sub (.var 32066856103) (.cst (.int 0))) (.one .eq (.cst (.int 0)))) (.cons (.ret (.var 1711813)) .nil) .nil) (.cons (.expr (.meth (.var 222936110) 218459674 (.cons (.sub (.var 1711813) (.cst (.int 1))) (.cons (.sub (.var 32066856103) (.cst (.int 0))) .nil)))) (.cons (.ret (.tup (.cons (.sub (.var 1711813) (.cst (.int 0))) (.cons (.sub (.var 32066856103) (.cst (.int 1))) .nil)))) .nil))))
noncomputable def zK7:CSs:=(.cons (.ret (.tup (.cons (.var 233768879) (.cons (.var 233768879) .nil)))) .nil)
noncomputable def zJ1:CSs:=(.cons (.ret (.call (.glob 224901380) (.cons (.cst (.int 0)) .nil))) .nil)
noncomputable def zFc:CSs:=(.cons (.ret (.cmp (.attr (.var 224901412) 30967732746) (.one .eq (.cst (.int 0))))) .nil)
noncomputable def zK4:CSs:=(.cons (.asg (.nm (.one 4136611441551)) (.meth (.var 32066903573) 2010189 (.cons (.glob 48523362284342930) .nil))) (.cons (.ret (.call (.glob 224901380) (.cons (.var 4136611441551) (.cons (.call (.glob 61151211047737299) (.cons (.bin .mul (.var 4136611441551) (.cst (.int 2))) .nil)) (.cons (.cst (.bool true)) .nil))))) .nil))
noncomputable def zG9:CSs:=(.cons (.ret (.andE (.cmp (.attr (.sub (.attr (.var 32066903573) 32376161590) (.attr (.var 224901412) 30967732746)) 14689) (.one .eq (.glob 48523362284342930))) (.cmp (.attr (.var 224901412) 250711086) (.one .eq (.call (.glob 61151211047737299) (.cons (.bin .mul (.attr (.var 224901412) 30967732746) (.cst (.int 2))) .nil)))))) .nil)
noncomputable def zEr:CSs:=(.cons (.asg (.nm (.one 4136611441551)) (.meth (.var 32066903573) 2010189 (.cons (.glob 698045809012978434836) .nil))) (.cons (.asg (.nm (.one 253107394)) (.sub (.attr (.var 32066903573) 32376161590) (.var 4136611441551))) (.cons (.asg (.attr (.var 253107394) 2011477) (.var 2011477)) (.cons (.asg (.attr (.var 253107394) 227146788) (.var 227146788)) (.cons (.asg (.attr (.var 253107394) 7806419509700087986) (.var 7806419509700087986)) (.cons (.ret (.call (.glob 224901380) (.cons (.var 4136611441551) (.cons (.call (.glob 61151211047737299) (.cons (.bin .mul (.var 4136611441551) (.cst (.int 2))) .nil)) .nil)))) .nil))))))
noncomputable def zHc:CSs:=(.cons (.asg (.nm (.one 4136611441551)) (.meth (.var 32066903573) 2010189 (.cons (.glob 896894582063802735542) .nil))) (.cons (.asg (.attr (.sub (.attr (.var 32066903573) 32376161590) (.var 4136611441551)) 1745597) (.var 250976694)) (.cons (.ret (.call (.glob 224901380) (.cons (.var 4136611441551) (.cons (.call (.glob 61151211047737299) (.cons (.bin .mul (.var 4136611441551) (.cst (.int 2))) .nil)) (.cons (.cst (.bool true)) .nil))))) .nil)))
noncomputable def zHb:CSs:=(.cons (.asg (.nm (.one 4136611441551)) (.meth (.var 32066903573) 2010189 (.cons (.glob 727420221652351404308) .nil))) (.cons (.asg (.attr (.sub (.attr (.var 32066903573) 32376161590) (.var 4136611441551)) 1745597) (.var 60533133266329793)) (.cons (.ret (.call (.glob 224901380) (.cons (.var 4136611441551) .nil))) .nil)))
noncomputable def zK5:CSs:=(.cons (.ife (.orE (.call (.glob 16934170678452269693567350) (.cons (.var 1711813) .nil)) (.call (.glob 16934170678452269693567350) (.cons (.var 32066856103) .nil))) (.cons (.expr (.meth (.var 32066903573) 29293531157 (.cons (.attr (.var 1711813) 250711086) (.cons (.cst (.int 0)) .nil)))) (.cons (.expr (.meth (.var 32066903573) 29293531157 (.cons (.attr (.var 32066856103) 250711086) (.cons (.cst (.int 0)) .nil)))) (.cons (.ret (.call (.glob 7888506755471654200) .nil)) .nil))) .nil) (.cons (.expr (.meth (.var 32066903573) 29293531157 (.cons (.attr (.var 1711813) 250711086) (.cons (.attr (.var 32066856103) 30967732746) .nil)))) (.cons (.ife (.call (.glob 145319948547417671358994) (.cons (.var 32066903573) (.cons (.var 1711813) .nil))) (.cons (.ret (.var 32066856103)) .nil) .nil) (.cons (.ret (.call (.glob 224901380) (.cons (.attr (.var 1711813) 30967732746) (.cons (.attr (.var 32066856103) 250711086) (.cons (.andE (.attr (.var 1711813) 131251851267392784618517) (.attr (.var 32066856103) 131251851267392784618517)) .nil))))) .nil))))
noncomputable def zK6:CSs:=(.cons (.ife (.call (.glob 16934170678452269693567350) (.cons (.var 1711813) .nil)) (.cons (.ret (.var 32066856103)) .nil) .nil) (.cons (.ife (.call (.glob 16934170678452269693567350) (.cons (.var 32066856103) .nil)) (.cons (.ret (.var 1711813)) .nil) .nil) (.cons (.asg (.nm (.one 4136611441551)) (.meth (.var 32066903573) 2010189 (.cons (.glob 50886942273647366) .nil))) (.cons (.asg (.nm (.one 253107394)) (.sub (.attr (.var 32066903573) 32376161590) (.var 4136611441551))) (.cons (.asg (.attr (.var 253107394) 1962331) (.attr (.var 1711813) 30967732746)) (.cons (.asg (.attr (.var 253107394) 1745597) (.attr (.var 32066856103) 30967732746)) (.cons (.ret (.call (.glob 224901380) (.cons (.var 4136611441551) (.cons (.meth (.var 32066903573) 3636514411391 (.cons (.attr (.var 1711813) 250711086) (.cons (.attr (.var 32066856103) 250711086) .nil))) (.cons (.orE (.attr (.var 1711813) 131251851267392784618517) (.attr (.var 32066856103) 131251851267392784618517)) .nil))))) .nil)))))))
noncomputable def zGa:CSs:=(.cons (.asg (.nm (.one 4136611441551)) (.meth (.var 32066903573) 2010189 (.cons (.glob 50886942273647366) .nil))) (.cons (.asg (.nm (.one 253107394)) (.sub (.attr (.var 32066903573) 32376161590) (.var 4136611441551))) (.cons (.ife (.var 566630696248834) (.cons (.asg (.attr (.var 253107394) 1745597) (.var 30967732746)) (.cons (.ret (.tup (.cons (.var 4136611441551) (.cons (.call (.glob 61151211047737299) (.cons (.bin .mul (.var 4136611441551) (.cst (.int 2))) .nil)) .nil)))) .nil)) .nil) (.cons (.asg (.attr (.var 253107394) 1962331) (.var 30967732746)) (.cons (.ret (.tup (.cons (.var 4136611441551) (.cons (.call (.glob 61151211047737299) (.cons (.bin .add (.bin .mul (.var 4136611441551) (.cst (.int 2))) (.cst (.int 1))) .nil)) .nil)))) .nil)))))
noncomputable def zJ0:CSs:=(.cons (.ife (.call (.glob 16934170678452269693567350) (.cons (.var 224901412) .nil)) (.cons (.ret (.call (.glob 7888506755471654200) .nil)) .nil) .nil) (.cons (.asg (.nm (.tup [4136611441551,253105724])) (.call (.glob 131163363601721683534069) (.cons (.var 32066903573) (.cons (.attr (.var 224901412) 30967732746) (.cons (.var 566630696248834) .nil))))) (.cons (.expr (.meth (.var 32066903573) 29293531157 (.cons (.attr (.var 224901412) 250711086) (.cons (.var 4136611441551) .nil)))) (.cons (.ret (.call (.glob 224901380) (.cons (.attr (.var 224901412) 30967732746) (.cons (.var 253105724) (.cons (.attr (.var 224901412) 131251851267392784618517) .nil))))) .nil))))
noncomputable def zHa:CSs:=(.cons (.ife (.call (.glob 16934170678452269693567350) (.cons (.var 224901412) .nil)) (.cons (.ret (.call (.glob 67694923899939796) (.cons (.var 32066903573) .nil))) .nil) .nil) (.cons (.asg (.nm (.tup [4136611441551,253105724])) (.call (.glob 131163363601721683534069) (.cons (.var 32066903573) (.cons (.attr (.var 224901412) 30967732746) (.cons (.var 566630696248834) .nil))))) (.cons (.ret (.call (.glob 224901380) (.cons (.var 4136611441551) (.cons (.meth (.var 32066903573) 3636514411391 (.cons (.var 253105724) (.cons (.attr (.var 224901412) 250711086) .nil))) (.cons (.cst (.bool true)) .nil))))) .nil)))
noncomputable def zIz:CSs:=(.cons (.ife (.call (.glob 16934170678452269693567350) (.cons (.var 224901412) .nil)) (.cons (.ret (.call (.glob 67694923899939796) (.cons (.var 32066903573) .nil))) .nil) .nil) (.cons (.ife (.attr (.var 224901412) 131251851267392784618517) (.cons (.expr (.meth (.var 32066903573) 218526240 (.cons (.cst (.int 2)) .nil))) (.cons (.ret (.call (.glob 1166382846802946178619) (.cons (.var 32066903573) (.cons (.call (.glob 8966262221512968652) (.cons (.var 32066903573) (.cons (.var 224901412) (.cons (.var 566630696248834) .nil)))) (.cons (.var 566630696248834) .nil))))) .nil)) .nil) (.cons (.asg (.nm (.tup [4136611441551,253105724])) (.call (.glob 131163363601721683534069) (.cons (.var 32066903573) (.cons (.attr (.var 224901412) 30967732746) (.cons (.var 566630696248834) .nil))))) (.cons (.expr (.meth (.var 32066903573) 29293531157 (.cons (.attr (.var 224901412) 250711086) (.cons (.var 4136611441551) .nil)))) (.cons (.ret (.call (.glob 224901380) (.cons (.var 4136611441551) (.cons (.var 253105724) (.cons (.cst (.bool true)) .nil))))) .nil)))))
def zDf:CSs:=(.cons (.ife (.call (.glob 16934170678452269693567350) (.cons (.var 224901412) .nil)) (.cons (.ret (.call (.glob 7888506755471654200) .nil)) .nil) .nil) (.cons (.expr (.meth (.var 32066903573) 218526240 (.cons (.cst (.int 2)) .nil))) (.cons (.asg (.swap [28181297528,3638995965936]) (.tup (.cons (.meth (.var 32066903573) 2010189 (.cons (.glob 11630288511819499376935229) .nil)) (.cons (.meth (.var 32066903573) 2010189 (.cons (.glob 11630288511819499376935229) .nil)) .nil)))) zZ6)))
noncomputable def zJz:CSs:=(.cons (.ret (.tup (.cons (.neg 1) (.cons (.neg 1) (.cons (.neg 1) (.cons (.neg 1) .nil)))))) .nil)
noncomputable def zH8:CSs:=(.cons (.asg (.nm (.one 28209471649)) (.lst .nil)) (.cons (.forS (.one 220905375) (.var 32343959571) (.cons (.expr (.meth (.var 28209471649) 3638987513726 (.cons (.bin .mod (.var 4136611441551) (.var 220905375)) .nil))) (.cons (.asg (.nm (.one 4136611441551)) (.bin .fdiv (.var 4136611441551) (.var 220905375))) .nil))) (.cons (.ret (.var 28209471649)) .nil)))
noncomputable def zK3:CSs:=(.cons (.asg (.nm (.one 30420228254)) (.ite (.andE (.sub (.var 248645936) (.cst (.int 2))) (.cmp (.cst (.int 65)) (.cons .le (.var 32620899364) (.one .le (.cst (.int 90)))))) (.bin .add (.var 32620899364) (.cst (.int 32))) (.var 32620899364))) (.cons (.ret (.cmp (.sub (.var 248645936) (.cst (.int 0))) (.cons .le (.var 30420228254) (.one .le (.sub (.var 248645936) (.cst (.int 1))))))) .nil))
noncomputable def zIy:CSs:=(.cons (.asg (.swap [28209471649,1960265]) (.tup (.cons (.lst .nil) (.cons (.dct []) .nil)))) (.cons (.forS (.tup [1695162,253056312]) (.var 251058888) (.cons (.ife (.cmp (.var 1695162) (.one .nin (.var 1960265))) (.cons (.asg (.sub (.var 1960265) (.var 1695162)) (.cst (.bool true))) (.cons (.expr (.meth (.var 28209471649) 3638987513726 (.cons (.tup (.cons (.var 1695162) (.cons (.var 253056312) .nil))) .nil))) .nil)) .nil) .nil)) (.cons (.ret (.var 28209471649)) .nil)))
noncomputable def zK2:CSs:=(.cons (.ret (.call (.glob 28482018735) (.cons (.compZ (.ite (.cmp (.var 2010189) (.one .ge (.cst (.int 0)))) (.var 2010189) (.var 1694914)) (.tup [1694914,2010189]) (.var 1711813) (.var 32066856103)) .nil))) .nil)
noncomputable def zK0:CSs:=(.cons (.ret (.call (.glob 28482018735) (.cons (.comp (.ite (.cmp (.var 4136611441551) (.one .eq (.var 253040582))) (.var 15191) (.neg 1)) (.one 4136611441551) (.call (.glob 28471249426) (.cons (.cst (.int 4)) .nil)) .nil) .nil))) .nil)
noncomputable def zIw:CSs:=(.cons (.asg (.swap [28181297528,28209471649]) (.tup (.cons (.call (.glob 8350937765289675702) (.cons (.sub (.var 32376094778) (.cst (.int 0))) (.cons (.var 15191) .nil))) (.cons (.lst .nil) .nil)))) (.cons (.forS (.tup [1695162,253056312]) (.var 251058888) (.cons (.expr (.meth (.var 28209471649) 3638987513726 (.cons (.tup (.cons (.var 1695162) (.cons (.call (.glob 9039943730525302719) (.cons (.call (.glob 9039943730525302719) (.cons (.var 28181297528) (.cons (.var 253056312) .nil))) (.cons (.call (.glob 8350937765289675702) (.cons (.sub (.var 32376094778) (.cst (.int 1))) (.cons (.var 1695162) .nil))) .nil))) .nil))) .nil))) .nil)) (.cons (.ret (.var 28209471649)) .nil)))
noncomputable def zH7:CSs:=(.cons (.asg (.nm (.one 28209471649)) (.lst .nil)) (.cons (.forS (.tup [222935583,253056312]) (.var 251058888) (.cons (.expr (.meth (.var 28209471649) 3638987581326 (.cons (.comp (.tup (.cons (.var 1695162) (.cons (.call (.glob 9039943730525302719) (.cons (.var 253056312) (.cons (.var 220890551) .nil))) .nil))) (.tup [1695162,220890551]) (.sub (.var 28481783181) (.var 222935583)) .nil) .nil))) .nil)) (.cons (.ret (.call (.glob 1166390519185675387188) (.cons (.var 28209471649) .nil))) .nil)))
def zIv:CSs:=(.cons (.asg (.nm (.one 28209471649)) (.comp (.lst .nil) (.one 251058888) (.var 28481783181) .nil)) (.cons (.forS (.one 15191) (.call (.glob 28471249426) (.cons (.bin .sub (.call (.glob 1860418) (.cons (.var 28481783181) .nil)) (.cst (.int 1))) (.cons (.neg 1) (.cons (.neg 1) .nil)))) (.cons (.asg (.nm (.one 3636518804617)) (.lst .nil)) (.cons (.forS (.tup [1695162,253056312]) (.sub (.var 28481783181) (.var 15191)) (.cons (.asg (.nm (.one 220890551)) (.ite (.cmp (.var 1695162) (.one .gt (.var 15191))) (.call (.glob 129907392140480370777990) (.cons (.lst (.cons (.tup (.cons (.var 1695162) (.cons (.var 253056312) .nil))) .nil)) (.cons (.var 28209471649) .nil))) (.lst .nil))) zGw)) (.cons (.asg (.sub (.var 28209471649) (.var 15191)) (.call (.glob 1166390519185675387188) (.cons (.var 3636518804617) .nil))) .nil)))) (.cons (.ret (.var 28209471649)) .nil)))
def zIu:CSs:=(.cons (.asg (.nm (.tup [566630696248834,248645936,32376094778,250976694])) (.var 2011483)) (.cons (.asg (.nm (.one 4172336439038)) (.call (.glob 28471249426) (.cons (.bin .add (.call (.glob 1860418) (.cons (.var 253189449) .nil)) (.cst (.int 1))) .nil))) (.cons (.ife (.cmp (.var 32066789281) (.one .eq (.cst (.str 220823988)))) (.cons (.ret (.comp (.lst .nil) (.one 15191) (.var 4172336439038) .nil)) .nil) .nil) (.cons (.ife (.cmp (.var 32066789281) (.one .eq (.cst (.str 1894992)))) (.cons (.ret (.comp (.lst (.cons (.tup (.cons (.var 15191) (.cons (.call (.glob 7888506755506000443) .nil) .nil))) .nil)) (.one 15191) (.var 4172336439038) .nil)) .nil) .nil) (.cons (.ife (.cmp (.var 32066789281) (.one .eq (.cst (.str 34037648820)))) (.cons (.ret (.comp (.ite (.cmp (.bin .band (.sub (.var 32341698207) (.var 15191)) (.var 250976694)) (.one .eq (.var 250976694))) (.lst (.cons (.tup (.cons (.var 15191) (.cons (.call (.glob 7888506755506000443) .nil) .nil))) .nil)) (.lst .nil)) (.one 15191) (.var 4172336439038) .nil)) .nil) .nil) (.cons (.ife (.cmp (.var 32066789281) (.one .eq (.cst (.str 28471249426)))) (.cons (.ret (.comp (.ite (.andE (.cmp (.var 15191) (.one .lt (.call (.glob 1860418) (.cons (.var 253189449) .nil)))) (.call (.glob 8965653572193319233) (.cons (.var 248645936) (.cons (.sub (.var 253189449) (.var 15191)) .nil)))) (.lst (.cons (.tup (.cons (.bin .add (.var 15191) (.cst (.int 1))) (.cons (.call (.glob 7888506755506000443) .nil) .nil))) .nil)) (.lst .nil)) (.one 15191) (.var 4172336439038) .nil)) .nil) .nil) (.cons (.ife (.cmp (.var 32066789281) (.one .eq (.cst (.str 1959739)))) (.cons (.ret (.comp (.call (.glob 129907392140480370777990) (.cons (.sub (.sub (.var 4172355774465) (.cst (.int 0))) (.var 15191)) (.cons (.sub (.var 4172355774465) (.cst (.int 1))) .nil))) (.one 15191) (.var 4172336439038) .nil)) .nil) .nil) (.cons (.ife (.cmp (.var 32066789281) (.one .eq (.cst (.str 1961156)))) (.cons (.ret (.comp (.call (.glob 1166390519185675387188) (.cons (.bin .add (.sub (.sub (.var 4172355774465) (.cst (.int 0))) (.var 15191)) (.sub (.sub (.var 4172355774465) (.cst (.int 1))) (.var 15191))) .nil)) (.one 15191) (.var 4172336439038) .nil)) .nil) .nil) (.cons (.ife (.cmp (.var 32066789281) (.one .eq (.cst (.str 474184994492923)))) (.cons (.ret (.comp (.call (.glob 1126972028334985087545) (.cons (.sub (.sub (.var 4172355774465) (.cst (.int 0))) (.var 15191)) (.cons (.var 15191) (.cons (.var 32376094778) .nil)))) (.one 15191) (.var 4172336439038) .nil)) .nil) .nil) (.cons (.asg (.nm (.one 28481783181)) (.ite (.cmp (.var 32066789281) (.one .eq (.cst (.str 32650705719)))) (.sub (.var 4172355774465) (.cst (.int 0))) (.call (.glob 1156266174420931299129) (.cons (.sub (.var 4172355774465) (.cst (.int 0))) (.cons (.var 566630696248834) .nil))))) (.cons (.ife (.cmp (.var 32066789281) (.one .eq (.cst (.str 250993736)))) (.cons (.ret (.var 28481783181)) .nil) .nil) zGv)))))))))))
noncomputable def zIt:CSs:=(.cons (.asg (.nm (.one 474040427588338)) (.comp (.sub (.var 28490354198) (.cst (.int 0))) (.one 28490354198) (.var 4172364345482) .nil)) (.cons (.ife (.orE (.cmp (.var 32066789281) (.one .inn (.tup (.cons (.cst (.str 1959739)) (.cons (.cst (.str 220823988)) .nil))))) (.andE (.cmp (.var 32066789281) (.one .inn (.tup (.cons (.cst (.str 1961156)) (.cons (.cst (.str 250993736)) (.cons (.cst (.str 474184994492923)) .nil)))))) (.cmp (.cst (.bool true)) (.one .inn (.var 474040427588338))))) (.cons (.ret (.cst (.int 0))) .nil) .nil) (.cons (.ife (.orE (.cmp (.var 32066789281) (.one .eq (.cst (.str 474184994492923)))) (.andE (.cmp (.var 32066789281) (.one .eq (.cst (.str 248515262)))) (.sub (.sub (.var 4172364345482) (.cst (.int 0))) (.cst (.int 1))))) (.cons (.ret (.cst (.int 2))) .nil) .nil) (.cons (.ret (.cst (.int 1))) .nil))))
noncomputable def zIs:CSs:=(.cons (.ife (.cmp (.var 32066789281) (.one .eq (.cst (.str 1959739)))) (.cons (.asg (.nm (.one 474040427588338)) (.orE (.sub (.sub (.var 4172364345482) (.cst (.int 0))) (.cst (.int 0))) (.sub (.sub (.var 4172364345482) (.cst (.int 1))) (.cst (.int 0))))) (.cons (.ret (.tup (.cons (.var 474040427588338) (.cons (.andE (.notE (.var 474040427588338)) (.andE (.sub (.sub (.var 4172364345482) (.cst (.int 0))) (.cst (.int 1))) (.sub (.sub (.var 4172364345482) (.cst (.int 1))) (.cst (.int 1))))) .nil)))) .nil)) .nil) (.cons (.ife (.cmp (.var 32066789281) (.one .eq (.cst (.str 1961156)))) (.cons (.ret (.tup (.cons (.andE (.sub (.sub (.var 4172364345482) (.cst (.int 0))) (.cst (.int 0))) (.sub (.sub (.var 4172364345482) (.cst (.int 1))) (.cst (.int 0)))) (.cons (.orE (.sub (.sub (.var 4172364345482) (.cst (.int 0))) (.cst (.int 1))) (.sub (.sub (.var 4172364345482) (.cst (.int 1))) (.cst (.int 1)))) .nil)))) .nil) .nil) (.cons (.ife (.cmp (.var 32066789281) (.one .inn (.tup (.cons (.cst (.str 250993736)) (.cons (.cst (.str 474184994492923)) .nil))))) (.cons (.ret (.sub (.var 4172364345482) (.cst (.int 0)))) .nil) .nil) (.cons (.ret (.tup (.cons (.cmp (.var 32066789281) (.one .eq (.cst (.str 220823988)))) (.cons (.cmp (.var 32066789281) (.one .inn (.tup (.cons (.cst (.str 248515262)) (.cons (.cst (.str 32650705719)) (.cons (.cst (.str 34037648820)) (.cons (.cst (.str 1894992)) .nil))))))) .nil)))) .nil))))
noncomputable def zK1:CSs:=(.cons (.asg (.nm (.tup [566630696248834,248645936,32376094778,250976694])) (.var 2011483)) (.cons (.ife (.cmp (.var 32066789281) (.one .eq (.cst (.str 1959739)))) (.cons (.ret (.call (.glob 70007884325057599) (.cons (.var 32066903573) (.cons (.sub (.var 32376143279) (.cst (.int 0))) (.cons (.sub (.var 32376143279) (.cst (.int 1))) .nil))))) .nil) .nil) (.cons (.ife (.cmp (.var 32066789281) (.one .eq (.cst (.str 1961156)))) (.cons (.ret (.call (.glob 70058503889244232) (.cons (.var 32066903573) (.cons (.sub (.var 32376143279) (.cst (.int 0))) (.cons (.sub (.var 32376143279) (.cst (.int 1))) .nil))))) .nil) .nil) (.cons (.ife (.cmp (.var 32066789281) (.one .eq (.cst (.str 248515262)))) (.cons (.ret (.call (.glob 8877723566800265026) (.cons (.var 32066903573) (.cons (.sub (.var 32376143279) (.cst (.int 0))) (.cons (.var 566630696248834) .nil))))) .nil) .nil) (.cons (.ife (.cmp (.var 32066789281) (.one .eq (.cst (.str 32650705719)))) (.cons (.ret (.call (.glob 1166382846802946178619) (.cons (.var 32066903573) (.cons (.sub (.var 32376143279) (.cst (.int 0))) (.cons (.var 566630696248834) .nil))))) .nil) .nil) (.cons (.ife (.cmp (.var 32066789281) (.one .eq (.cst (.str 250993736)))) (.cons (.ret (.call (.glob 8966262221512968652) (.cons (.var 32066903573) (.cons (.sub (.var 32376143279) (.cst (.int 0))) (.cons (.var 566630696248834) .nil))))) .nil) .nil) (.cons (.ife (.cmp (.var 32066789281) (.one .eq (.cst (.str 474184994492923)))) (.cons (.ret (.call (.glob 16939335049451495703478015) (.cons (.var 32066903573) (.cons (.sub (.var 32376143279) (.cst (.int 0))) (.cons (.bin .add (.cst (.int 1)) (.bin .fdiv (.call (.glob 1860935) (.cons (.var 32376094778) .nil)) (.cst (.int 2)))) (.cons (.var 129907780876443790661926) .nil)))))) .nil) .nil) (.cons (.ife (.cmp (.var 32066789281) (.one .eq (.cst (.str 34037648820)))) (.cons (.ret (.call (.glob 1215928686834193402168) (.cons (.var 32066903573) (.cons (.var 250976694) .nil)))) .nil) .nil) (.cons (.ife (.cmp (.var 32066789281) (.one .eq (.cst (.str 1894992)))) (.cons (.ret (.call (.glob 67694923899939796) (.cons (.var 32066903573) .nil))) .nil) .nil) (.cons (.ife (.cmp (.var 32066789281) (.one .eq (.cst (.str 220823988)))) (.cons (.ret (.call (.glob 7888506755471654200) .nil)) .nil) .nil) (.cons (.ret (.call (.glob 1017079913783369101462) (.cons (.var 32066903573) (.cons (.sub (.var 248645936) (.cst (.int 0))) (.cons (.sub (.var 248645936) (.cst (.int 1))) (.cons (.sub (.var 248645936) (.cst (.int 2))) .nil)))))) .nil)))))))))))
noncomputable def zJy:CSs:=(.cons (.ret (.comp (.tup (.cons (.attr (.var 253107394) 14689) (.cons (.attr (.var 253107394) 1962331) (.cons (.attr (.var 253107394) 1745597) (.cons (.attr (.var 253107394) 2011477) (.cons (.attr (.var 253107394) 227146788) (.cons (.attr (.var 253107394) 7806419509700087986) .nil))))))) (.one 253107394) (.var 32376161590) .nil)) .nil)
def zIr:CSs:=(.cons (.asg (.swap [28181297528,220655771,218644023]) (.tup (.cons (.call (.glob 8967465052419388374) (.cons (.attr (.var 32066903573) 32376161590) .nil)) (.cons (.cst .none) (.cons (.cst .none) .nil))))) (.cons (.asg (.attr (.var 32066903573) 253107527) (.bin .add (.call (.glob 1860418) (.cons (.var 28181297528) .nil)) (.var 238014145))) (.cons (.tryT 220655771 (.call (.glob 7882497530926760610) (.cons (.var 32066903573) (.cons (.var 32066789281) (.cons (.var 32376143279) (.cons (.var 2011483) (.cons (.var 129907780876443790661926) .nil)))))) 102 218644023) zS0)))
def zJx:CSs:=(.cons (.ife (.cmp (.attr (.var 253107394) 14689) (.one .eq (.glob 50886942273647366))) (.cons (.ret (.lst (.cons (.tup (.cons (.attr (.var 253107394) 1962331) (.cons (.var 15191) (.cons (.var 253056312) .nil)))) (.cons (.tup (.cons (.attr (.var 253107394) 1745597) (.cons (.var 15191) (.cons (.var 253056312) .nil)))) .nil)))) .nil) .nil) (.cons (.ife (.orE (.cmp (.attr (.var 253107394) 14689) (.one .eq (.glob 48523362284342930))) (.andE (.cmp (.attr (.var 253107394) 14689) (.one .eq (.glob 896894582063802735542))) (.cmp (.bin .band (.sub (.var 32341698207) (.var 15191)) (.attr (.var 253107394) 1745597)) (.one .eq (.attr (.var 253107394) 1745597))))) (.cons (.ret (.lst (.cons (.tup (.cons (.attr (.var 253107394) 1962331) (.cons (.var 15191) (.cons (.var 253056312) .nil)))) .nil))) .nil) .nil) zIq))
def zIx:CSs:=(.cons (.asg (.swap [28209471649,1960265,252889903]) (.tup (.cons (.lst .nil) (.cons (.dct []) (.cons (.lst (.cons (.tup (.cons (.var 30967732746) (.cons (.cst (.int 0)) (.cons (.call (.glob 7888506755506000443) .nil) .nil)))) .nil)) .nil))))) (.cons (.whl (.cmp (.var 252889903) (.one .ne (.lst .nil))) (.cons (.asg (.nm (.tup [4136611441551,15191,253056312])) (.meth (.var 252889903) 1894994 .nil)) (.cons (.ife (.cmp (.tup (.cons (.var 4136611441551) (.cons (.var 15191) .nil))) (.one .nin (.var 1960265))) (.cons (.asg (.sub (.var 1960265) (.tup (.cons (.var 4136611441551) (.cons (.var 15191) .nil)))) (.cst (.bool true))) (.cons (.ife (.cmp (.attr (.sub (.var 32376161590) (.var 4136611441551)) 14689) (.one .eq (.glob 727420221652351404308))) (.cons (.expr (.meth (.var 28209471649) 3638987513726 (.cons (.tup (.cons (.var 15191) (.cons (.var 253056312) .nil))) .nil))) .nil) .nil) zGx)) .nil) .nil))) (.cons (.ret (.var 28209471649)) .nil)))
def yHe:CSs:=(.cons (.asg (.nm (.one 9041727382494137289)) (.lst (.cons (.cst (.int 66)) (.cons (.cst (.int 0)) (.cons (.cst (.int 0)) (.cons (.cst (.int 16)) (.cons (.cst (.int 3)) (.cons (.cst (.int 6)) (.cons (.cst (.int 4)) .nil))))))))) (.cons (.asg (.nm (.one 149177348187315714245916)) (.lst (.cons (.cst (.str 28471249426)) (.cons (.cst (.str 1959739)) (.cons (.cst (.str 28471249426)) (.cons (.cst (.str 1961156)) (.cons (.cst (.str 248515262)) (.cons (.cst (.str 28471249426)) (.cons (.cst (.str 474184994492923)) (.cons (.cst (.str 32650705719)) (.cons (.cst (.str 250993736)) (.cons (.cst (.str 28471249426)) (.cons (.cst (.str 34037648820)) (.cons (.cst (.str 1959739)) .nil)))))))))))))) (.cons (.asg (.nm (.one 149177348187315714245916)) (.bin .add (.var 149177348187315714245916) (.lst (.cons (.cst (.str 1894992)) (.cons (.cst (.str 220823988)) (.cons (.cst (.str 1961156)) (.cons (.cst (.str 474184994492923)) .nil))))))) (.cons (.asg (.nm (.one 129906622853851102991730)) (.dct [(1959739,2),(1961156,2),(248515262,1),(32650705719,1),(250993736,1),(474184994492923,1)])) (.cons (.asg (.nm (.one 1156415915808219961899)) (.lst (.cons (.tup (.cons (.cst (.int 97)) (.cons (.cst (.int 97)) (.cons (.cst (.bool false)) .nil)))) (.cons (.tup (.cons (.cst (.int 98)) (.cons (.cst (.int 98)) (.cons (.cst (.bool false)) .nil)))) (.cons (.tup (.cons (.cst (.int 97)) (.cons (.cst (.int 98)) (.cons (.cst (.bool false)) .nil)))) (.cons (.tup (.cons (.cst (.int 97)) (.cons (.cst (.int 97)) (.cons (.cst (.bool true)) .nil)))) (.cons (.tup (.cons (.cst (.int 0)) (.cons (.cst (.int 255)) (.cons (.cst (.bool false)) .nil)))) (.cons (.tup (.cons (.cst (.int 98)) (.cons (.cst (.int 122)) (.cons (.cst (.bool true)) .nil)))) .nil)))))))) (.cons (.asg (.nm (.one 1156415915808219961899)) (.bin .add (.var 1156415915808219961899) (.lst (.cons (.tup (.cons (.cst (.int 10)) (.cons (.cst (.int 65)) (.cons (.cst (.bool false)) .nil)))) .nil)))) (.cons (.asg (.nm (.one 149197142690429954922783)) (.lst (.cons (.cst (.int 97)) (.cons (.cst (.int 98)) (.cons (.cst (.int 65)) (.cons (.cst (.int 66)) (.cons (.cst (.int 10)) (.cons (.cst (.int 255)) .nil)))))))) (.cons (.asg (.nm (.one 1007032309778334464532)) (.lst (.cons (.cst (.int 1)) (.cons (.cst (.int 2)) (.cons (.cst (.int 4)) (.cons (.cst (.int 8)) (.cons (.cst (.int 16)) (.cons (.cst (.int 32)) (.cons (.cst (.int 5)) (.cons (.cst (.int 10)) (.cons (.cst (.int 40)) (.cons (.cst (.int 63)) .nil)))))))))))) zLw))))))))
def yCm(K:Frag):Bool:=isBu "object.__setattr__" (findIn K (.ref 45) "__setattr__")&&isBu "BaseException.__getattribute__" (findIn K (.ref 45) "__getattribute__")&&isSN (findIn K (.ref 45) "__getattr__")&&isSN (findIn K (.ref 45) "told")&&zNb 29 (findIn K (.ref 45) "__init__")&&keepIn K (.ref 45)
noncomputable def seqD:Data->Option (Array Value×Nat)
 |.seq vs n=>some (vs,n)
 |_=>none
def yBz(x:Option Obj):Bool:=ob false x λo=>ob false (tyV o.cls) λc=>ob false (seqD o.data) λp=>ob false (two2 p.1.toList) λq=>ob false (intV q.1) λi=>ob false (intV q.2) λj=>c=="tuple"&&decide (i=0)&&decide (j=0)
def frL(h:Heap)(l:List Addr):Frag:=match l with
 |[]=>[]
 |a::r=>optB (h.get? a) (λo=>(a,o)::frL h r) (frL h r)
noncomputable def frA:List Addr:=[2,3,15,22,23,25,26,28,29,30,31,32,33,36,43,44,45,55,56,58,59,61,62,63,64,65,66,67,77,79,80,82,83,84,85,86,87,88,91,93,94,96,97,98,100,101,103,104,105,107,108,110,111,112,114,115,117,118,119,127,128,130,131,133,134,135,136,137,138,139,149,151,152,154,155,156,158,159,161,162,163,165,166,168,169,170,172,173,175,176,177,179,180,182,183,184,186,187,189,190,191,193,194,196,197,198,199,200,201,202,205,207,208,210,211,212,214,215,217,218,219,221,222,224,225,226,228,229,231,232,233,235,236,238,239,240,241,243,244,246,247,248,250,251,253,254,255,257,258,260,261,262,264,265,267,268,269,271,272,274,275,276,278,279,281,282,283,285,286,288,289,290,292,293,295,296,297,299,300,302,303,304,305,307,308,310,311,312,314,315,317,318,319,321,322,324,325,326,328,329,331,332,333,335,336,338,339,340,343,344,345,348,349,350,352,353,355,356,357,360,361,362,365,366,367,370,371,372,375,376,377,379,380,382,383,384,386,387,389,390,391,394,395,396,398,399,401,402,403,405,406,408,409,410,412,413,415,416,417,420,421]
noncomputable def fq(a:Addr)(k:Nat)(ns:List Str)(dv:List Value)(c:CSs):Addr×Nat×List Str×List Value×CSs:=(a,k,ns,dv,c)
def fnL:List (Addr×Nat×List Str×List Value×CSs):=[
 fq 29 1 ["self","told"] [.str "" 217] zGb,
 fq 62 2 ["self","op","out","arg","low","high","is_folded"] [.int 0 265,.int 0 266,.int 0 267,.int 0 268,.bool false] zJ2,
 fq 83 1 ["self"] [] zFd,
 fq 97 1 ["prog"] [] zEq,
 fq 104 1 ["inst"] [] zH9,
 fq 111 3 ["prog","number","heads"] [] zCp,
 fq 118 1 ["prog"] [] zEb,
 fq 134 2 ["self","begin","ends","is_nullable"] [.ref 119,.bool false] zCd,
 fq 155 2 ["self","most"] [] zHd,
 fq 162 2 ["self","many"] [] yA7,
 fq 169 2 ["self","op"] [] yHd,
 fq 176 2 ["self","mark"] [] yHc,
 fq 183 3 ["self","mark","value"] [] yA8,
 fq 190 3 ["self","ends","target"] [] zVu,
 fq 197 3 ["self","one","other"] [] zQd,
 fq 211 1 ["mark"] [] zK7,
 fq 218 0 [] [] zJ1,
 fq 225 1 ["frag"] [] zFc,
 fq 232 1 ["maker"] [] zK4,
 fq 239 2 ["maker","frag"] [] zG9,
 fq 247 3 ["maker","low","high","is_folded"] [.bool false] zEr,
 fq 254 2 ["maker","bits"] [] zHc,
 fq 261 2 ["maker","match_id"] [] zHb,
 fq 268 3 ["maker","one","other"] [] zK5,
 fq 275 3 ["maker","one","other"] [] zK6,
 fq 282 3 ["maker","begin","is_lazy"] [] zGa,
 fq 289 3 ["maker","frag","is_lazy"] [] zJ0,
 fq 296 3 ["maker","frag","is_lazy"] [] zHa,
 fq 303 3 ["maker","frag","is_lazy"] [] zIz,
 fq 311 3 ["maker","frag","group","is_reversed"] [.bool false] zDf,
 fq 318 0 [] [] zJz,
 fq 325 2 ["number","bases"] [] zH8,
 fq 332 2 ["pair","octet"] [] zK3,
 fq 339 1 ["ways"] [] zIy,
 fq 344 2 ["one","other"] [] zK2,
 fq 349 2 ["slot","at"] [] zK0,
 fq 356 3 ["ways","at","slots"] [] zIw,
 fq 361 2 ["ways","table"] [] zH7,
 fq 366 2 ["table","is_lazy"] [] zIv,
 fq 371 5 ["order","tables","row","text","holds"] [] zIu,
 fq 376 2 ["order","shapes"] [] zIt,
 fq 383 2 ["order","shapes"] [] zIs,
 fq 390 5 ["maker","order","parts","row","is_reversed"] [] zK1,
 fq 395 1 ["insts"] [] zJy,
 fq 402 7 ["maker","room","needs","order","parts","row","is_reversed"] [] zIr,
 fq 409 5 ["inst","at","kept","text","holds"] [] zJx,
 fq 416 4 ["insts","begin","text","holds"] [] zIx,
 fq 421 1 ["script"] [] yHe,
 fq 134 3 ["self","begin","ends","is_nullable"] [.bool false] zCd,
 fq 134 4 ["self","begin","ends","is_nullable"] [] zCd,
 fq 247 4 ["maker","low","high","is_folded"] [] zEr,
 fq 311 4 ["maker","frag","group","is_reversed"] [] zDf]
def obF(K:Frag)(q:Addr×Nat×List Str×List Value×CSs):Option (Bool×CSs×((Nat->Value)->Setting->Option (List (Str×Value)))):=
 match fdAt K q.1 with
 |some fd=>(match fd.body with
  |.stmts b=>some (fdOk K fd&&yF8 fd q.2.2.1,cSs 60 (kinds fd.scope.names) b,λv S=>peek K S (bindArgs fd ⟨(List.range q.2.1).map v,[]⟩))
  |_=>none)
 |none=>none
noncomputable def exF(q:Addr×Nat×List Str×List Value×CSs):Option (Bool×CSs×((Nat->Value)->Setting->Option (List (Str×Value)))):=
 some (true,q.2.2.2.2,λv U=>some (q.2.2.1.zip ((List.range q.2.1).map v++q.2.2.2.1)))
def obB(K:Frag):List Bool:=[tabs.ok K,yCm K,yBz (K.lookup 119),isSN (nsIn K mainGlobals "zip"),zNb 421 (nsIn K mainGlobals "law")]
noncomputable def ob45:Obj:=.mk (.type "type") none (.cls (.mk "TooLarge" [.ref 32] [.ref 45,.ref 32,.type "Exception",.type "BaseException",.type "object"] 44 "TooLarge" true [] [] false none false))
 #[some (.ref 36),none,some (.str "TooLarge" 235),some (.str "TooLarge" 243),some (.builtin "Exception.__new__"),some (.bool true)]
def obI(K:Frag):Option (Bool×FuncBody×Bool×Option NameKind×Option NameKind×(Value->Value->Setting->Option (List (Str×Value)))):=
 (fdAt K 29).map λfd=>(fdOk K fd,fd.body,zJl fd.scope.names,fd.scope.names.lookup ("self": Str),fd.scope.names.lookup ("told": Str),λa b S=>peek K S (bindArgs fd ⟨[a,b],[]⟩))
noncomputable def exI:Option (Bool×FuncBody×Bool×Option NameKind×Option NameKind×(Value->Value->Setting->Option (List (Str×Value)))):=
 some (true,.stmts [.Assign [.Attribute (.Name "self" (.mk 13 8 13 12)) "told" (.mk 13 8 13 17)] (.Name "told" (.mk 13 20 13 24)) (.mk 13 8 13 24)],true,some .local,some .local,λa b U=>some [("self",a),("told",b)])
def ObS:Type:=Option Value×List Bool×Option Obj×Option (Bool×FuncBody×Bool×Option NameKind×Option NameKind×(Value->Value->Setting->Option (List (Str×Value))))
def ObF:Type:=List (Option (Bool×CSs×((Nat->Value)->Setting->Option (List (Str×Value)))))
def obS(K:Frag):ObS:=(typeIn K (.ref 29),obB K,K.lookup 45,obI K)
def exS:ObS:=(some (.type "function"),[true,true,true,true,true],some ob45,exI)
def obFs(K:Frag):ObF:=fnL.map (obF K)
def exFs:ObF:=fnL.map exF
noncomputable def gQ:Program:={PySem.Challenge.pw_xw0283_01 with main:={PySem.Challenge.pw_xw0283_01.main with body:=PySem.Challenge.pw_xw0283_01.main.body.drop 55}}
noncomputable def gL:List Str:=(["INST_ALT","INST_RANGE","INST_CAPTURE","INST_EMPTY","INST_MATCH","INST_NOP","INST_FAIL","EMPTY_ALL","RecoreError","TooLarge","Inst","Program","program_heads","inst_fault","program_ways_fault","program_faults","NO_ENDS","Frag","Maker","ends_one","frag_none","frag_is_none","frag_nop","frag_is_nop","frag_range","frag_empty","frag_match","frag_cat","frag_alt","frag_choice","frag_plus","frag_quest","frag_star","frag_capture","_law_none","_law_digits","_law_fits","_law_first","_law_kept","_law_mark","_law_group","_law_joined","_law_loops","_law_meant","_law_needs","_law_shape","_law_made","_law_rows","_law_tried","_law_ways","_law_found"]:List String).map Str.ofString
set_option maxHeartbeats 0 in
theorem wellSaid:PySem.Challenge.rw_xw0283_01.wellSaid=true:=by kernel_rfl
theorem zU5{α β γ δ:Type}{o:Option α}{f:α->β}{g:α->γ}{b:β}{c:γ}(k:β->γ->δ)(x:o.map f=some b)(y:o.map g=some c):o.map (λs=>k (f s) (g s))=some (k b c):=by
 cases o with
 |none=>cases x
 |some s=>cases x;cases y;rfl
theorem zXj(K:Frag):(fnL.take 25).map (obF K)++(fnL.drop 25).map (obF K)=obFs K:=List.map_append.symm.trans (congrArg (List.map (obF K)) (List.take_append_drop 25 fnL))
noncomputable def endW(w:World):=openEnds treeTable PySem.Challenge.rw_xw0283_01.row.prog w 5790
set_option maxHeartbeats 0 in
theorem yG4(w:World):(endW w).map (λs=>(openSeen gQ gL (importedModules PySem.Challenge.rw_xw0283_01.row.prog.main.body) (λs=>xlAt gQ [] s&&recOk (RowW.records PySem.Challenge.rw_xw0283_01.row.toRowW) s) true s,(fnL.take 25).map (obF (frL s.heap frA))))=some (openGood gQ gL,(fnL.take 25).map exF):=by kernel_rfl
theorem zU4{α β γ:Type}{o:Option α}{f:α->β}{g:α->γ}{b:β}{c:γ}(h:o.map (λs=>(f s,g s))=some (b,c)):o.map f=some b/\o.map g=some c:=by
 cases o with
 |none=>cases h
 |some s=>cases h;exact⟨rfl,rfl⟩
theorem yIr(w:World):(endW w).map (openSeen gQ gL (importedModules PySem.Challenge.rw_xw0283_01.row.prog.main.body) (λs=>xlAt gQ [] s&&recOk (RowW.records PySem.Challenge.rw_xw0283_01.row.toRowW) s) true)=some (openGood gQ gL):=(zU4 (yG4 w)).1
set_option maxHeartbeats 0 in
theorem yIq(w:World):(endW w).map (λs=>obS (frL s.heap frA))=some exS:=by kernel_rfl
theorem yIp(w:World):(endW w).map (λs=>(fnL.take 25).map (obF (frL s.heap frA)))=some ((fnL.take 25).map exF):=(zU4 (yG4 w)).2
set_option maxHeartbeats 0 in
theorem yIo(w:World):(endW w).map (λs=>(fnL.drop 25).map (obF (frL s.heap frA)))=some ((fnL.drop 25).map exF):=by kernel_rfl
theorem yIn(w:World):(endW w).map (λs=>obFs (frL s.heap frA))=some exFs:=by
 refine(congrArg (λf=>(endW w).map f) (funext λs=>(zXj (frL s.heap frA)).symm)).trans ((zU5 (·++·) (yIp w) (yIo w)).trans (congrArg some ?_))
 exact List.map_append.symm.trans (congrArg (List.map exF) (List.take_append_drop 25 fnL))
theorem yIm(w:World):(endW w).map (λs=>(obS (frL s.heap frA),obFs (frL s.heap frA)))=some (exS,exFs):=zU5 Prod.mk (yIq w) (yIn w)
theorem left:LeftO PySem.Challenge.rw_xw0283_01.row.prog gQ gL (λs=>xlAt gQ [] s&&recOk (RowW.records PySem.Challenge.rw_xw0283_01.row.toRowW) s) (λs=>(obS (frL s.heap frA),obFs (frL s.heap frA))) (λU=>(exS,exFs)) 5790:=λw=>zU5 Prod.mk (yIr w) (yIm w)
end Mine.Internal
end
noncomputable section
open PySem PySem.W PyProof.Rows
namespace Mine.Internal
section
theorem zA2{a:α}{P:Prop}(h:none=some a):P:=nomatch h
theorem yFr(h:ob b o f=c):(∃ a,o=some a/\f a=c)\/b=c:=by
 cases o with
 |none=>exact .inr h
 |some a=>exact .inl ⟨a,rfl,h⟩
theorem zOn(h:(if p=true then a else b)=c):(p=true/\a=c)\/b=c:=by
 cases p with
 |true=>exact .inl ⟨rfl,h⟩
 |false=>exact .inr h
theorem zA1{o:Option α}{c:β}(h:ob none o f=some c):∃ a,o=some a/\f a=some c:=(yFr h).elim id zA2
theorem zAm(h:ob false o f=true):∃ a,o=some a/\f a=true:=(yFr h).elim id λh=>Bool.noConfusion h
theorem zBm{β:Type}{p:Bool}{a:Option β}{c:β}(h:(if p=true then a else none)=some c):p=true/\a=some c:=(zOn h).elim id zA2
theorem zDx{l:List α}{a:α}(h:one1 l=some a):l=[a]:=by
 cases l with
 |nil=>exact zA2 h
 |cons b r=>cases r with
  |nil=>cases h;rfl
  |cons _ _=>exact zA2 h
theorem zKd{α:Type}{l:List α}{p:α×α}(h:two2 l=some p):l=[p.1,p.2]:=by
 cases l with
 |nil=>exact zA2 h
 |cons c r=>
  refine(zA1 h).elim λd q=>?_
  cases q.2;rw[zDx q.1]
def yI7(g:Hp)(v:Value):DV->Prop
 |.none=>v=.none
 |.bool b=>v=.bool b
 |.int i=>∃ t,v=.int i t
 |.str n=>∃ s t,v=.str s t/\okc s=true/\enc s=n
 |.bytes b=>∃ t,v=.bytes b t
 |.rng x y z=>∃ a t u w,v=.ref a/\g a=some {cls:=.type "range",dict:=none,data:=.fields #[.int x t,.int y u,.int z w],slots:=#[]}
 |.tup ds=>∃ a o n vs,v=.ref a/\g a=some o/\o.cls=.type "tuple"/\o.data=.seq (List.toArray vs) n/\RepL g ds vs
 |.lst ds=>∃ a n vs,v=.ref a/\g a=some (listOf (List.toArray vs) n)/\RepL g ds vs
 |.inst C ns ds=>∃ a dx sl es n,v=.ref a/\g a=some ⟨.ref C,some dx,.plain,sl⟩/\g dx=some (dictOf es n)/\RepE g ns ds es
 |.ref a=>v=.ref a
 |.fn a=>v=.ref a
 |.cls a=>v=.ref a
 |.bi b=>v=b.val
theorem zAw(r:Rep g d v):yI7 g v d:=by
 cases r with
 |none=>rfl
 |bool b=>rfl
 |int i t=>exact⟨t,rfl⟩
 |str s t h=>exact⟨s,t,rfl,h,rfl⟩
 |bytes b t=>exact⟨t,rfl⟩
 |rng h=>exact⟨_,_,_,_,rfl,h⟩
 |tup h hc hd r=>exact⟨_,_,_,_,rfl,h,hc,hd,r⟩
 |lst h r=>exact⟨_,_,_,rfl,h,r⟩
 |inst h hd r=>exact⟨_,_,_,_,_,rfl,h,hd,r⟩
 |ref a=>rfl
 |fn a=>rfl
 |cls a=>rfl
 |bi b=>rfl
def yF4(g:Hp)(vs:List Value):List DV->Prop
 |[]=>vs=[]
 |d::ds=>∃ w ws,vs=w::ws/\Rep g d w/\RepL g ds ws
theorem zT8(r:RepL g ds vs):yF4 g vs ds:=by
 cases r with
 |nil=>rfl
 |cons a b=>exact⟨_,_,rfl,a,b⟩
@[elab_as_elim] theorem zPi{g:Hp}{G:Value->Prop}(r:Rep g .none v)(k:G .none):G v:=by obtain rfl:v=_:=zAw r;exact k
@[elab_as_elim] theorem zPj{v:Value}{G:Value->Prop}(r:Rep g (.bool b) v)(k:G (.bool b)):G v:=by obtain rfl:v=_:=zAw r;exact k
@[elab_as_elim] theorem zT5{g:Hp}{v:Value}{G:Value->Prop}(r:Rep g (.ref a) v)(k:G (.ref a)):G v:=by obtain rfl:v=_:=zAw r;exact k
@[elab_as_elim] theorem yF2{a:Addr}{G:Value->Prop}(r:Rep g (.fn a) v)(k:G (.ref a)):G v:=by obtain rfl:v=_:=zAw r;exact k
@[elab_as_elim] theorem yB6{g:Hp}{v:Value}{a:Addr}{G:Value->Prop}(r:Rep g (.cls a) v)(k:G (.ref a)):G v:=by obtain rfl:v=_:=zAw r;exact k
@[elab_as_elim] theorem yF3{g:Hp}{v:Value}{G:Value->Prop}(r:Rep g (.bi b) v)(k:G b.val):G v:=by obtain rfl:v=_:=zAw r;exact k
@[elab_as_elim] theorem zAz{g:Hp}{v:Value}{G:Value->Prop}(r:Rep g (.int i) v)(k:∀ t,G (.int i t)):G v:=by obtain⟨t,rfl⟩:=zAw r;exact k t
@[elab_as_elim] theorem zMp{g:Hp}{v:Value}{b:Array UInt8}{G:Value->Prop}(r:Rep g (.bytes b) v)(k:∀ t,G (.bytes b t)):G v:=by obtain⟨t,rfl⟩:=zAw r;exact k t
@[elab_as_elim] theorem yB5{g:Hp}{v:Value}{n:Nat}{G:Value->Prop}(r:Rep g (.str n) v)(k:∀ s t,okc s=true->enc s=n->G (.str s t)):G v:=by obtain⟨s,t,rfl,h1,h2⟩:=zAw r;exact k s t h1 h2
@[elab_as_elim] theorem zKq{g:Hp}{v:Value}{ds:List DV}{G:Value->Prop}(r:Rep g (.tup ds) v)(k:∀ a o n vs,g a=some o->o.cls=.type "tuple"->o.data=.seq (List.toArray vs) n->RepL g ds vs->G (.ref a)):G v:=by obtain⟨a,o,n,vs,rfl,h1,h2,h3,h4⟩:=zAw r;exact k a o n vs h1 h2 h3 h4
@[elab_as_elim] theorem zT6{ds:List DV}{G:Value->Prop}(r:Rep g (.lst ds) v)(k:∀ a n vs,g a=some (listOf (List.toArray vs) n)->RepL g ds vs->G (.ref a)):G v:=by obtain⟨a,n,vs,rfl,h1,h2⟩:=zAw r;exact k a n vs h1 h2
@[elab_as_elim] theorem zEw{vs:List Value}{G:List Value->Prop}(r:RepL g [] vs)(k:G []):G vs:=by obtain rfl:vs=_:=zT8 r;exact k
@[elab_as_elim] theorem zCx{d:DV}{vs:List Value}{G:List Value->Prop}(r:RepL g (d::ds) vs)(k:∀ w ws,Rep g d w->RepL g ds ws->G (w::ws)):G vs:=by obtain⟨w,ws,rfl,h1,h2⟩:=zT8 r;exact k w ws h1 h2
@[elab_as_elim] theorem zT9{g:Hp}{vs:List Value}{G:List Value->Prop}(r:RepL g [d] vs)(k:∀ w,Rep g d w->G [w]):G vs:=zCx r λw U r1 r=>zEw (G:=λws=>G (w::ws)) r (k w r1)
@[elab_as_elim] theorem zJj{g:Hp}{d e:DV}{vs:List Value}{G:List Value->Prop}(r:RepL g [d,e] vs)(k:∀ w u,Rep g d w->Rep g e u->G [w,u]):G vs:=zCx r λw U r1 r=>zT9 (G:=λws=>G (w::ws)) r λu r2=>k w u r1 r2
def Room(n:Nat)(A:Around):Prop:=A.handled=none/\A.depth+2 * n+4<=recursionLimit/\A.units+8 * n+80<=cLine
def zW9(A:Around)(kp:Hp):Prop:=∃ l,A.frames=some l/\∀ env∈l,env.scope.kind≠.module/\∃ L o,env.frame=some L/\kp L=some o/\isD o=true
def Off(g kp:Hp)(m:Mt)(b:Addr):Prop:=g b=none/\kp b=none/\m b=none
def TbIn(g kp:Hp)(m:Mt)(s:Shared)(ea dx:Addr)(vs:Array Value):Prop:=vs[1]?=some .none\/∃ T oT ts,vs[1]?=some (.ref T)/\Off g kp m T/\T≠ea/\T≠dx/\s.heap.get? T=some oT/\oT.data=.fields ts/\ts[3]?=some .none
def ExcO(g kp:Hp)(m:Mt)(too ea:Addr)(d:DV)(s:Shared)(dx:Addr)(vs:Array Value)(sl:Array (Option Value))(es:List DictEntry)(n:Nat):Prop:=
 s.heap.get? ea=some ⟨.ref too,some dx,.fields vs,sl⟩/\s.heap.get? dx=some (dictOf es n)/\RepE g [enc "told"] [d] es/\Off g kp m dx/\dx≠ea/\1<vs.size/\TbIn g kp m s ea dx vs
structure Exc(g kp:Hp)(m:Mt)(too:Addr)(ea:Addr)(d:DV)(s:Shared):Prop where
 off:Off g kp m ea
 obj:∃ dx vs sl es n,ExcO g kp m too ea d s dx vs sl es n
def zP2(W:Wd)(too:Addr)(g kp:Hp)(Q X:DV->Mt->Prop)(r:Result)(s':Shared):Prop:=match r with
 |.ok (.ret v)=>∃ g' m' d,Ext g g'/\Sim W g' kp m' s'/\Rep g' d v/\Q d m'
 |.ok _=>False
 |.error e=>∃ ea g' m' d,e=.ref ea/\Ext g g'/\Sim W g' kp m' s'/\Exc g' kp m' too ea d s'/\X d m'
def zA4(W:Wd)(too:Addr)(n:Nat)(f:Addr)(ds:List DV)(m:Mt)(Q X:DV->Mt->Prop):Prop:=
 ∀ A g kp s vs,Room n A->zW9 A kp->W.h₀.objs.size<=s.heap.objs.size->Sim W g kp m s->RepL g ds vs->codeAny W.M A (.call (.ref f) ⟨vs,[]⟩) (zP2 W too g kp Q X) s
structure Tb where
 gl:Loc
 rd:Addr->Nat->Bool
 st:Addr->Nat->Bool
 me:Addr->Nat->Option Addr
 ini:Addr->Option Addr
 kf:Addr->Bool
inductive Fz:Mt->DV->Mt->DV->Prop
 |refl {m d}:Fz m d m d
 |trans {m d m' d' m'' d''}:Fz m d m' d'->Fz m' d' m'' d''->Fz m d m'' d''
 |lst {m:Mt} {a l}:m a=some (.lst l)->Fz m (.ref a) (m.del a) (.lst l)
 |inst {m:Mt} {a C dx ns vs}:m a=some (.inst C dx)->m dx=some (.attrs ns vs)->a≠dx->Fz m (.ref a) ((m.del a).del dx) (.inst C ns vs)
 |drop {m m':Mt} {d}:(∀ b o,m' b=some o->m b=some o)->Fz m d m' d
noncomputable def lstO:MObj->Option (List DV)
 |.lst l=>some l
 |_=>none
def asL(m:Mt):DV->Option (List DV)
 |.lst l=>some l
 |.ref a=>ob none (m a) lstO
 |_=>none
def seqV(m:Mt):DV->Option (List DV)
 |.tup l=>some l
 |d=>asL m d
theorem zL2{l:List DV}(h:lstO o=some l):o=.lst l:=by
 cases o with
 |lst l=>cases h;rfl
 |_=>exact zA2 h
theorem zQi{m:Mt}{l:List DV}(h:asL m d=some l):d=.lst l\/∃ a,d=.ref a/\m a=some (.lst l):=by
 cases d with
 |lst l=>cases h;exact .inl rfl
 |ref a=>exact(zA1 h).elim λo q=>.inr ⟨a,rfl,by rw[q.1,zL2 q.2]⟩
 |_=>exact zA2 h
theorem zPg(h:seqV m d=some l):d=.tup l\/asL m d=some l:=by
 cases d with
 |tup l=>cases h;exact .inl rfl
 |_=>exact .inr h
noncomputable def intD:DV->Option Int
 |.int i=>some i
 |_=>none
noncomputable def yDe:DV->Option Bool
 |.bool i=>some i
 |_=>none
noncomputable def strD:DV->Option Nat
 |.str i=>some i
 |_=>none
noncomputable def tupD:DV->Option (List DV)
 |.tup i=>some i
 |_=>none
noncomputable def lstD:DV->Option (List DV)
 |.lst i=>some i
 |_=>none
theorem zCn{d:DV}(h:intD d=some i):d=.int i:=by
 cases d with
 |int i=>cases h;rfl
 |_=>exact zA2 h
theorem zQe{d:DV}(h:yDe d=some i):d=.bool i:=by
 cases d with
 |bool i=>cases h;rfl
 |_=>exact zA2 h
theorem yAr{i:Nat}(h:strD d=some i):d=.str i:=by
 cases d with
 |str i=>cases h;rfl
 |_=>exact zA2 h
theorem zGi{d:DV}(h:tupD d=some i):d=.tup i:=by
 cases d with
 |tup i=>cases h;rfl
 |_=>exact zA2 h
theorem yBt(h:lstD d=some i):d=.lst i:=by
 cases d with
 |lst i=>cases h;rfl
 |_=>exact zA2 h
def zOa(d:DV):Option (Int×Int):=ob none (tupD d) λl=>ob none (two2 l) λp=>ob none (intD p.1) λi=>ob none (intD p.2) λj=>some (i,j)
theorem zHo{p:Int×Int}(h:zOa d=some p):d=.tup [.int p.1,.int p.2]:=by
 refine(zA1 h).elim λl h=>(zA1 h.2).elim λq h2=>(zA1 h2.2).elim λi h3=>(zA1 h3.2).elim λj h4=>?_
 cases h4.2
 rw[zGi h.1,zKd h2.1,zCn h3.1,zCn h4.1]
noncomputable def upTo:Nat->Int->Int->List DV
 |0,_,_=>[]
 |k+1,a,c=>.int a::upTo k (a+c) c
noncomputable def rngLen(a b c:Int):Nat:=(Builtin.Range.rangeSize a b c).toNat
def zE0(m:Mt):DV->Option (List DV)
 |.rng a b c=>some (upTo (rngLen a b c) a c)
 |d=>seqV m d
def lenV(m:Mt):DV->Option Nat
 |.bytes b=>some b.size
 |d=>(seqV m d).map (·.length)
noncomputable def bytD:DV->Option (Array UInt8)
 |.bytes b=>some b
 |_=>none
theorem zVv(h:bytD d=some i):d=.bytes i:=by
 cases d with
 |bytes i=>cases h;rfl
 |_=>exact zA2 h
theorem yBv(h:bytD d=none):lenV m d=(seqV m d).map (·.length):=by
 cases d with
 |bytes i=>exact zA2 h.symm
 |_=>rfl
noncomputable def zCh:DV->Option Bool
 |.bool b=>some b
 |_=>none
noncomputable def isNone:DV->Bool
 |.none=>true
 |_=>false
theorem zUn(h:isNone d=true):d=.none:=by
 cases d with
 |none=>rfl
 |_=>exact Bool.noConfusion h
noncomputable def noBi:DV->Bool
 |.bi _=>false
 |_=>true
noncomputable def plA(f:DV->Bool)(t:Bool):DV->Bool
 |.none=>true
 |.bool _=>true
 |.int _=>true
 |.str _=>true
 |.tup l=>t&&l.all f
 |.lst l=>t&&l.all f
 |_=>false
def zBu:Nat->DV->Bool
 |0=>plA (λU=>false) false
 |n+1=>plA (zBu n) true
def eqL(f:DV->DV->Option Bool)(x y:List DV):Option Bool:=match x with
 |[]=>some (match y with|[]=>true|_::_=>false)
 |a::as=>(match y with
  |[]=>some false
  |b::bs=>ob none (f a b) λt=>ob none (eqL f as bs) λu=>some (t&&u))
def eqA(f:DV->DV->Option Bool)(a b:DV):Option Bool:=match a with
 |.none=>(match isNone b with|true=>some true|false=>none)
 |.bool x=>ob none (yDe b) λy=>some (x==y)
 |.int x=>ob none (intD b) λy=>some (decide (x=y))
 |.str x=>ob none (strD b) λy=>some (Nat.beq x y)
 |.tup x=>ob none (tupD b) λy=>eqL f x y
 |.lst x=>ob none (lstD b) λy=>eqL f x y
 |_=>none
def eqN:Nat->DV->DV->Option Bool
 |0=>eqA λU U=>none
 |n+1=>eqA (eqN n)
def zLl(m:Mt)(a b:DV):Option Bool:=match asL m a with
 |some x=>ob none (asL m b) λy=>(match Nat.beq x.length y.length with
  |true=>(match x.all (zBu 8)&&y.all (zBu 8)with|true=>eqL (eqN 8) x y|false=>none)
  |false=>some false)
 |none=>(match asL m b with|none=>(match zBu 8 a&&zBu 8 b with|true=>eqN 8 a b|false=>none)|some _=>none)
def memL(x:DV)(l:List DV):Option Bool:=match l with
 |[]=>some false
 |y::r=>ob none (eqN 8 y x) λb=>ob none (memL x r) λt=>some (b||t)
def memV(x:DV)(l:List DV):Option Bool:=match zBu 8 x&&l.all (zBu 8)with|true=>memL x l|false=>none
def yA5(k:DV):MObj->Option Bool
 |.dE=>(match intD k with|some _=>some false|none=>ob none (zOa k) λU=>some false)
 |.dI ks=>ob none (intD k) λi=>some (ks.contains i)
 |.dT ks=>ob none (zOa k) λp=>some (ks.contains [p.1,p.2])
 |_=>none
def zQ7(k:DV):MObj->Option MObj
 |.dE=>(match intD k with|some i=>some (.dI [i])|none=>ob none (zOa k) λp=>some (.dT [[p.1,p.2]]))
 |.dI ks=>ob none (intD k) λi=>some (.dI (if ks.contains i then ks else ks++[i]))
 |.dT ks=>ob none (zOa k) λp=>some (.dT (if ks.contains [p.1,p.2]then ks else ks++[[p.1,p.2]]))
 |_=>none
noncomputable def zNi:MObj->Nat
 |.dI ks=>ks.length
 |.dT ks=>ks.length
 |_=>0
def inO(x:DV)(o:MObj):Option Bool:=match lstO o with
 |some l=>memV x l
 |none=>yA5 x o
noncomputable def refD:DV->Option Addr
 |.ref a=>some a
 |_=>none
theorem zKt(h:refD d=some i):d=.ref i:=by
 cases d with
 |ref i=>cases h;rfl
 |_=>exact zA2 h
def inV(m:Mt)(x d:DV):Option Bool:=match refD d with
 |some a=>ob none (m a) (inO x)
 |none=>ob none (seqV m d) (memV x)
def cmpV(m:Mt)(op:COp)(a b:DV):Option Bool:=match op with
 |.eq=>zLl m a b
 |.ne=>(zLl m a b).map (!·)
 |.lt=>ob none (intD a) λi=>ob none (intD b) λj=>some (decide (i<j))
 |.le=>ob none (intD a) λi=>ob none (intD b) λj=>some (decide (i<=j))
 |.gt=>ob none (intD a) λi=>ob none (intD b) λj=>some (decide (j<i))
 |.ge=>ob none (intD a) λi=>ob none (intD b) λj=>some (decide (j<=i))
 |.inn=>inV m a b
 |.nin=>(inV m a b).map (!·)
noncomputable def zYf:MObj->Option (Addr×Addr)
 |.inst C dx=>some (C,dx)
 |_=>none
noncomputable def yAa:MObj->Option (List Nat×List DV)
 |.attrs ns vs=>some (ns,vs)
 |_=>none
theorem zYe(h:zYf o=some p):o=.inst p.1 p.2:=by
 cases o with
 |inst a b=>cases h;rfl
 |_=>exact zA2 h
theorem zW1(h:yAa o=some p):o=.attrs p.1 p.2:=by
 cases o with
 |attrs a b=>cases h;rfl
 |_=>exact zA2 h
structure Ats where
 C:Addr
 dx:Addr
 ns:List Nat
 vs:List DV
def zDg(m:Mt)(a:Addr):Option Ats:=ob none (m a) λo=>ob none (zYf o) λp=>ob none (m p.2) λq=>ob none (yAa q) λr=>some ⟨p.1,p.2,r.1,r.2⟩
theorem zS3(h:zDg m a=some r):m a=some (.inst r.C r.dx)/\m r.dx=some (.attrs r.ns r.vs):=by
 refine(zA1 h).elim λo h=>(zA1 h.2).elim λp h2=>(zA1 h2.2).elim λq h3=>(zA1 h3.2).elim λr h4=>?_
 cases h4.2
 exact⟨by rw[h.1,zYe h2.1],by rw[h3.1,zW1 h4.1]⟩
theorem zJ5(h1:m a=some (.inst C dx))(h2:m dx=some (.attrs ns vs)):zDg m a=some ⟨C,dx,ns,vs⟩:=by
 unfold zDg;rw[h1];show ob none (m dx) _=_;rw[h2];rfl
def getA(m:Mt)(o:DV)(x:Nat):Option (Addr×DV):=match o with
 |.inst C ns vs=>ob none (fld ns vs x) λd=>some (C,d)
 |.ref a=>ob none (zDg m a) λr=>ob none (fld r.ns r.vs x) λd=>some (r.C,d)
 |_=>none
def bigI(i:Int):Prop:=i.natAbs<2 ^ 60
def small(n:Nat):Prop:=n<=2 ^ 20
noncomputable def natI:Int->Option Nat
 |.ofNat k=>some k
 |.negSucc _=>none
theorem zL0(h:natI i=some k):i=.ofNat k:=by
 cases i with
 |ofNat k=>cases h;rfl
 |negSucc _=>exact zA2 h
def nth(l:List DV)(i:Int):Option DV:=ob none (natI i) λk=>l[k]?
def nthB(b:Array UInt8)(i:Int):Option DV:=ob none (natI i) λk=>ob none b.toList[k]? λx=>some (.int (Int.ofNat x.toNat))
def natD(d:DV):Option Nat:=ob none (intD d) natI
theorem zTw(h:natD d=some k):d=.int (.ofNat k):=(zA1 h).elim λi h=>by rw[zCn h.1,zL0 h.2]
def sel(t:Bool)(A B:Prop):Prop:=match t with|true=>A|false=>B
theorem zE8(h:sel t A False):t=true/\A:=by
 cases t with
 |true=>exact⟨rfl,h⟩
 |false=>exact False.elim h
def opt{α:Type}(o:Option α)(K:α->Prop):Prop:=match o with
 |some a=>K a
 |none=>False
def optN{α:Type}(o:Option α)(K:α->Prop)(N:Prop):Prop:=match o with
 |some a=>K a
 |none=>N
theorem zAb{α:Type}{o:Option α}{K:α->Prop}(h:opt o K):∃ a,o=some a/\K a:=by
 cases o with
 |some a=>exact⟨a,rfl,h⟩
 |none=>exact False.elim h
theorem zKv{K:α->Prop}{N:Prop}(h:optN o K N):(∃ a,o=some a/\K a)\/N:=by
 cases o with
 |some a=>exact .inl ⟨a,rfl,h⟩
 |none=>exact .inr h
theorem yBk(h:optN o (λU=>False) N):o=none/\N:=by
 cases o with
 |some a=>exact False.elim h
 |none=>exact⟨rfl,h⟩
def subW(m:Mt)(o i:DV)(K:DV->Prop):Prop:=opt (intD i) λk=>bigI k/\optN (bytD o) (λb=>small b.size/\opt (nthB b k) K) (opt (seqV m o) λl=>opt (nth l k) K)
def zD4:DV->Prop
 |.rng a b c=>bigI a/\bigI b/\(c=1\/c=-1)
 |_=>True
section
variable (W:Wd)(too:Addr)(T:Tb)(n:Nat)
def newL(l:List DV)(Q:DV->St->Prop)(V:St):Prop:=∀ a,V.mu a=none->Q (.ref a) ⟨V.loc,V.mu.set a (.lst l)⟩
def int1(x:DV)(K:Int->Prop)(N:Prop):Prop:=match x with
 |.int i=>K i
 |_=>N
def ref1(x:DV)(K:Addr->Prop):Prop:=match x with
 |.ref a=>K a
 |_=>False
def arg1(ds:List DV)(K:DV->Prop):Prop:=match ds with
 |[]=>False
 |d::r=>(match r with|[]=>K d|_::_=>False)
def arg2(ds:List DV)(K:DV->DV->Prop):Prop:=match ds with
 |[]=>False
 |d::r=>arg1 r (K d)
def atL(o:Option MObj)(K:List DV->Prop):Prop:=match o with
 |some o=>(match o with|.lst l=>K l|_=>False)
 |none=>False
def atS(o:Option MObj)(K:List (Nat×DV)->Prop):Prop:=match o with
 |some o=>(match o with|.dS l=>K l|_=>False)
 |none=>False
def tup1(x:DV)(K:List DV->Prop):Prop:=match x with
 |.tup l=>K l
 |_=>False
def if0(i:Int)(K:Prop):Prop:=match i with
 |.ofNat k=>(match k with|0=>K|_+1=>False)
 |.negSucc _=>False
def str1(x:DV)(K:Nat->Prop):Prop:=match x with
 |.str n=>K n
 |_=>False
def yCf(l:List DV)(K:DV->List DV->Prop):Prop:=match l with
 |[]=>False
 |d::r=>K d r
def zMa(op:BOp)(x y:DV)(Q:DV->St->Prop)(V:St):Prop:=match op with
 |.add=>optN (asL V.mu x) (λl=>opt (asL V.mu y) λr=>small (l.length+r.length)/\newL (l++r) Q V) (int1 x (λi=>int1 y (λj=>Q (.int (i+j)) V) False) False)
 |.sub=>int1 x (λi=>int1 y (λj=>Q (.int (i-j)) V) False) False
 |.mul=>int1 y (λj=>optN (asL V.mu x) (λl=>0<=j/\j<2 ^ 63/\small (l.length * j.toNat)/\newL (List.replicate j.toNat l).flatten Q V) (int1 x (λi=>bigI i/\bigI j/\Q (.int (i * j)) V) False)) False
 |.fdiv=>int1 x (λi=>int1 y (λj=>0<j/\bigI j/\Q (.int (i / j)) V) False) False
 |.mod=>int1 x (λi=>int1 y (λj=>0<j/\Q (.int (i % j)) V) False) False
 |.pow=>int1 x (λi=>int1 y (λj=>i=10/\j=12/\Q (.int 1000000000000) V) False) False
 |.band=>int1 x (λi=>int1 y (λj=>0<=i/\0<=j/\Q (.int (Int.ofNat (i.toNat&&& j.toNat))) V) False) False
def zGz(l:List DV):Option (List Int):=match l with
 |[]=>some []
 |d::r=>ob none (intD d) λi=>ob none (zGz r) λl=>some (i::l)
def yEg(ds:List DV)(Q:DV->Prop):Prop:=yCf ds λa r=>int1 a (λa=>(match r with
 |[]=>bigI a/\Q (.rng 0 a 1)
 |b::r=>int1 b (λb=>arg1 r λc=>int1 c (λc=>bigI a/\bigI b/\(c=1\/c=-1)/\Q (.rng a b c)) False) False)) False
def wpBi(b:Bi)(ds:List DV)(Q:DV->St->Prop)(V:St):Prop:=match b with
 |.len=>arg1 ds λd=>opt (lenV V.mu d) λk=>small k/\Q (.int (Int.ofNat k)) V
 |.range=>yEg ds λd=>Q d V
 |.tuple=>arg1 ds λd=>opt (asL V.mu d) λl=>small l.length/\Q (.tup l) V
 |.sorted=>arg1 ds λd=>opt (asL V.mu d) λl=>opt (zGz l) λis=>is.length<64/\∀ is':List Int,is'.Perm is->is'.Pairwise (·<=·)->newL (is'.map .int) Q V
 |.min=>arg1 ds λd=>tup1 d λl=>arg2 l λa b=>int1 a (λa=>int1 b (λb=>Q (.int (if b<a then b else a)) V) False) False
 |.int=>arg1 ds λd=>int1 d (λi=>Q (.int i) V) False
 |.bytes=>arg1 ds λd=>opt (asL V.mu d) λl=>opt (zGz l) λis=>small is.length/\(∀ i∈is,0<=i/\i<256)/\Q (.bytes (is.map λi=>UInt8.ofNat i.toNat).toArray) V
 |_=>False
def zFo(f:DV)(ds:List DV)(Q X:DV->St->Prop)(V:St):Prop:=match f with
 |.fn a=>sel (T.kf a) (zA4 W too n a ds V.mu (λd m=>Q d ⟨V.loc,m⟩) (λd m=>X d ⟨V.loc,m⟩)) False
 |.cls C=>opt (T.ini C) λf=>(match n with
  |n+1=>∀ x dx,V.mu x=none->V.mu dx=none->x≠dx->zA4 W too n f (.ref x::ds) ((V.mu.set dx (.attrs [] [])).set x (.inst C dx)) (λd m=>d=.none/\Q (.ref x) ⟨V.loc,m⟩) (λU U=>False)
  |0=>False)
 |.bi b=>wpBi b ds Q V
 |_=>False
inductive Cal where
 |fn (f:Addr)
 |append|pop|extend|get
noncomputable def Cal.ctorIdx(d:Cal):Nat:=@Cal.casesOn (λU=>Nat) d (λU=>0) 1 2 3 4
noncomputable def isDS:MObj->Bool
 |.dS _=>true
 |_=>false
theorem yC4(h:isDS o=true):∃ kv,o=.dS kv:=by
 cases o with
 |dS kv=>exact⟨kv,rfl⟩
 |_=>exact Bool.noConfusion h
noncomputable def lstM(x:Nat):Option Cal:=if Nat.beq x (3638987513726)then some .append else if Nat.beq x (1894994)then some .pop else if Nat.beq x (3638987581326)then some .extend else none
def calM(o:MObj)(x:Nat):Option Cal:=optB (lstO o) (λU=>lstM x) (if isDS o then if Nat.beq x (1960259)then some .get else none else none)
def zRz(m:Mt)(o:DV)(x:Nat):Option Cal:=ob none (refD o) λa=>optB (zDg m a) (λr=>optB (fld r.ns r.vs x) (λU=>none) (ob none (T.me r.C x) λf=>some (.fn f))) (ob none (m a) λo=>calM o x)
noncomputable def zRe:List (Nat×DV)->Nat->Option DV
 |[],_=>none
 |(k,d)::r,x=>if Nat.beq k x then some d else zRe r x
def zKc(c:Cal)(o:DV)(ds:List DV)(Q X:DV->St->Prop)(V:St):Prop:=match c with
 |.fn f=>zA4 W too n f (o::ds) V.mu (λd m=>Q d ⟨V.loc,m⟩) (λd m=>X d ⟨V.loc,m⟩)
 |.append=>ref1 o λa=>arg1 ds λd=>atL (V.mu a) λl=>small l.length/\Q .none ⟨V.loc,V.mu.set a (.lst (l++[d]))⟩
 |.pop=>ref1 o λa=>(match ds with
  |[]=>atL (V.mu a) λl=>opt l.getLast? λd=>small l.length/\Q d ⟨V.loc,V.mu.set a (.lst l.dropLast)⟩
  |d::r=>(match r with|[]=>int1 d (λi=>if0 i (atL (V.mu a) λl=>yCf l λd l=>small l.length/\Q d ⟨V.loc,V.mu.set a (.lst l)⟩)) False|_::_=>False))
 |.extend=>ref1 o λa=>arg1 ds λd=>atL (V.mu a) λl=>opt (asL V.mu d) λr=>small (l.length+r.length)/\Q .none ⟨V.loc,V.mu.set a (.lst (l++r))⟩
 |.get=>ref1 o λa=>arg2 ds λx d=>str1 x λx=>atS (V.mu a) λkv=>Q ((zRe kv x).getD d) V
def bnd(dflt:Nat)(d:DV):Option Nat:=if isNone d then some dflt else natD d
def zSd(o l u:DV)(Q:DV->St->Prop)(V:St):Prop:=opt (asL V.mu o) λxs=>opt (bnd 0 l) λi=>opt (bnd xs.length u) λj=>small xs.length/\newL ((xs.take j).drop i) Q V
def puts:Loc->List Nat->List DV->Loc
 |l,x::xs,d::ds=>puts (put l x d) xs ds
 |l,_,_=>l
def zGc(l:Loc)(m:Mt)(ns:CN)(d:DV):Option Loc:=match ns with
 |.one x=>some (put l x d)
 |.tup xs=>ob none (seqV m d) λds=>if Nat.beq xs.length ds.length then some (puts l xs ds)else none
def bindC(l:Loc)(m:Mt)(ns:CN)(d:DV):Option Loc:=match ns with
 |.one x=>some ((x,d)::l)
 |.tup xs=>ob none (seqV m d) λds=>if Nat.beq xs.length ds.length then some (xs.zip ds++l)else none
def zB6(d:DV)(xs:List DV)(V:St):Prop:=match d with
 |.ref a=>V.mu a=some (.lst xs)
 |_=>True
def forW(gd:St->Prop)(B:DV->(St->Prop)->St->Prop)(R:St->Prop):List DV->St->Prop
 |[],V=>gd V/\R V
 |x::xs,V=>gd V/\B x (forW gd B R xs) V
def zEc(gd:St->Prop)(B:DV->(Option DV->Mt->Prop)->Mt->Prop)(loc:Loc)(Q:DV->St->Prop):List DV->List DV->Mt->Prop
 |[],acc,m=>gd ⟨loc,m⟩/\newL acc Q ⟨loc,m⟩
 |x::xs,acc,m=>gd ⟨loc,m⟩/\B x (λr m'=>optN r (λd=>zEc gd B loc Q xs (acc++[d]) m') (zEc gd B loc Q xs acc m')) m
def zH1(B:(St->Prop)->St->Prop):Nat->St->Prop
 |0,_=>False
 |k+1,V=>B (zH1 B k) V
def no(_:DV)(_:St):Prop:=False
noncomputable def dctV:List (Nat×Int)->List (Nat×DV)
 |[]=>[]
 |(k,i)::r=>(k,.int i)::dctV r
mutual
def wpE:CE->(DV->St->Prop)->(DV->St->Prop)->St->Prop
 |.cst d,Q,_,V=>Q d V
 |.var x,Q,_,V=>opt (look V.loc x) λd=>Q d V
 |.glob x,Q,_,V=>opt (look T.gl x) λd=>Q d V
 |.tup es,Q,X,V=>wpEs es (λds V=>sel (Nat.ble ds.length 1000) (Q (.tup ds) V) False) X V
 |.lst es,Q,X,V=>wpEs es (λds V=>sel (Nat.ble ds.length 1000) (newL ds Q V) False) X V
 |.dct kv,Q,_,V=>∀ a,V.mu a=none->Q (.ref a) ⟨V.loc,V.mu.set a (match kv with|[]=>.dE|kv=>.dS (dctV kv))⟩
 |.bin op a b,Q,X,V=>wpE a (λx V=>wpE b (λy V=>zMa op x y Q V) X V) X V
 |.neg i,Q,_,V=>Q (.int (-i)) V
 |.notE a,Q,X,V=>wpE a (λd V=>opt (zCh d) λt=>Q (.bool (!t)) V) X V
 |.ite t a b,Q,X,V=>wpT t (λr V=>sel r (wpE a Q X V) (wpE b Q X V)) X V
 |.andE a b,Q,X,V=>wpE a (λd V=>opt (zCh d) λt=>sel t (wpE b Q X V) (Q d V)) X V
 |.orE a b,Q,X,V=>wpE a (λd V=>opt (zCh d) λt=>sel t (Q d V) (wpE b Q X V)) X V
 |.cmp a r,Q,X,V=>wpE a (λd V=>wpC d r (λt V=>Q (.bool t) V) X V) X V
 |.isN b a,Q,X,V=>wpE a (λd V=>sel (noBi d) (Q (.bool (b==isNone d)) V) False) X V
 |.call f es,Q,X,V=>wpE f (λfv V=>wpEs es (λds V=>zFo W too T n fv ds Q X V) X V) X V
 |.meth o x es,Q,X,V=>wpE o (λov V=>opt (zRz T V.mu ov x) λc=>wpEs es (λds V=>zKc W too n c ov ds Q X V) X V) X V
 |.attr o x,Q,X,V=>wpE o (λov V=>opt (getA V.mu ov x) λp=>sel (T.rd p.1 x) (Q p.2 V) False) X V
 |.sub o i,Q,X,V=>wpE o (λov V=>wpE i (λiv V=>subW V.mu ov iv λd=>Q d V) X V) X V
 |.slc o l u,Q,X,V=>wpE o (λov V=>wpE l (λlv V=>wpE u (λuv V=>zSd ov lv uv Q V) X V) X V) X V
 |.rev o,Q,X,V=>wpE o (λov V=>opt (asL V.mu ov) λxs=>small xs.length/\newL xs.reverse Q V) X V
 |.comp elt xs it ifs,Q,X,V=>wpE it (λd V=>opt (zE0 V.mu d) λl=>zD4 d/\small l.length/\zEc (zB6 d l) (λx K m=>opt (bindC V.loc m xs x) λloc=>
     wpTs ifs (λok σ₁=>sel ok (wpE elt (λy σ₂=>∃ m' y',Fz σ₂.mu y m' y'/\K (some y') m') no σ₁) (K none σ₁.mu)) no ⟨loc,m⟩) V.loc Q l [] V.mu) X V
 |.compZ elt xs a b,Q,X,V=>wpE a (λd V=>wpE b (λe V=>opt (tupD d) λl=>opt (tupD e) λr=>small l.length/\small r.length/\zEc (λU=>True) (λx K m=>opt (bindC V.loc m xs x) λloc=>
     wpE elt (λy σ₂=>∃ m' y',Fz σ₂.mu y m' y'/\K (some y') m') no ⟨loc,m⟩) V.loc Q ((l.zip r).map λp=>.tup [p.1,p.2]) [] V.mu) X V) X V
 |.bad,_,_,_=>False
def wpEs:CEs->(List DV->St->Prop)->(DV->St->Prop)->St->Prop
 |.nil,Q,_,V=>Q [] V
 |.cons e r,Q,X,V=>wpE e (λd V=>wpEs r (λds V=>Q (d::ds) V) X V) X V
def wpTs:CEs->(Bool->St->Prop)->(DV->St->Prop)->St->Prop
 |.nil,Q,_,V=>Q true V
 |.cons e r,Q,X,V=>wpT e (λt V=>sel t (wpTs r Q X V) (Q false V)) X V
def wpC:DV->CCs->(Bool->St->Prop)->(DV->St->Prop)->St->Prop
 |a,.one op e,Q,X,V=>wpE e (λb V=>opt (cmpV V.mu op a b) λt=>Q t V) X V
 |a,.cons op e r,Q,X,V=>wpE e (λb V=>opt (cmpV V.mu op a b) λt=>sel t (wpC b r Q X V) (Q false V)) X V
def wpT:CE->(Bool->St->Prop)->(DV->St->Prop)->St->Prop
 |.notE a,Q,X,V=>wpT a (λt V=>Q (!t) V) X V
 |.andE a b,Q,X,V=>wpT a (λt V=>sel t (wpT b Q X V) (Q false V)) X V
 |.orE a b,Q,X,V=>wpT a (λt V=>sel t (Q true V) (wpT b Q X V)) X V
 |.cmp a r,Q,X,V=>wpE a (λd V=>wpC d r Q X V) X V
 |.ite t a b,Q,X,V=>wpT t (λr V=>sel r (wpT a Q X V) (wpT b Q X V)) X V
 |.isN b a,Q,X,V=>wpE a (λd V=>sel (noBi d) (Q (b==isNone d) V) False) X V
 |.var x,Q,_,V=>opt (look V.loc x) λd=>opt (zCh d) λt=>Q t V
 |.call f es,Q,X,V=>wpE f (λfv V=>wpEs es (λds V=>zFo W too T n fv ds (λd V=>opt (zCh d) λt=>Q t V) X V) X V) X V
 |.attr o x,Q,X,V=>wpE o (λov V=>opt (getA V.mu ov x) λp=>sel (T.rd p.1 x) (opt (zCh p.2) λt=>Q t V) False) X V
 |.sub o i,Q,X,V=>wpE o (λov V=>wpE i (λiv V=>subW V.mu ov iv λd=>opt (zCh d) λt=>Q t V) X V) X V
 |_,_,_,_=>False
end
def zOi(d:DV):Bool:=ob false (yDe d) λb=>b
theorem zRi(h:zOi d=true):d=.bool true:=(zAm h).elim λb h=>by rw[zQe h.1,h.2]
def zF9(o:DV)(x:Nat)(d:DV)(K:St->Prop)(V:St):Prop:=opt (refD o) λa=>opt (zDg V.mu a) λr=>sel (T.st r.C x) (sel (Nat.ble r.ns.length 40) (K ⟨V.loc,V.mu.set r.dx (.attrs (fput r.ns r.vs x d).1 (fput r.ns r.vs x d).2)⟩) False) False
def zI4(o i d:DV)(K:St->Prop)(V:St):Prop:=opt (refD o) λa=>opt (V.mu a) λmo=>optN (lstO mo) (λl=>opt (natD i) λk=>k<l.length/\small l.length/\K ⟨V.loc,V.mu.set a (.lst (l.set k d))⟩)
 (opt (zQ7 i mo) λmo'=>sel (zOi d) (small (zNi mo)/\K ⟨V.loc,V.mu.set a mo'⟩) False)
def wpA(t:CT)(d:DV)(K:St->Prop)(X:DV->St->Prop)(V:St):Prop:=match t with
 |.nm ns=>opt (zGc V.loc V.mu ns d) λl=>K ⟨l,V.mu⟩
 |.swap xs=>opt (tupD d) λds=>sel (Nat.beq xs.length ds.length) (K ⟨puts V.loc xs.reverse ds.reverse,V.mu⟩) False
 |.attr o x=>wpE W too T n o (λov V=>zF9 T ov x d K V) X V
 |.sub o i=>wpE W too T n o (λov V=>wpE W too T n i (λiv V=>zI4 ov iv d K V) X V) X V
 |.attr3 o₁ x₁ o₂ x₂ o₃ x₃=>opt (tupD d) λl=>opt (zMd l) λp=>wpE W too T n o₁ (λov V=>zF9 T ov x₁ p.1 (λV=>wpE W too T n o₂ (λov V=>zF9 T ov x₂ p.2.1 (λV=>wpE W too T n o₃ (λov V=>zF9 T ov x₃ p.2.2 K V) X V) V) X V) V) X V
mutual
def wpS:CS->(Option DV->St->Prop)->(DV->St->Prop)->St->Prop
 |.asg t e,Q,X,V=>wpE W too T n e (λd V=>wpA W too T n t d (λV=>Q none V) X V) X V
 |.expr e,Q,X,V=>wpE W too T n e (λU V=>Q none V) X V
 |.ret e,Q,X,V=>wpE W too T n e (λd V=>Q (some d) V) X V
 |.ife t a b,Q,X,V=>wpT W too T n t (λr V=>sel r (wpSs a Q X V) (wpSs b Q X V)) X V
 |.whl t b,Q,_,V=>∃ k,zH1 (λK V=>wpT W too T n t (λr V=>sel r (wpSs b (λf V=>optN f (λd=>Q (some d) V) (K V)) no V) (Q none V)) no V) k V
 |.forS ns it b,Q,X,V=>wpE W too T n it (λd V=>opt (zE0 V.mu d) λl=>zD4 d/\forW (zB6 d l) (λx K V=>opt (zGc V.loc V.mu ns x) λloc=>wpSs b (λf V=>optN f (λd=>Q (some d) V) (K V)) no ⟨loc,V.mu⟩) (λV=>Q none V) l V) X V
 |.raiseT e,_,X,V=>wpE W too T n e (λd V=>X d V) no V
 |.tryT x e ev told,Q,_,V=>wpE W too T n e (λd V=>Q none ⟨put V.loc x d,V.mu⟩) (λd V=>optN (look V.loc ev) (λU=>False) (Q none ⟨put V.loc told d,V.mu⟩)) V
 |.bad,_,_,_=>False
def wpSs:CSs->(Option DV->St->Prop)->(DV->St->Prop)->St->Prop
 |.nil,Q,_,V=>Q none V
 |.cons s r,Q,X,V=>wpS s (λf V=>optN f (λd=>Q (some d) V) (wpSs r Q X V)) X V
end
end
theorem yC7{K:Int->Prop}{N:Prop}(h:int1 x K N):(∃ i,x=.int i/\K i)\/N:=by
 cases x with
 |int i=>exact .inl ⟨i,rfl,h⟩
 |_=>exact .inr h
theorem zE1{K:Int->Prop}(h:int1 x K False):∃ i,x=.int i/\K i:=(yC7 h).elim id False.elim
theorem zUt{x y:DV}{K:Int->Int->Prop}(h:int1 x (λi=>int1 y (K i) False) False):∃ i j,x=.int i/\y=.int j/\K i j:=
 (zE1 h).elim λi h=>(zE1 h.2).elim λj q=>⟨i,j,h.1,q.1,q.2⟩
theorem yB8{x:DV}{K:Addr->Prop}(h:ref1 x K):∃ a,x=.ref a/\K a:=by
 cases x with
 |ref a=>exact⟨a,rfl,h⟩
 |_=>exact False.elim h
theorem yAj{x:DV}{K:List DV->Prop}(h:tup1 x K):∃ l,x=.tup l/\K l:=by
 cases x with
 |tup a=>exact⟨a,rfl,h⟩
 |_=>exact False.elim h
theorem yAt{x:DV}{K:Nat->Prop}(h:str1 x K):∃ l,x=.str l/\K l:=by
 cases x with
 |str a=>exact⟨a,rfl,h⟩
 |_=>exact False.elim h
theorem yGl{i:Int}{K:Prop}(h:if0 i K):i=0/\K:=by
 cases i with
 |ofNat k=>cases k with
  |zero=>exact⟨rfl,h⟩
  |succ _=>exact False.elim h
 |negSucc _=>exact False.elim h
theorem zP0{K:DV->Prop}(h:arg1 ds K):∃ d,ds=[d]/\K d:=by
 cases ds with
 |nil=>exact False.elim h
 |cons d r=>cases r with
  |nil=>exact⟨d,rfl,h⟩
  |cons _ _=>exact False.elim h
theorem zW5{ds:List DV}{K:DV->DV->Prop}(h:arg2 ds K):∃ d e,ds=[d,e]/\K d e:=by
 cases ds with
 |nil=>exact False.elim h
 |cons d r=>exact(zP0 h).elim λe q=>⟨d,e,by rw[q.1],q.2⟩
theorem zPx{K:DV->List DV->Prop}(h:yCf l K):∃ d r,l=d::r/\K d r:=by
 cases l with
 |nil=>exact False.elim h
 |cons d r=>exact⟨d,r,rfl,h⟩
theorem zQg{K:List DV->Prop}(h:atL o K):∃ l,o=some (.lst l)/\K l:=by
 cases o with
 |none=>exact False.elim h
 |some o=>cases o with
  |lst l=>exact⟨l,rfl,h⟩
  |_=>exact False.elim h
theorem yHk{o:Option MObj}{K:List (Nat×DV)->Prop}(h:atS o K):∃ l,o=some (.dS l)/\K l:=by
 cases o with
 |none=>exact False.elim h
 |some o=>cases o with
  |dS l=>exact⟨l,rfl,h⟩
  |_=>exact False.elim h
end
section
structure EnvOk(env:Env):Prop where
 cd:env.kindOf "__classdict__"≠some .free
 kind:env.scope.kind=.function
 gl:env.globals=mainGlobals
 bi:env.builtins=builtinsNs
def zCe(env:Env)(kd:List (Nat×Nat)):Prop:=∀ x,okc x=true->(zAn kd (enc x)=0->env.kindOf x=some .local)/\(zAn kd (enc x)=1->env.kindOf x=some .cell\/env.kindOf x=some .free)/\(zAn kd (enc x)=2->env.kindOf x=some .globalImplicit)
def GlOk(W:Wd)(gl:Loc):Prop:=∀ x d,okc x=true->look gl (enc x)=some d->(x==("__debug__": Str))=false/\∃ v,Rep W.h₀.get? d v/\(W.mg x=some v\/(W.mg x=none/\W.mb x=some v))
noncomputable def kpF(cx:Cx)(s:Shared):Hp:=λb=>if b=cx.env.locals\/b∈cx.env.cells.map (·.2)then s.heap.get? b else cx.kp b
def PostE(W:Wd)(cx:Cx)(g:Hp)(Q:DV->St->Prop)(v:Value)(s':Shared):Prop:=∃ g' σ' d,Ext g g'/\Good W cx g' σ' s'/\Rep g' d v/\Q d σ'
def PostL(W:Wd)(cx:Cx)(g:Hp)(Q:List DV->St->Prop)(vs:List Value)(s':Shared):Prop:=∃ g' σ' ds,Ext g g'/\Good W cx g' σ' s'/\RepL g' ds vs/\Q ds σ'
def PostG{α:Type}(W:Wd)(cx:Cx)(g:Hp)(Q:α->St->Prop)(a:α)(s':Shared):Prop:=∃ g' σ',Ext g g'/\Good W cx g' σ' s'/\Q a σ'
def EX(W:Wd)(too:Addr)(cx:Cx)(X:DV->St->Prop)(e:Value)(s':Shared):Prop:=
 ∃ ea g V d,e=.ref ea/\Good W cx g V s'/\Exc g (kpF cx s') V.mu too ea d s'/\X d V
def EvE(W:Wd)(too:Addr)(cx:Cx)(t:Sem Value)(Q:DV->St->Prop)(X:DV->St->Prop)(V:St):Prop:=
 ∀ g s,Good W cx g V s->wpAny W.M cx.A t (PostE W cx g Q) (EX W too cx X) s
def EvL(W:Wd)(too:Addr)(cx:Cx)(t:Sem (List Value))(Q:List DV->St->Prop)(X:DV->St->Prop)(V:St):Prop:=
 ∀ g s,Good W cx g V s->wpAny W.M cx.A t (PostL W cx g Q) (EX W too cx X) s
def EvG(W:Wd)(too:Addr)(cx:Cx){α:Type}(t:Sem α)(Q:α->St->Prop)(X:DV->St->Prop)(V:St):Prop:=
 ∀ g s,Good W cx g V s->wpAny W.M cx.A t (PostG W cx g Q) (EX W too cx X) s
section
variable {W:Wd}{too:Addr}{cx:Cx}{X:DV->St->Prop}{V:St}{g g':Hp}{s:Shared}
theorem zO8{P:Prop}{s':Shared}(h:PostE W cx g Q v s')(k:∀ g' σ' d,Ext g g'->Good W cx g' σ' s'->Rep g' d v->Q d σ'->P):P:=
 h.elim λU h=>h.elim λU h=>h.elim λU h=>k _ _ _ h.1 h.2.1 h.2.2.1 h.2.2.2
theorem zTh{P:Prop}{Q:List DV->St->Prop}{s':Shared}(h:PostL W cx g Q v s')(k:∀ g' σ' d,Ext g g'->Good W cx g' σ' s'->RepL g' d v->Q d σ'->P):P:=
 h.elim λU h=>h.elim λU h=>h.elim λU h=>k _ _ _ h.1 h.2.1 h.2.2.1 h.2.2.2
theorem zTi{α:Type}{P:Prop}{Q:α->St->Prop}{v:α}{s':Shared}(h:PostG W cx g Q v s')(k:∀ g' σ',Ext g g'->Good W cx g' σ' s'->Q v σ'->P):P:=
 h.elim λU h=>h.elim λU h=>k _ _ h.1 h.2.1 h.2.2
theorem zBl{Q:DV->St->Prop}{P:Value->Shared->Prop}{E E':Value->Shared->Prop}(h:wpAny W.M A t (PostE W cx g Q) E s)
  (k:∀ v s' g' σ' d,Ext g g'->Good W cx g' σ' s'->Rep g' d v->Q d σ'->P v s') (k':∀ e s',E e s'->E' e s'):wpAny W.M A t P E' s:=wpAny_mono h (λv s' h=>zO8 h (k v s')) k'
theorem zI8{A:Around}{t:Sem (List Value)}{Q:List DV->St->Prop}{E E':Value->Shared->Prop}(h:wpAny W.M A t (PostL W cx g Q) E s)
  (k:∀ v s' g' σ' d,Ext g g'->Good W cx g' σ' s'->RepL g' d v->Q d σ'->P v s') (k':∀ e s',E e s'->E' e s'):wpAny W.M A t P E' s:=wpAny_mono h (λv s' h=>zTh h (k v s')) k'
theorem zC5{α:Type}{A:Around}{t:Sem α}{Q:α->St->Prop}{P:α->Shared->Prop}{E E':Value->Shared->Prop}(h:wpAny W.M A t (PostG W cx g Q) E s)
  (k:∀ v s' g' σ',Ext g g'->Good W cx g' σ' s'->Q v σ'->P v s') (k':∀ e s',E e s'->E' e s'):wpAny W.M A t P E' s:=wpAny_mono h (λv s' h=>zTi h (k v s')) k'
theorem PostE.from{v:Value}(h:PostE W cx g' Q v s)(e:Ext g g'):PostE W cx g Q v s:=
 zO8 h λg₁ σ₁ d a b c q=>⟨g₁,σ₁,d,e.trans a,b,c,q⟩
theorem PostL.from{Q:List DV->St->Prop}{v:List Value}(h:PostL W cx g' Q v s)(e:Ext g g'):PostL W cx g Q v s:=
 zTh h λg₁ σ₁ d a b c q=>⟨g₁,σ₁,d,e.trans a,b,c,q⟩
theorem PostG.from{α:Type}{Q:α->St->Prop}{v:α}(h:PostG W cx g' Q v s)(e:Ext g g'):PostG W cx g Q v s:=
 zTi h λg₁ σ₁ a b q=>⟨g₁,σ₁,e.trans a,b,q⟩
class Ends {α:Type} (P:Hp->α->Shared->Prop):Prop where
 down:∀{g g':Hp} {a:α} {s:Shared},Ext g g'->P g' a s->P g a s
theorem zHi:Ends (λg=>PostE W cx g Q):=⟨λe h=>h.from e⟩
theorem yJ3:Ends (λg=>PostL W cx g Q):=⟨λe h=>h.from e⟩
theorem zVc:Ends (λg=>PostG (α:=α) W cx g Q):=⟨λe h=>h.from e⟩
theorem zDu(hP:Ends P)(G:Good W cx g V s)(h:EvE W too cx t Q X V)
  (k:∀ g' σ' s' d v,Ext g g'->Good W cx g' σ' s'->Rep g' d v->Q d σ'->wpAny W.M cx.A (f v) (P g') (EX W too cx X) s'):wpAny W.M cx.A (t >>= f) (P g) (EX W too cx X) s:=
 wpAny_bind (zBl (h g s G) (λv s' g' σ' d e G' r q=>wpAny_mono (k g' σ' s' d v e G' r q) (λU U h=>hP.down e h) λU U h=>h) λU U h=>h)
theorem yI3{α β:Type}{P:Hp->α->Shared->Prop}(hP:Ends P){t:Sem β}{f:β->Sem α}{Q:β->St->Prop}(G:Good W cx g V s)(h:EvG W too cx t Q X V)
  (k:∀ g' σ' s' b,Ext g g'->Good W cx g' σ' s'->Q b σ'->wpAny W.M cx.A (f b) (P g') (EX W too cx X) s'):wpAny W.M cx.A (t >>= f) (P g) (EX W too cx X) s:=
 wpAny_bind (zC5 (h g s G) (λv s' g' σ' e G' q=>wpAny_mono (k g' σ' s' v e G' q) (λU U h=>hP.down e h) λU U h=>h) λU U h=>h)
theorem yEo(hP:Ends P)(G:Good W cx g V s)(h:EvL W too cx t Q X V)
  (k:∀ g' σ' s' ds vs,Ext g g'->Good W cx g' σ' s'->RepL g' ds vs->Q ds σ'->wpAny W.M cx.A (f vs) (P g') (EX W too cx X) s'):wpAny W.M cx.A (t >>= f) (P g) (EX W too cx X) s:=
 wpAny_bind (zI8 (h g s G) (λv s' g' σ' d e G' r q=>wpAny_mono (k g' σ' s' d v e G' r q) (λU U h=>hP.down e h) λU U h=>h) λU U h=>h)
theorem Good.post(G:Good W cx g V s)(r:Rep g d v)(q:Q d V):PostE W cx g Q v s:=⟨g,V,d,Ext.rfl,G,r,q⟩
theorem Good.postG(G:Good W cx g V s)(q:Q a V):PostG W cx g Q a s:=⟨g,V,Ext.rfl,G,q⟩
theorem zZz{c:Prop}{i:Decidable c}{a b:α}{P:α->Prop}(h:P (@ite α c i a b))(nb:P b->False):c/\P a:=by
 cases i with
 |isTrue p=>exact⟨p,h⟩
 |isFalse p=>exact(nb h).elim
theorem zYt{c:Const}{Q:DV->St->Prop}{Tb:Tb}(h:wpE W too Tb n (yA9 c) Q X V):EvE W too cx (constValue env c) Q X V:=by
 intro g s G
 cases c with
 |none=>
  exact wpAny_pure (G.post .none h)
 |bool b=>
  exact wpAny_pure (G.post (.bool b) h)
 |int i=>
  exact wpAny_mkInt ((G.toks _).post (.int i _) h)
 |str x=>
  refine e02 (λok h=>?_) (zZz (c:=okc x=true) (P:=λc=>wpE W too Tb n c Q X V) h id)
  exact wpAny_mkText ((G.toks _).post (.str x _ ok) h)
 |bytes b=>
  exact wpAny_mkTextBytes ((G.toks _).post (.bytes _ _) h)
 |_=>
  exact h.elim
theorem yCn(ok:EnvOk cx.env)(WO:W.Ok)(hk:zCe cx.env cx.kd){Tb:Tb}(hgl:GlOk W Tb.gl){x:Str}{pos:Pos}(h:wpE W too Tb n (yHf cx.kd x) Q X V) :
  EvE W too cx (eval (.Name x pos) cx.env) Q X V:=by
 intro g s G
 refine e02 (λokx h=>?_) (zZz (P:=λc=>wpE W too Tb n c Q X V) h id)
 rw[Bool.and_eq_true,Bool.not_eq_true']at okx
 (revert okx;refine e02 λokx hdb=>?_)
 have hd:(x==("__debug__": Str))=false:=by
  rw[beq_eq_false_iff_ne]
  rintro rfl
  rw[zBn]at hdb;cases hdb
 refine e03 (λk0 k1 k2=>?_) (hk x okx)
 have loc (hv:opt (look V.loc (enc x)) λd=>Q d V) (hkd:(zAn cx.kd (enc x)=0/\cx.env.kindOf x=some .local)\/(zAn cx.kd (enc x)=1/\(cx.env.kindOf x=some .cell\/cx.env.kindOf x=some .free))) :
   wpAny W.M cx.A (eval (.Name x pos) cx.env) (PostE W cx g Q) (EX W too cx X) s:=by
  refine e12 (λd e hv=>?_) (zAb hv)
  refine wpAny_Name ?_ hd
  rcases hkd with hk|hk
  ·refine e12 (λmm hns hva=>?_) G.frm.ns
   exact e12 (λv h1 h2=>wpAny_loadName_local ok.kind hk.2 hns h1 (G.post h2 hv)) (hva x d okx e hk.1)
  ·refine e23 (λc v h1 h2 h3=>?_) (G.frm.cells x d okx e hk.1)
   rcases hk.2 with hkd|hkd
   ·exact wpAny_loadName_cell ok.kind hkd h1 h2 (G.post h3 hv)
   ·refine wpAny_loadName_free ok.kind hkd h1 h2 (G.post h3 hv) ?_
    rw[beq_eq_false_iff_ne]
    exact λe=>ok.cd (e▸hkd)
 generalize e:zAn cx.kd (enc x)=k at h k0 k1 k2
 cases k with
 |zero=>exact loc h (.inl ⟨e,k0 rfl⟩)
 |succ k=>
 cases k with
 |zero=>exact loc h (.inr ⟨e,k1 rfl⟩)
 |succ k=>
 cases k with
 |zero=>
  refine e12 (λd e2 h=>?_) (zAb h)
  refine e02 (λhd' q9=>e12 (λv r hv=>?_) q9) (hgl x d okx e2)
  have r':Rep g d v:=r.mono G.sim.base
  have hg:s.heap.Ns cx.env.globals W.mg:=by rw[ok.gl];exact WO.ng.keeps G.sim.ext
  refine Calls.Name_function_global ok.kind (k2 rfl) ?_ hd
  rcases hv with hv|hv
  ·exact Calls.loadGlobal_global hg hv (G.post r' h)
  ·exact Calls.loadGlobal_builtin hg hv.1 (by rw[ok.bi];exact WO.nb.keeps G.sim.ext) hv.2 (G.post r' h)
 |succ k=>exact h.elim
end
end
section
section
variable {W:Wd}{too:Addr}{cx:Cx}{X:DV->St->Prop}{V:St}{g g':Hp}{s:Shared}{E:Value->Shared->Prop}
theorem zF3(h:EvE W too cx t Q X V):EvE W too cx (holding vs t) Q X V:=λg s G=>wpAny_holding (h g s G)
theorem zKw(h:wpAny M A m Q E s):wpAny M A (operate vs m) Q E s:=λΓ p hΓ=>by rw[Sem.wp_operate];exact h Γ p hΓ
theorem zKr(h:Q () s):wpAny M A (release vs ks) Q E s:=λΓ p hΓ=>by rw[Sem.wp_release];exact h
theorem zPr(r:MRep prog w g (.lst l) o):∃ n vs,o=listOf (List.toArray vs) n/\RepL g l vs:=by
 cases r with
 |lst r=>exact⟨_,_,rfl,r⟩
theorem zD9(G:Good W cx g V s)(r:Rep g d v)(h:asL V.mu d=some l) :
  ∃ a n vs,v=.ref a/\s.heap.get? a=some (listOf vs.toArray n)/\RepL g l vs:=by
 rcases zQi h with rfl|⟨a,rfl,hm⟩
 ·exact zT6 (G:=λv=>∃ a n vs,v=Value.ref a/\s.heap.get? a=some (listOf vs.toArray n)/\RepL g l vs) r λa n vs h r=>⟨a,n,vs,rfl,G.sim.frz _ _ h,r⟩
 ·exact e12 (λo h1 h2=>e22 (λn vs e r'=>⟨a,n,vs,zAw r,h1.trans (congrArg some e),r'⟩) (zPr h2)) (G.sim.muts _ _ hm).2.2
theorem zIf(G:Good W cx g V s)(r:Rep g d v)(h:asL V.mu d=some l):∃ a vs,v=.ref a/\s.heap.IsList a vs.toArray/\RepL g l vs:=
 e33 (λa n vs e h1 h4=>⟨a,vs,e,⟨_,h1,rfl,n,rfl⟩,h4⟩) (zD9 G r h)
theorem zPf(G:Good W cx g V s)(r:Rep g d v)(h:seqV V.mu d=some l) :
  ∃ a o n vs,v=.ref a/\s.heap.get? a=some o/\(o.cls=.type "list"\/o.cls=.type "tuple")/\o.data=.seq vs.toArray n/\RepL g l vs:=by
 rcases zPg h with rfl|h
 ·exact zKq (G:=λv=>∃ a o n vs,v=Value.ref a/\s.heap.get? a=some o/\(o.cls=.type "list"\/o.cls=.type "tuple")/\o.data=.seq vs.toArray n/\RepL g l vs) r λa o n vs h hc hd r=>⟨a,o,n,vs,rfl,G.sim.frz _ _ h,.inr hc,hd,r⟩
 ·exact e33 (λa n vs e h1 h4=>⟨a,_,n,vs,e,h1,.inl rfl,rfl,h4⟩) (zD9 G r h)
theorem zXn(G:Good W cx g V s)(r:RepL g l vs)(hz:vs.length<=sizeLine)(h:newL l Q V):wpAny W.M cx.A (newList vs) (PostE W cx g Q) E s:=
 wpAny_newObj_type ((G.newM (mo:=.lst l) {cls:=.type "list",data:=.seq vs.toArray} rfl (.lst r)).post (.ref _) (h _ (G.sim.mnone (zAe _)))) (by show vs.toArray.size<=sizeLine;rw[List.size_toArray];exact hz)
theorem zTv(G:Good W cx g V s)(r:RepL g l vs)(hz:vs.length<=sizeLine)(h:Q (.tup l) V):wpAny W.M cx.A (newTuple vs) (PostE W cx g Q) E s:=by
 refine e02 (λe G'=>?_) (G.newF {cls:=.type "tuple",data:=.seq vs.toArray} rfl)
 exact wpAny_newObj_type ⟨_,_,_,e,G',.tup (zBh _ _ _) rfl rfl (r.mono e),h⟩ (by show vs.toArray.size<=sizeLine;rw[List.size_toArray];exact hz)
theorem zBi(h:small n):n<=sizeLine:=by unfold small at h;rw[sizeLine_eq];omega
theorem zNn(G:Good W cx g V s)(F:Fr W.h₀ cx.env.locals s.heap mm)(F':Fr W.h₀ cx.env.locals h' mm)
  (N':News W.h₀ cx.env.locals h' ((s.heap.objs.size,o)::zG3 W.h₀ s.heap cx.env.locals)) (r:MRep W.prog W.w g (.lst l) o) (h:newL l Q V):PostE W cx g Q (.ref s.heap.objs.size) {s with heap:=h'}:=
 (G.newsL (t:=s.toks) F F' N' r).post (.ref _) (h _ (G.sim.mnone (zAe _)))
theorem foldl_append:∀(l:List (Array α)) (acc:Array α),(l.foldl (λx y=>x++y) acc)=acc++(l.map Array.toList).flatten.toArray
 |[],acc=>by simp
 |a::r,acc=>by rw[List.foldl_cons,foldl_append r];apply Array.ext';simp
theorem zFa(r:RepL g l vs):∀ n,RepL g (List.replicate n l).flatten (List.replicate n vs).flatten
 |0=>.nil
 |n+1=>by rw[List.replicate_succ,List.replicate_succ,List.flatten_cons,List.flatten_cons];exact r.append (zFa r n)
set_option tactic.hygienic true in
theorem yDf(h:bigI i):Builtin.Int.intBits i<=64:=by
 unfold bigI at h
 unfold Builtin.Int.intBits
 split
 ·exact Nat.zero_le 64
 ·rename_i hi
  have:i.natAbs.log2<60:=by
   rw[Nat.log2_lt (by simpa using hi)];exact h
  omega
theorem zYp{i j:Int}(h:0<j):i.fdiv j=i / j:=Int.fdiv_eq_ediv_of_nonneg _ (Int.le_of_lt h)
theorem zYo{i j:Int}(h:0<j):i.fmod j=i % j:=Int.fmod_eq_emod_of_nonneg _ (Int.le_of_lt h)
set_option tactic.hygienic true in
theorem zXl(h:bigI j):Builtin.divisionGoesByPylong i j=false:=by
 unfold Builtin.divisionGoesByPylong
 unfold bigI at h
 have:¬ ((if(j==0)=true then 0 else j.natAbs.log2 / 30+1)>300):=by
  split
  ·exact Nat.not_lt_zero 300
  ·rename_i hj
   have:j.natAbs.log2<60:=by
    rw[Nat.log2_lt (by simpa using hj)];exact h
   omega
 simp only[Bool.and_eq_false_iff]
 exact .inl (decide_eq_false this)
theorem zZb(hi:0<=i)(hj:0<=j):Builtin.bitAnd i j=Int.ofNat (i.toNat&&& j.toNat):=by
 obtain⟨a,rfl⟩:=Int.eq_ofNat_of_zero_le hi
 obtain⟨b,rfl⟩:=Int.eq_ofNat_of_zero_le hj
 first|rfl|simp[Builtin.bitAnd]
noncomputable def opOf:BOp->Operator
 |.add=>.Add|.sub=>.Sub|.mul=>.Mult|.fdiv=>.FloorDiv|.mod=>.Mod|.pow=>.Pow|.band=>.BitAnd
theorem yBl(h:cBOp op=some o):op=opOf o:=by
 cases op<;>first|exact zA2 h|(cases h;rfl)
@[elab_as_elim] theorem zF1{d e:DV}{v w:Value}{K:Int->Int->Prop}{P:Value->Value->Prop}(r:Rep g d v)(r':Rep g e w)(h:int1 d (λi=>int1 e (K i) False) False)(k:∀ i j t u,K i j->P (.int i t) (.int j u)):P v w:=by
 obtain⟨i,j,rfl,rfl,q⟩:=zUt h
 exact zAz r λt=>zAz (G:=λw=>P (.int i t) w) r' λu=>k i j t u q
theorem zZg(G:Good W cx g V s)(r:Rep g d v)(r':Rep g e w)(h1:asL V.mu d=some l)(h2:asL V.mu e=some m)(h3:small (l.length+m.length))(h4:newL (l++m) Q V):wpAny W.M cx.A (binaryOp .Add v w) (PostE W cx g Q) E s:=by
 refine e22 (λa vs q=>e02 λhl r1=>?_) (zIf G r h1)
 refine e22 (λb ws q'=>e02 λhl' r2=>?_) (zIf G r' h2)
 refine e12 (λmm F N=>?_) G.fr
 rw[q,q']
 refine add_arrays F N hl hl' (λh' F' N'=>zNn G F F' N' (.lst (r1.append r2)) h4) ?_
 rw[List.size_toArray,List.size_toArray,<-r1.length,<-r2.length]
 exact zBi h3
theorem zXq(G:Good W cx g V s)(r:Rep g d v)(hl:asL V.mu d=some l)(h0:0<=j)(hj:j<2 ^ 63)(h1:small (l.length * j.toNat))(h2:newL (List.replicate j.toNat l).flatten Q V):wpAny W.M cx.A (binaryOp .Mult v (.int j t)) (PostE W cx g Q) E s:=by
 refine e33 (λa n vs q ho r1=>?_) (zD9 G r hl)
 refine e12 (λmm F N=>?_) G.fr
 have hz:=zBi h1
 rw[r1.length,sizeLine_eq]at hz
 rw[q]
 refine mul_list F N ho (by omega) hj (by rw[List.size_toArray];exact hz) (λh' F' N'=>zNn G F F' N' ?_ h2)
 rw[foldl_append]
 have e:(List.map Array.toList (List.replicate (if vs.toArray.isEmpty=true then 0 else j.toNat) vs.toArray)).flatten=(List.replicate j.toNat vs).flatten:=by
  rw[List.map_replicate]
  cases vs with
  |nil=>simp
  |cons _ _=>rfl
 rw[e,Array.empty_append]
 exact .lst (zFa r1 _)
theorem zZ9(G:Good W cx g V s){op:BOp}{d e:DV}{v w:Value}{Q:DV->St->Prop}(r:Rep g d v)(r':Rep g e w)(h:zMa op d e Q V):wpAny W.M cx.A (binaryOp (opOf op) v w) (PostE W cx g Q) E s:=by
 cases op with
 |add=>
  rcases zKv h with⟨l,h1,h⟩|h
  ·exact(zAb h).elim λm h=>zZg G r r' h1 h.1 h.2.1 h.2.2
  ·exact zF1 r r' h λi j t u h=>add_int ((G.toks _).post (.int _ _) h)
 |sub=>
  exact zF1 r r' h λi j t u h=>sub_int ((G.toks _).post (.int _ _) h)
 |mul=>
  obtain⟨j,rfl,h⟩:=zE1 h
  refine zAz r' λu=>?_
  rcases zKv h with⟨l,hl,h⟩|h
  ·exact zXq G r hl h.1 h.2.1 h.2.2.1 h.2.2.2
  ·obtain⟨i,rfl,h⟩:=zE1 h
   exact zAz r λt=>mul_int ((G.toks _).post (.int _ _) h.2.2) (IntMulOk.of_left (yDf h.1))
 |fdiv=>
  exact zF1 r r' h λi j t u h=>floordiv_int (Int.ne_of_gt h.1) ((G.toks _).post (by rw[zYp h.1];exact .int _ _) h.2.2) (.inl (zXl h.2.1))
 |mod=>
  exact zF1 r r' h λi j t u h=>mod_int' (Int.ne_of_gt h.1) ((G.toks _).post (by rw[zYo h.1];exact .int _ _) h.2)
 |pow=>
  refine zF1 r r' h λi j t u=>e03 λe1 e2 h=>?_
  rw[e1,e2]
  exact pow_int_small (by decide) (by decide) (by decide) ((G.toks _).post (.int _ _) h)
 |band=>
  exact zF1 r r' h λi j t u h=>and_int ((G.toks _).post (by rw[zZb h.1 h.2.1];exact .int _ _) h.2.2)
end
end
section
mutual
inductive PdR:DV->PyData->Prop
 |none:PdR .none .none
 |bool (b:Bool):PdR (.bool b) (.bool b)
 |int (i:Int):PdR (.int i) (.int i)
 |str (x:Str) (h:okc x=true):PdR (.str (enc x)) (.str x)
 |tup {ds:List DV} {ps:List PyData} (r:PdL ds ps):PdR (.tup ds) (.tuple ps)
 |lst {ds:List DV} {ps:List PyData} (r:PdL ds ps):PdR (.lst ds) (.list ps)
inductive PdL:List DV->List PyData->Prop
 |nil:PdL [] []
 |cons {d:DV} {p:PyData} {ds:List DV} {ps:List PyData} (h:PdR d p) (r:PdL ds ps):PdL (d::ds) (p::ps)
end
def pdOf(p:PyData):DV->Prop
 |.none=>p=.none
 |.bool b=>p=.bool b
 |.int i=>p=.int i
 |.str n=>∃ x,p=.str x/\okc x=true/\enc x=n
 |.tup ds=>∃ ps,p=.tuple ps/\PdL ds ps
 |.lst ds=>∃ ps,p=.list ps/\PdL ds ps
 |_=>False
theorem zHh(r:PdR d p):pdOf p d:=by
 cases r with
 |none=>rfl
 |bool b=>rfl
 |int i=>rfl
 |str x h=>exact⟨x,rfl,h,rfl⟩
 |tup r=>exact⟨_,rfl,r⟩
 |lst r=>exact⟨_,rfl,r⟩
def yI8(p:List PyData):List DV->Prop
 |[]=>p=[]
 |d::ds=>∃ q ps,p=q::ps/\PdR d q/\PdL ds ps
theorem zH4(r:PdL d p):yI8 p d:=by
 cases r with
 |nil=>rfl
 |cons h r=>exact⟨_,_,rfl,h,r⟩
theorem zNu(h:okL l=true):∀ c∈l,c<128:=by
 induction l with
 |nil=>exact λU h=>nomatch h
 |cons c r ih=>
  intro x hx
  refine e02 (λh1 h2=>?_) ((Bool.and_eq_true _ _).mp h)
  rcases List.mem_cons.mp hx with e|hx
  ·rw[e];exact Nat.lt_succ_of_le (Nat.le_of_ble_eq_true h1)
  ·exact ih h2 x hx
theorem zWm(h:okc x=true):PyData.strOk x=true:=by
 unfold PyData.strOk
 rw[<-Array.all_toList,List.all_eq_true]
 intro c hc
 have:=zNu h c hc
 simp;omega
section
variable {g:Hp}{h:Heap}
theorem zFw(H:∀{d:DV} {v:Value},Rep g d v->f d=true->∃ p as,PdR d p/\Reads h v p as/\p.canLay0=true/\p.depth<=n)(r:RepL g ds vs):ds.all f=true->∃ ps as,PdL ds ps/\ReadsAll h vs ps as/\PyData.canLayAll0 ps=true/\PyData.depthAll ps<=n:=
 r.ind (P:=λds vs=>ds.all f=true->∃ ps as,PdL ds ps/\ReadsAll h vs ps as/\PyData.canLayAll0 ps=true/\PyData.depthAll ps<=n) (λU=>⟨_,_,.nil,.nil,rfl,Nat.zero_le _⟩) λr U ih hp=>by
  refine e02 (λp1 p2=>?_) ((Bool.and_eq_true _ _).mp hp)
  refine e24 (λp as a1 b1 c1 e1=>?_) (H r p1)
  refine e24 (λps bs a2 b2 c2 e2=>?_) (ih p2)
  exact⟨_,_,.cons a1 a2,.cons b1 b2,(Bool.and_eq_true _ _).mpr ⟨c1,c2⟩,Nat.max_le.mpr ⟨e1,e2⟩⟩
theorem zI7(k:∀ b o,g b=some o->h.get? b=some o)(Hl:t=true->∀{ds:List DV} {vs:List Value},RepL g ds vs->ds.all f=true->∃ ps as,PdL ds ps/\ReadsAll h vs ps as/\PyData.canLayAll0 ps=true/\PyData.depthAll ps+1<=n)(r:Rep g d v)(hp:plA f t d=true):∃ p as,PdR d p/\Reads h v p as/\p.canLay0=true/\p.depth<=n:=by
 cases d with
 |none=>exact zPi r ⟨_,_,.none,.none,rfl,Nat.zero_le _⟩
 |bool b=>exact zPj r ⟨_,_,.bool b,.bool b,rfl,Nat.zero_le _⟩
 |int i=>exact zAz r λt=>⟨_,_,.int i,.int i t,rfl,Nat.zero_le _⟩
 |str m=>exact yB5 r λx t ok e=>⟨_,_,e▸.str x ok,.str x t,zWm ok,Nat.zero_le _⟩
 |tup ds=>
  refine zKq r λa o m vs h1 hc hd r=>?_
  refine e02 (λp1 p2=>?_) ((Bool.and_eq_true _ _).mp hp)
  exact e24 (λps as a b c e=>⟨_,_,.tup a,.tuple (k _ _ h1) hc hd b,c,e⟩) (Hl p1 r p2)
 |lst ds=>
  refine zT6 r λa m vs h1 r=>?_
  refine e02 (λp1 p2=>?_) ((Bool.and_eq_true _ _).mp hp)
  exact e24 (λps as a b c e=>⟨_,_,.lst a,.list (k _ _ h1) rfl rfl b,c,e⟩) (Hl p1 r p2)
 |_=>exact Bool.noConfusion hp
theorem zFu(k:∀ b o,g b=some o->h.get? b=some o)(n:Nat):∀{d:DV} {v:Value},Rep g d v->zBu n d=true->∃ p as,PdR d p/\Reads h v p as/\p.canLay0=true/\p.depth<=n:=by
 induction n with
 |zero=>exact zI7 k λh=>Bool.noConfusion h
 |succ n ih=>exact zI7 k λU U U r hp=>e24 (λps as a b c e=>⟨ps,as,a,b,c,Nat.succ_le_succ e⟩) (zFw ih r hp)
theorem zJi(k:∀ b o,g b=some o->h.get? b=some o)(n:Nat)(r:RepL g ds vs)(hp:ds.all (zBu n)=true):∃ ps as,PdL ds ps/\ReadsAll h vs ps as/\PyData.canLayAll0 ps=true/\PyData.depthAll ps<=n:=zFw (zFu k n) r hp
end
def EqF(f:DV->DV->Option Bool):Prop:=∀{a b:DV} {p q:PyData} {t:Bool},PdR a p->PdR b q->f a b=some t->PyData.eqv p q=t
theorem zVa(hf:EqF f):∀{b:List DV} {p q:List PyData} {t:Bool},PdL a p->PdL b q->eqL f a b=some t->PyData.eqvAll p q=t:=by
 induction a with
 |nil=>
  intro b p q t h1 h2 h
  rw[show p=[] from zH4 h1]
  cases b with
  |nil=>rw[show q=[] from zH4 h2];cases h;rfl
  |cons b bs=>exact e21 (λU U e=>by rw[e.1];cases h;rfl) (zH4 h2)
 |cons x a ih=>
  intro b p q t h1 h2 h
  refine e23 (λp ps e r1 r1'=>?_) (zH4 h1)
  rw[e]
  cases b with
  |nil=>rw[show q=[] from zH4 h2];cases h;rfl
  |cons b bs=>
   refine e23 (λq qs e' r2 r2'=>?_) (zH4 h2)
   rw[e']
   refine(zA1 h).elim λu h=>(zA1 h.2).elim λw h'=>?_
   show(PyData.eqv p q&&PyData.eqvAll ps qs)=t
   rw[hf r1 r2 h.1,ih r1' r2' h'.1]
   exact Option.some.inj h'.2
theorem zNt(hx:okc x=true)(hy:okc y=true):(x==y)=Nat.beq (enc x) (enc y):=by
 by_cases e:x=y
 ·rw[e,zBn];exact beq_self_eq_true y
 ·rw[zA9 λq=>e (zBz hx hy q)];exact beq_false_of_ne e
theorem yA3(hf:EqF f):EqF (eqA f):=by
 intro a b p q t h1 h2 h
 cases a with
 |none=>
  rw[show p=.none from zHh h1]
  cases b with
  |none=>rw[show q=.none from zHh h2];cases h;rfl
  |_=>exact zA2 h
 |bool x=>
  rw[show p=.bool x from zHh h1]
  refine(zA1 h).elim λy h=>?_
  rw[zQe h.1]at h2
  rw[show q=.bool y from zHh h2]
  exact Option.some.inj h.2
 |int x=>
  rw[show p=.int x from zHh h1]
  refine(zA1 h).elim λy h=>?_
  rw[zCn h.1]at h2
  rw[show q=.int y from zHh h2]
  exact Option.some.inj h.2
 |str x=>
  refine e13 (λx' e ox ex=>?_) (zHh h1)
  rw[e]
  refine(zA1 h).elim λy h=>?_
  rw[yAr h.1]at h2
  refine e13 (λy' e oy ey=>?_) (zHh h2)
  rw[e]
  refine(zNt ox oy).trans ?_
  rw[ex,ey]
  exact Option.some.inj h.2
 |tup x=>
  refine e12 (λps e r1=>?_) (zHh h1)
  rw[e]
  refine(zA1 h).elim λy h=>?_
  rw[zGi h.1]at h2
  refine e12 (λqs e r2=>?_) (zHh h2)
  rw[e]
  exact zVa hf r1 r2 h.2
 |lst x=>
  refine e12 (λps e r1=>?_) (zHh h1)
  rw[e]
  refine(zA1 h).elim λy h=>?_
  rw[yBt h.1]at h2
  refine e12 (λqs e r2=>?_) (zHh h2)
  rw[e]
  exact zVa hf r1 r2 h.2
 |_=>exact zA2 h
theorem zV9(n:Nat):EqF (eqN n):=by
 induction n with
 |zero=>exact yA3 λU U h=>zA2 h
 |succ n ih=>exact yA3 ih
theorem zXw(hx:PdR x d):∀{ps:List PyData} {t:Bool},PdL l ps->memL x l=some t->ps.any (λy=>PyData.eqv y d)=t:=by
 induction l with
 |nil=>
  intro ps t r h
  rw[show ps=[] from zH4 r];cases h;rfl
 |cons y l ih=>
  intro ps t r h
  refine e23 (λp ps e r1 r=>?_) (zH4 r)
  rw[e]
  refine(zA1 h).elim λu h=>(zA1 h.2).elim λw h'=>?_
  rw[List.any_cons,zV9 8 r1 hx h.1,ih r h'.1]
  exact Option.some.inj h'.2
section
variable {W:Wd}{too:Addr}{cx:Cx}{X:DV->St->Prop}{V:St}{g g':Hp}{s:Shared}{E:Value->Shared->Prop}
noncomputable def cmOf:COp->CmpOp
 |.eq=>.Eq|.ne=>.NotEq|.lt=>.Lt|.le=>.LtE|.gt=>.Gt|.ge=>.GtE|.inn=>.In|.nin=>.NotIn
theorem yD1(h:cCOp op=some o):op=cmOf o:=by
 cases op<;>first|exact zA2 h|(cases h;rfl)
theorem zI1(h:p.canLay0=true)(hd:p.depth<=9):SeqAt.shaped p=true:=by
 unfold SeqAt.shaped
 rw[h,decide_eq_true (nLit hd rfl)];rfl
theorem zKp{o:Option Bool}{t:Bool}(h:(match c with|true=>o|false=>none)=some t):c=true/\o=some t:=by
 cases c with
 |true=>exact⟨rfl,h⟩
 |false=>exact zA2 h
theorem zRp{R:Prop}(G:Good W cx g V s){d e:DV}{v w:Value}{t:Bool}(r:Rep g d v)(r':Rep g e w)(h:(match zBu 8 d&&zBu 8 e with|true=>eqN 8 d e|false=>none)=some t)
  (k:∀ p q as bs,Reads s.heap v p as->Reads s.heap w q bs->SeqAt.shaped p=true->SeqAt.shaped q=true->PyData.eqv p q=t->R):R:=by
 refine e02 (λhp h=>?_) (zKp h)
 refine e02 (λh1 h2=>?_) ((Bool.and_eq_true _ _).mp hp)
 refine e24 (λp as a1 b1 c1 e1=>?_) (zFu G.sim.frz 8 r h1)
 refine e24 (λq bs a2 b2 c2 e2=>?_) (zFu G.sim.frz 8 r' h2)
 exact k p q as bs b1 b2 (zI1 c1 (Nat.le_succ_of_le e1)) (zI1 c2 (Nat.le_succ_of_le e2)) (zV9 8 a1 a2 h)
theorem zJp(G:Good W cx g V s)(ha:s.heap.get? a=some (listOf vs.toArray n))(r:RepL g x vs)(hp:x.all (zBu 8)=true) :
  ∃ p as,PdL x p/\Reads s.heap (.ref a) (.list p) as/\SeqAt.shaped (.list p)=true:=
 e24 (λps as a1 b1 c1 e1=>⟨ps,a::as,a1,.list ha rfl rfl b1,zI1 c1 (Nat.succ_le_succ e1)⟩) (zJi G.sim.frz 8 r hp)
theorem zJs(hu:cx.A.units+64<cLine)(G:Good W cx g V s){d e:DV}{v w:Value}{t:Bool}{Q:Value->Shared->Prop}(r:Rep g d v)(r':Rep g e w)(h:zLl V.mu d e=some t) :
  (Q (.bool t) s->wpAny W.M cx.A (compareOp .Eq v w) Q E s)/\(Q (.bool (!t)) s->wpAny W.M cx.A (compareOp .NotEq v w) Q E s):=by
 have dat:∀ p q as bs,Reads s.heap v p as->Reads s.heap w q bs->SeqAt.shaped p=true->SeqAt.shaped q=true->PyData.eqv p q=t->(Q (.bool t) s->wpAny W.M cx.A (compareOp .Eq v w) Q E s)/\(Q (.bool (!t)) s->wpAny W.M cx.A (compareOp .NotEq v w) Q E s):=
  λp q as bs b1 b2 c1 c2 z=>⟨λy=>eq_dataH b1 b2 c1 c2 hu (z.symm▸y),λy=>ne_dataH b1 b2 c1 c2 hu (z.symm▸y)⟩
 unfold zLl at h
 cases hx:asL V.mu d with
 |none=>
  rw[hx]at h
  cases hy:asL V.mu e with
  |none=>rw[hy]at h;exact zRp G r r' h dat
  |some _=>rw[hy]at h;exact zA2 h
 |some x=>
  rw[hx]at h
  refine(zA1 h).elim λy q=>e02 (λhy h=>?_) q
  refine e33 (λa n vs e1 ha r1=>?_) (zD9 G r hx)
  refine e33 (λb n' ws e2 hb r2=>?_) (zD9 G r' hy)
  rw[e1,e2]at dat
  rw[e1,e2]
  cases hl:Nat.beq x.length y.length with
  |true=>
   rw[hl]at h
   refine e02 (λhp h=>?_) (zKp h)
   refine e02 (λh1 h2=>?_) ((Bool.and_eq_true _ _).mp hp)
   refine e23 (λps as a1 b1 c1=>?_) (zJp G ha r1 h1)
   refine e23 (λqs bs a2 b2 c2=>?_) (zJp G hb r2 h2)
   exact dat _ _ _ _ b1 b2 c1 c2 (zVa (zV9 8) a1 a2 h)
  |false=>
   rw[hl]at h
   cases h
   have hne:(vs.toArray.size != ws.toArray.size)=true:=by
    rw[List.size_toArray,List.size_toArray,<-r1.length,<-r2.length]
    exact bne_iff_ne.mpr λe=>by rw[e,zBn]at hl;cases hl
   exact⟨λz=>SeqAt.eq_list_lengthsAt ⟨_,ha,rfl,_,rfl⟩ ⟨_,hb,rfl,_,rfl⟩ hne (n52 hu) z,λz=>SeqAt.RcNeAt.lists_lengths ⟨_,ha,rfl,_,rfl⟩ ⟨_,hb,rfl,_,rfl⟩ hne (n52 hu) _ _ _ _ z⟩
theorem zJ9{K:Type}[DecidableEq K](kvs:List (K×Value))(k:K)[BEq K][LawfulBEq K]:(valueAt kvs k).isSome=(kvs.map (·.1)).contains k:=by
 induction kvs with
 |nil=>rfl
 |cons x r ih=>
  unfold valueAt at ih ⊢
  rw[List.find?_cons,List.map_cons,List.contains_cons]
  by_cases e:x.1=k
  ·simp[e]
  ·have:(k==x.1)=false:=by simp;exact λh=>e h.symm
   simp only[decide_eq_false e,this,Bool.false_or];exact ih
theorem zHe{K:Type}[DecidableEq K](xs:List (K×Addr×Value))(k:K)[BEq K][LawfulBEq K]:(atKey xs k).isSome=(xs.map (·.1)).contains k:=by
 induction xs with
 |nil=>rfl
 |cons x r ih=>
  unfold atKey at ih ⊢
  rw[List.find?_cons,List.map_cons,List.contains_cons]
  by_cases e:x.1=k
  ·simp[e]
  ·have:(k==x.1)=false:=by simp;exact λh=>e h.symm
   simp only[decide_eq_false e,this,Bool.false_or];exact ih
theorem zU6(WO:W.Ok)(G:Good W cx g V s)(hm:V.mu a=some mo):(a==sysModules)=false:=by
 have h1:=G.sim.mabove a mo hm
 have h2:=WO.ng.lt
 have h3:mainGlobals=3:=rfl
 have h4:sysModules=1:=rfl
 rw[beq_eq_false_iff_ne]
 intro e
 subst e
 exact absurd (Nat.lt_of_lt_of_le h2 h1) (by decide)
@[elab_as_elim] theorem zTl{i j:Int}{v:Value}{P:Value->Prop}(r:Rep g (.tup [.int i,.int j]) v)(k:∀ a o n vs,g a=some o->o.cls=.type "tuple"->o.data=.seq vs n->ItemsAre (intKind W.prog W.w) [i,j] vs.toList->P (.ref a)):P v:=by
 refine zKq r λa o n vs h hc hd r=>k a o n _ h hc hd ?_
 exact zJj r λw u r1 r2=>zAz r1 λt=>zAz r2 λt'=>.cons (by simp[intKind,Value.isInt]) (.cons (by simp[intKind,Value.isInt]) .nil)
theorem zD8{K:Type}[DecidableEq K]{prog:Program}{w:World}{knd:KeyKind prog w K}{h:Heap}{a:Addr}{o:Obj}{kvs:List (K×Value)}(ho:h.get? a=some o)(x:o.IsDictOf knd kvs):h.DictOf knd a kvs:=by
 (revert x;refine e21 λes ep r=>?_)
 exact⟨o,es,ep,ho,r⟩
theorem zEp{K:Type}[DecidableEq K]{prog:Program}{w:World}{knd:KeyKind prog w K}:({cls:=.type "dict",data:=.dict #[] ep}:Obj).IsDictOf knd []:=
 ⟨#[],ep,⟨rfl,rfl,rfl⟩,rfl,(λU h=>by simp at h),.nil,.nil⟩
def InR(W:Wd)(cx:Cx)(s:Shared)(Q:Value->Shared->Prop)(E:Value->Shared->Prop)(v w:Value)(t:Bool):Prop:=((∀ k,Q (.bool t) {s with toks:=k})->wpAny W.M cx.A (compareOp .In v w) Q E s)/\((∀ k,Q (.bool (!t)) {s with toks:=k})->wpAny W.M cx.A (compareOp .NotIn v w) Q E s)
theorem zUv{a:Addr}(hs:(a==sysModules)=false){ob:Obj}(ho:s.heap.get? a=some ob){i:Int}{v:Value}{t:Bool}{Q:Value->Shared->Prop}{kvs:List (Int×Value)}(r:Rep g (.int i) v)(hd:ob.IsDictOf (intKind W.prog W.w) kvs)(e:(kvs.map (·.1)).contains i=t):InR W cx s Q E v (.ref a) t:=by
 refine zAz r λu=>?_
 have hmap:=(zD8 ho hd).mapOf
 have hkey:(intKind W.prog W.w).is i (.int i u)=true:=by simp[intKind,Value.isInt]
 rw[<-zJ9]at e
 exact⟨λz=>wpAny_in_of hkey hs hmap (e.symm▸z _),λz=>wpAny_notIn_of hkey hs hmap (e.symm▸z _)⟩
theorem zPw(hu:cx.A.units+64<cLine)(G:Good W cx g V s){a:Addr}(hs:(a==sysModules)=false){v:Value}{t:Bool}{Q:Value->Shared->Prop}{xs:List (List Int×Addr×Value)}(r:Rep g (.tup [.int i,.int j]) v)(hd:s.heap.DictOfH (tupleKind (intKind W.prog W.w)) a xs)(e:(xs.map (·.1)).contains [i,j]=t):InR W cx s Q E v (.ref a) t:=by
 refine zTl (W:=W) r λb o n vs hb hc hdd hi=>?_
 have hkey:(tupleKind (intKind W.prog W.w)).is s.heap [i,j] b:=⟨o,vs,n,G.sim.frz _ _ hb,hc,hdd,hi⟩
 have hroom:(tupleKind (intKind W.prog W.w)).room cx.A.in1:=by show cx.A.units+1<cLine;omega
 rw[<-zHe]at e
 exact⟨λz=>wpAny_in_heap hroom hkey hs hd (e.symm▸z _),λz=>wpAny_notIn_heap hroom hkey hs hd (e.symm▸z _)⟩
theorem zU0(r:MRep prog w g .dE o):∃ ep,o={cls:=.type "dict",data:=.dict #[] ep}:=by
 cases r;exact⟨_,rfl⟩
theorem zTz(r:MRep prog w g (.dI ks) o):∃ kvs,ks=kvs.map (·.1)/\o.IsDictOf (intKind prog w) kvs:=by
 cases r with
 |dI hd=>exact⟨_,rfl,hd⟩
theorem zTy(r:MRep prog w g (.dT ks) o):∃(xs:List (List Int×Addr×Value)) (es:Array DictEntry) (ep:Nat),ks=xs.map (·.1)/\o.ExactDict/\o.data=.dict es ep/\es.toList=xs.map (entryOfKey (tupleKind (intKind prog w)))/\
  (∀ x∈xs,∃ o n vs,g x.2.1=some o/\o.cls=.type "tuple"/\o.data=.seq vs n/\ItemsAre (intKind prog w) x.1 vs.toList)/\(xs.map (·.1)).Nodup:=by
 cases r with
 |dT hx hd he hi nd=>exact⟨_,_,_,rfl,hx,hd,he,hi,nd⟩
theorem yGi(WO:W.Ok)(hu:cx.A.units+64<cLine)(G:Good W cx g V s){mo:MObj}(hm:V.mu a=some mo){t:Bool}{Q:Value->Shared->Prop}(r:Rep g d v)(h:yA5 d mo=some t):InR W cx s Q E v (.ref a) t:=by
 have hs:=zU6 WO G hm
 refine e12 (λoj ho hr=>?_) (G.sim.muts _ _ hm).2.2
 cases mo with
 |dE=>
  refine e11 (λep e=>?_) (zU0 hr)
  rw[e]at ho
  cases hi:intD d with
  |some i=>
   rw[zCn hi]at r h
   cases h;exact zUv hs ho r zEp rfl
  |none=>
   replace h:(match intD d with|some _=>some false|none=>ob none (zOa d) λU=>some false)=some t:=h
   rw[hi]at h
   refine e12 (λp hp h=>?_) (zA1 h)
   rw[zHo hp]at r
   cases h;exact zPw (xs:=[]) hu G hs r ⟨_,#[],_,ho,⟨rfl,rfl,rfl⟩,rfl,rfl,(λU hx=>nomatch hx),List.nodup_nil⟩ rfl
 |dI ks=>
  refine e12 (λkvs e hd=>?_) (zTz hr)
  refine e12 (λi hi h=>?_) (zA1 h)
  rw[zCn hi]at r
  rw[e]at h
  exact zUv hs ho r hd (Option.some.inj h)
 |dT ks=>
  refine(zTy hr).elim λxs q=>e24 (λes ep e hx hdd q=>?_) q
  have hd:s.heap.DictOfH (tupleKind (intKind W.prog W.w)) a xs:=⟨_,_,_,ho,hx,hdd,q.1,(λx hx=>e34 (λo n vs a1 a2 a3 a4=>⟨o,vs,n,G.sim.frz _ _ a1,a2,a3,a4⟩) (q.2.1 x hx)),q.2.2⟩
  refine e12 (λp hp h=>?_) (zA1 h)
  rw[zHo hp]at r
  rw[e]at h
  exact zPw hu G hs r hd (Option.some.inj h)
 |_=>exact zA2 h
theorem yGh(hu:cx.A.units+64<cLine)(G:Good W cx g V s)(r:Rep g d v)(r':Rep g e w)(hl:seqV V.mu e=some l)(h:memV d l=some t):InR W cx s Q E v w t:=by
 refine e02 (λhp h=>?_) (zKp h)
 refine e02 (λh1 h2=>?_) ((Bool.and_eq_true _ _).mp hp)
 refine e24 (λp as a1 b1 c1 e1=>?_) (zFu G.sim.frz 8 r h1)
 refine(zPf G r' hl).elim λa q=>e33 (λo n vs ew ho q=>?_) q
 refine e03 (λhc hd rl=>?_) q
 refine e24 (λps bs a2 b2 c2 e2=>?_) (zJi G.sim.frz 8 rl h2)
 have z:=zXw a1 a2 h
 have hu':cx.A.units+1+min (PyData.depthAll ps) p.depth<cLine:=Nat.lt_of_le_of_lt (Nat.add_le_add_left (Nat.le_trans (Nat.min_le_right _ _) e1) _) (Nat.lt_trans (Nat.add_lt_add_left (by decide:9<64) cx.A.units) hu)
 rw[ew]
 rcases hc with hc|hc
 ·have rd:Reads s.heap (.ref a) (.list ps) (a::bs):=.list ho hc hd b2
  exact⟨λy=>SeqAt.in_list_reads rd b1 c2 c1 hu' (z.symm▸y s.toks),λy=>SeqAt.notIn_list_reads rd b1 c2 c1 hu' (z.symm▸y s.toks)⟩
 ·have rd:Reads s.heap (.ref a) (.tuple ps) bs:=.tuple ho hc hd b2
  exact⟨λy=>SeqAt.in_tuple_reads rd b1 c2 c1 hu' (z.symm▸y s.toks),λy=>SeqAt.notIn_tuple_reads rd b1 c2 c1 hu' (z.symm▸y s.toks)⟩
theorem zUu(WO:W.Ok)(hu:cx.A.units+64<cLine)(G:Good W cx g V s)(r:Rep g d v)(r':Rep g e w)(h:inV V.mu d e=some t):InR W cx s Q E v w t:=by
 unfold inV at h
 cases hr:refD e with
 |none=>rw[hr]at h;exact e12 (λl hl h=>yGh hu G r r' hl h) (zA1 h)
 |some a=>
  rw[hr]at h
  rw[zKt hr]at r'
  refine zT5 r' ?_
  refine e12 (λo ho h=>?_) (zA1 h)
  unfold inO at h
  cases hl:lstO o with
  |none=>rw[hl]at h;exact yGi WO hu G ho r h
  |some l=>rw[hl]at h;exact yGh hu G r (.ref a) (by show ob none (V.mu a) lstO=_;rw[ho];exact hl) h
theorem zHr{t:Bool}{f:Int->Int->Bool}{P:Value->Value->Prop}(r:Rep g d v)(r':Rep g e w)(h:(ob none (intD d) λi=>ob none (intD e) λj=>some (f i j))=some t)(k:∀ i j t' u,f i j=t->P (.int i t') (.int j u)):P v w:=by
 refine e12 (λi hi h=>e12 (λj hj h=>?_) (zA1 h)) (zA1 h)
 rw[zCn hi]at r
 rw[zCn hj]at r'
 exact zAz r λt=>zAz r' λu=>k i j t u (Option.some.inj h)
theorem zYw(WO:W.Ok)(hu:cx.A.units+64<cLine)(G:Good W cx g V s){op:COp}{d e:DV}{v w:Value}{t:Bool}{Q:Bool->St->Prop}(r:Rep g d v)(r':Rep g e w)(h:cmpV V.mu op d e=some t)(q:Q t V) :
  wpAny W.M cx.A (compareOp (cmOf op) v w) (λv s'=>∃ t,v=.bool t/\Good W cx g V s'/\Q t V) E s:=by
 have not {o:Option Bool} (h:o.map (!·)=some t):o=some (!t):=by cases o with
  |none=>exact zA2 h
  |some b=>cases b<;>cases h<;>rfl
 cases op with
 |eq=>exact(zJs hu G r r' h).1 ⟨t,rfl,G,q⟩
 |ne=>exact(zJs hu G r r' (not h)).2 ⟨_,rfl,G,(Bool.not_not t).symm▸q⟩
 |lt=>exact zHr (P:=λv w=>wpAny W.M cx.A (compareOp .Lt v w) (λv s'=>∃ t,v=.bool t/\Good W cx g V s'/\Q t V) E s) r r' h λi j U U e=>lt_int ⟨_,rfl,G,e.symm▸q⟩
 |le=>exact zHr (P:=λv w=>wpAny W.M cx.A (compareOp .LtE v w) (λv s'=>∃ t,v=.bool t/\Good W cx g V s'/\Q t V) E s) r r' h λi j U U e=>le_int ⟨_,rfl,G,e.symm▸q⟩
 |gt=>exact zHr (P:=λv w=>wpAny W.M cx.A (compareOp .Gt v w) (λv s'=>∃ t,v=.bool t/\Good W cx g V s'/\Q t V) E s) r r' h λi j U U e=>gt_int ⟨_,rfl,G,e.symm▸q⟩
 |ge=>exact zHr (P:=λv w=>wpAny W.M cx.A (compareOp .GtE v w) (λv s'=>∃ t,v=.bool t/\Good W cx g V s'/\Q t V) E s) r r' h λi j U U e=>ge_int ⟨_,rfl,G,e.symm▸q⟩
 |inn=>exact(zUu WO hu G r r' h).1 λk=>⟨_,rfl,G.toks k,q⟩
 |nin=>exact(zUu WO hu G r r' (not h)).2 λk=>⟨_,rfl,G.toks k,(Bool.not_not t).symm▸q⟩
theorem zFv(r:Rep g d v):handedIn v=true/\(v==Value.none)=isNone d/\(noBi d=true->plainIs v .none=true):=by
 cases r with
 |bi b=>cases b<;>exact⟨by first|rfl|decide +kernel,rfl,λh=>Bool.noConfusion h⟩
 |_=>exact⟨rfl,rfl,λU=>rfl⟩
theorem zIe(_:Good W cx g V s)(r:Rep g d v):(v==Value.none)=isNone d:=(zFv r).2.1
theorem zCu(_:Good W cx g V s)(r:Rep g d v)(h:zCh d=some t):v=.bool t:=by
 cases d with
 |bool b=>cases h;exact zAw r
 |_=>exact zA2 h
end
end
section
theorem zMr(hx:okc x=true)(r:RepE g ns ds es):optN (fld ns ds (enc x)) (λd=>∃ e,es.find? (·.key.isStr x)=some e/\Rep g d e.val) (es.find? (·.key.isStr x)=none):=
 r.ind (P:=λns ds es=>optN (fld ns ds (enc x)) (λd=>∃ e,es.find? (·.key.isStr x)=some e/\Rep g d e.val) (es.find? (·.key.isStr x)=none)) rfl λ{d v y t hs ns ds es} ok h1 _ ih=>by
  have hf:List.find? (·.key.isStr x) (⟨hs,.str y t,v⟩::es)=(match(Value.str y t).isStr x with|true=>some ⟨hs,.str y t,v⟩|false=>es.find? (·.key.isStr x)):=rfl
  rw[hf,show(Value.str y t).isStr x=Nat.beq (enc y) (enc x) from zNt ok hx]
  show optN (if Nat.beq (enc y) (enc x)=true then some d else fld ns ds (enc x)) _ _
  cases Nat.beq (enc y) (enc x)with
  |true=>exact⟨_,rfl,h1⟩
  |false=>exact ih
theorem zHl(hx:okc x=true)(r:RepE g ns ds es)(h:fld ns ds (enc x)=some d):∃ v,getL x es=some (some v)/\Rep g d v:=by
 have q:=zMr hx r
 rw[h]at q
 exact e12 (λe q1 q2=>⟨e.val,by unfold getL;rw[q1],q2⟩) q
theorem zR5:∀{ns:List Nat} {ds:List DV} {es:List DictEntry},RepE g ns ds es->es.any (·.refKey)=false:=λr=>r.ind (P:=λU U es=>es.any (·.refKey)=false) rfl λU U U ih=>by rw[List.any_cons,ih];rfl
theorem zMq(hx:okc x=true)(r:RepE g ns ds es)(h:fld ns ds (enc x)=none):getL x es=some none:=by
 have q:=zMr hx r
 rw[h]at q
 unfold getL
 rw[show es.find? (·.key.isStr x)=none from q,zR5 r];rfl
theorem zXb(hx:okc x=true)(hv:Rep g d v)(hsh:Int)(t:Tok)(r:RepE g ns ds es):RepE g (fput ns ds (enc x) d).1 (fput ns ds (enc x) d).2 (putL x hsh (.str x t) v es):=
 r.ind (P:=λns ds es=>RepE g (fput ns ds (enc x) d).1 (fput ns ds (enc x) d).2 (putL x hsh (.str x t) v es)) (.cons hx hv .nil) λ{d' w y t' hs ns ds es} ok h1 r ih=>by
  have hf:fput (enc y::ns) (d'::ds) (enc x) d=if Nat.beq (enc y) (enc x)=true then(enc y::ns,d::ds)else(enc y::(fput ns ds (enc x) d).1,d'::(fput ns ds (enc x) d).2):=rfl
  have hp:putL x hsh (.str x t) v (⟨hs,.str y t',w⟩::es)=if(Value.str y t').isStr x=true then⟨hs,.str y t',v⟩::es else⟨hs,.str y t',w⟩::putL x hsh (.str x t) v es:=rfl
  rw[hf,hp,show(Value.str y t').isStr x=Nat.beq (enc y) (enc x) from zNt ok hx]
  cases Nat.beq (enc y) (enc x)with
  |true=>exact .cons ok hv r
  |false=>exact .cons ok h1 ih
theorem zO5:∀{ns:List Nat} {ds:List DV} {es:List DictEntry},RepE g ns ds es->es.length=ns.length:=λr=>r.ind (P:=λns U es=>es.length=ns.length) rfl λU U U ih=>by rw[List.length_cons,List.length_cons,ih]
theorem zO7(x:Str)(h:Int)(k v:Value)(es:List DictEntry):(putL x h k v es).length<=es.length+1:=by
 induction es with
 |nil=>exact Nat.le_refl 1
 |cons e r ih=>
  have hp:putL x h k v (e::r)=if e.key.isStr x=true then⟨e.hash,e.key,v⟩::r else e::putL x h k v r:=rfl
  rw[hp]
  cases e.key.isStr x with
  |true=>exact Nat.le_succ _
  |false=>exact Nat.succ_le_succ ih
structure TbOk(W:Wd)(T:Tb):Prop where
 gl:GlOk W T.gl
 rd:∀ C x,okc x=true->T.rd C (enc x)=true->plainGet W.K C x=true/\hasDictIn W.K C=true/\∃ a,findIn W.K (.ref C) x=some a/\noGet W.K a=true
 st:∀ C x,okc x=true->T.st C (enc x)=true->findIn W.K (.ref C) "__setattr__"=some (some (.builtin "object.__setattr__"))/\plainOver W.K C=true/\takerIn W.K C x=some none/\hasDictIn W.K C=true
 me:∀ C x f,okc x=true->T.me C (enc x)=some f->plainGet W.K C x=true/\findIn W.K (.ref C) x=some (some (.ref f))/\isFn W.K (.ref f)=true/\keepIn W.K (.ref f)=true
 ini:∀ C f,T.ini C=some f->makesIn W.K C=true/\findIn W.K (.ref C) "__init__"=some (some (.ref f))/\isFn W.K (.ref f)=true/\keepIn W.K (.ref C)=true
 kf:∀ f,T.kf f=true->keepIn W.K (.ref f)=true
section
variable {W:Wd}{too:Addr}{T:Tb}{n:Nat}{cx:Cx}{X:DV->St->Prop}{V:St}{g g':Hp}{s:Shared}{E:Value->Shared->Prop}
theorem zJh(r:Rep g d v):handedIn v=true:=(zFv r).1
theorem zTx(r:MRep prog w g (.inst C dx) o):∃ sl,o=⟨.ref C,some dx,.plain,sl⟩:=by
 cases r;exact⟨_,rfl⟩
theorem zRb(r:MRep prog w g (.attrs ns ds) o):∃ es n,o=dictOf es n/\RepE g ns ds es:=by
 cases r with
 |attrs r=>exact⟨_,_,rfl,r⟩
theorem zM4(G:Good W cx g V s)(h:zDg V.mu a=some r):∃ sl es k,s.heap.get? a=some ⟨.ref r.C,some r.dx,.plain,sl⟩/\s.heap.get? r.dx=some (dictOf es k)/\RepE g r.ns r.vs es/\V.mu r.dx=some (.attrs r.ns r.vs):=by
 refine e02 (λh1 h2=>?_) (zS3 h)
 refine e12 (λo1 a1 b1=>?_) (G.sim.muts _ _ h1).2.2
 refine e12 (λo2 a2 b2=>?_) (G.sim.muts _ _ h2).2.2
 exact e11 (λsl e1=>e22 (λes k e2 r'=>⟨sl,es,k,a1.trans (congrArg some e1),a2.trans (congrArg some e2),r',h2⟩) (zRb b2)) (zTx b1)
theorem zV1(G:Good W cx g V s)(hx:okc x=true)(r:Rep g o v)(h:getA V.mu o (enc x)=some (C,d)) :
  ∃ a ox es k w,v=.ref a/\InstAt s.heap a ox C (some (dictOf es k))/\getL x es=some (some w)/\Rep g d w:=by
 cases o with
 |inst C' ns ds=>
  refine e12 (λd' h e=>?_) (zA1 h)
  cases e
  refine(zAw r).elim λa q=>e44 (λdx sl es n e h1 h2 r=>?_) q
  exact e12 (λw q1 q2=>⟨a,_,es,n,w,e,⟨G.sim.frz _ _ h1,rfl,rfl,G.sim.frz _ _ h2⟩,q1,q2⟩) (zHl hx r h)
 |ref a=>
  refine e12 (λp hp h=>e12 (λd' h e=>?_) (zA1 h)) (zA1 h)
  cases e
  refine e34 (λsl es k h1 h2 r' U=>?_) (zM4 G hp)
  exact e12 (λw q1 q2=>⟨a,_,es,k,w,zAw r,⟨h1,rfl,rfl,h2⟩,q1,q2⟩) (zHl hx r' h)
 |_=>exact zA2 h
theorem zW2(WO:W.Ok)(TO:TbOk W T)(G:Good W cx g V s)(hx:okc x=true)(r:Rep g o v)(h:getA V.mu o (enc x)=some (C,d))(ht:T.rd C (enc x)=true)(q:Q d V) :
  wpAny W.M cx.A (getAttr v x true) (PostE W cx g Q) E s:=by
 refine(zV1 G hx r h).elim λa q9=>e44 (λox es k w e I h1 h2=>?_) q9
 refine e03 (λt1 t2 q9=>e12 (λt t3 t4=>?_) q9) (TO.rd C x hx ht)
 refine e12 (λmm F N=>?_) G.fr
 rw[e]
 exact get_own F WO.kin I t1 t2 t3 t4 h1 (zJh h2) ((G.toks _).post h2 q)
theorem zR1(WO:W.Ok)(TO:TbOk W T)(G:Good W cx g V s){o d:DV}{K:St->Prop}(hx:okc x=true)(r:Rep g o v)(r':Rep g d w)(h:zF9 T o (enc x) d K V) :
  wpAny W.M cx.A (setAttr v x w) (PostG W cx g λU=>K) E s:=by
 refine e12 (λa ha h=>?_) (zAb h)
 refine e12 (λp hp h=>?_) (zAb h)
 refine e02 (λht h=>?_) (zE8 h)
 refine e02 (λhl h=>?_) (zE8 h)
 rw[zKt ha]at r
 rw[show v=.ref a from zAw r]
 refine e34 (λsl es k h1 h2 re hd=>?_) (zM4 G hp)
 refine e04 (λt1 t2 t3 t4=>?_) (TO.st p.C x hx ht)
 refine e12 (λmm F N=>?_) G.fr
 have hL:(getL x es).isSome=true:=by
  cases e:fld p.ns p.vs (enc x)with
  |some d'=>exact e12 (λU q U=>by rw[q];rfl) (zHl hx re e)
  |none=>rw[zMq hx re e];rfl
 refine set_dict F WO.kin N ⟨h1,rfl,rfl,h2⟩ rfl t1 t2 t3 t4 hL rfl (zSf (G.inLedger hd h2) (zN5 _ _ _)) (Nat.le_trans (zO7 ..) ?_) λh' F' N'=>?_
 ·rw[zO5 re];exact Nat.le_trans (Nat.succ_le_succ (Nat.le_of_ble_eq_true hl)) (by decide)
 ·exact⟨g,_,Ext.rfl,G.newsU F (t:=s.toks+2) hd h2 F' N' (.attrs (zXb hx r' _ _ re)),h⟩
end
end
section
section
variable {W:Wd}{too:Addr}{T:Tb}{n:Nat}{cx:Cx}{X:DV->St->Prop}{V:St}{g g':Hp}{s:Shared}{E:Value->Shared->Prop}
theorem zZa(h:bigI k):k<2 ^ 63:=Int.lt_of_le_of_lt Int.le_natAbs (Int.ofNat_lt.mpr (Nat.lt_trans h (by decide:2 ^ 60<2 ^ 63)))
theorem yFs(r:RepL g l vs)(h:nth l k=some d):∃ j v,k=Int.ofNat j/\vs[j]?=some v/\Rep g d v:=
 e12 (λj h1 h=>e12 (λv a b=>⟨j,v,zL0 h1,a,b⟩) (r.get h)) (zA1 h)
theorem zSj(G:Good W cx g V s)(hz:small b.size)(h:opt (nthB b k) λd=>Q d V)
  (hs:subscripted slice false (.bytes b tb) (.int k tk)=operate ops (getItem (.bytes b tb) (.int k tk))):wpAny W.M cx.A (subscriptTail value slice (.bytes b tb) (.int k tk)) (PostE W cx g Q) E s:=by
 refine e12 (λd hd h=>e12 (λj hj hd=>e12 (λx hx ex=>?_) (zA1 hd)) (zA1 hd)) (zAb h)
 rw[zL0 hj]at hs
 rw[zL0 hj]
 refine tail_any (typeIs_bytes _ _ _) FB.slot_bytes_getitem.lookup ?_ hs
 have hk:j<b.toList.length:=(List.getElem?_eq_some_iff.mp hx).1
 refine getItem_bytes (prog:=W.prog) (w:=W.w) (t:=tb) (u:=tk) (l:=b.toList) (i:=Int.ofNat j) (Q:=PostE W cx g Q) (Nat.le_trans hz (by decide)) (Int.natCast_nonneg _) (Int.ofNat_lt.mpr hk) ?_
 have e:b.toList.getD j 0=x:=by rw[List.getD_eq_getElem?_getD,hx];rfl
 show PostE W cx g Q (.int (Int.ofNat (b.toList.getD j 0).toNat) _) _
 rw[e]
 exact(G.toks _).post (.int _ _) (Option.some.inj ex▸h)
theorem yAo(G:Good W cx g V s)(r:Rep g o v)(hb:bigI k)(h:opt (seqV V.mu o) λl=>opt (nth l k) λd=>Q d V)
  (hs:subscripted slice false v (.int k tk)=operate ops (getItem v (.int k tk))):wpAny W.M cx.A (subscriptTail value slice v (.int k tk)) (PostE W cx g Q) E s:=by
 refine e12 (λl hl h=>e12 (λd hd h=>?_) (zAb h)) (zAb h)
 refine(zPf G r hl).elim λa q=>e33 (λob nn vs e ho q=>?_) q
 refine e03 (λhc hdd rl=>?_) q
 refine e23 (λj x ej hx rx=>?_) (yFs rl hd)
 have hhi:=zZa hb
 rw[e]at hs
 rw[e]
 have h0:0<=k:=by rw[ej];exact Int.natCast_nonneg _
 have hj:k.toNat=j:=by rw[ej];rfl
 have hx':vs.toArray[k.toNat]?=some x:=by rw[hj,List.getElem?_toArray];exact hx
 rcases hc with hc|hc
 ·have hL:s.heap.IsList a vs.toArray:=⟨ob,ho,hc,nn,hdd⟩
  exact tail_any hL.typeIs list_getitem_lookup (wpAny_getItem_list hL h0 hhi hx' (G.post rx h)) hs
 ·have hT:IsTup s.heap a vs.toArray:=⟨ob,ho,hc,nn,hdd⟩
  have hk:j<vs.length:=(List.getElem?_eq_some_iff.mp hx).1
  refine tail_any hT.typeIs F.slot_tuple_getitem.lookup (getItem_tuple hT (Int.le_trans (by decide) h0) hhi (j:=k.toNat) ?_ hx' (G.post rx h)) hs
  unfold seqIndex?
  have:¬ k<0:=Int.not_lt.mpr h0
  have h2:k<(vs.length:Int):=by rw[ej];exact Int.ofNat_lt.mpr hk
  simp[this,h0,h2]
theorem zWl(G:Good W cx g V s)(r:Rep g o v)(r':Rep g i w)(h:subW V.mu o i λd=>Q d V)
  (hs:∃ ops,subscripted slice false v w=operate ops (getItem v w)):wpAny W.M cx.A (subscriptTail value slice v w) (PostE W cx g Q) E s:=by
 refine e12 (λk hk h=>e02 (λhb h=>?_) h) (zAb h)
 rw[zCn hk]at r'
 revert hs
 refine zAz r' λtk=>?_
 rcases zKv h with⟨b,hbt,h⟩|h
 ·rw[zVv hbt]at r
  exact zMp r λtb hs=>hs.elim λops hs=>zSj G h.1 h.2 hs
 ·exact λhs=>hs.elim λops hs=>yAo G r hb h hs
theorem zTk(r:Rep g d v)(h:bnd m d=some k):∃ lo,IsPart v lo/\(m=0->∀ n,kms_lo lo n=min k n)/\kms_hi lo m=min k m:=by
 rcases zOn h with⟨hn,e⟩|e
 ·rw[zUn hn]at r
  cases e
  exact zPi r ⟨_,.none,λe n=>by subst e;simp[kms_lo],by simp[kms_hi]⟩
 ·rw[zTw e]at r
  refine zAz r λt=>⟨_,.int _ _,λU n=>?_,?_⟩
  ·simp only[kms_lo];rw[if_neg (by simp)];simp
  ·simp only[kms_hi];rw[if_neg (by simp)];simp
theorem zGj(h:zJf slice=none)(v w:Value):∃ ops,subscripted slice false v w=operate ops (getItem v w):=by
 refine⟨[v,w],?_⟩
 cases slice with
 |Slice a b c p=>exact zA2 h.symm
 |_=>rfl
theorem zXs{α:Type}{vs:List α}{n:Nat}(hn:n=vs.length):(vs.drop (min i n)).take (min j n-min i n)=(vs.take j).drop i:=by
 subst hn
 rw[List.drop_take]
 by_cases q:i<=vs.length
 ·rw[Nat.min_eq_left q]
  by_cases q2:j<=vs.length
  ·rw[Nat.min_eq_left q2]
  ·rw[Nat.min_eq_right (by exact n29 q2:vs.length<=j),List.take_of_length_le (by simp),List.take_of_length_le (by simp;omega)]
 ·rw[Nat.min_eq_right (by exact n29 q:vs.length<=i),List.drop_of_length_le (by exact n29 q:vs.length<=i),List.drop_of_length_le (Nat.le_refl _)];simp
theorem zX2(G:Good W cx g V s)(r:Rep g o v)(rl:Rep g l w)(ru:Rep g u x)(h:zSd o l u Q V) :
  wpAny W.M cx.A (subscriptTail value (.Slice lw up none p) v (.ref s.heap.objs.size)) (PostE W cx g Q) E {s with heap:=s.heap.push {cls:=.type "slice",data:=.fields #[w,x,.none]}}:=by
 refine e12 (λxs hxs h=>e12 (λi hi h=>e12 (λj hj h=>e02 (λhz h=>?_) h) (zAb h)) (zAb h)) (zAb h)
 refine e02 (λe G'=>?_) (G.newF {cls:=.type "slice",data:=.fields #[w,x,.none]} rfl)
 refine e33 (λa nn vs ev ho rv=>?_) (zD9 G' (r.mono e) hxs)
 refine e13 (λlo pl l1 U=>?_) (zTk rl hi)
 refine e13 (λhi' pu U u2=>?_) (zTk ru hj)
 have hL:=PySem.IsL.isList (n:=nn) ho
 have hlen:=rv.length
 rw[ev]
 refine tail_any (ops:=[.ref s.heap.objs.size,.ref a]) hL.typeIs list_getitem_lookup ?_ rfl
 refine wpAny_getItem_list_slice hL (Heap.IsSliceOf.new ..) pl pu .none (by simp) ?_ (by rw[List.size_toArray,<-hlen];exact Nat.le_trans hz (by decide))
 rw[kms_pick_eq]
 have ev:kms_pick vs.toArray.toList lo hi'=(vs.take j).drop i:=by
  unfold kms_pick
  rw[l1 rfl,<-hlen,u2]
  exact zXs hlen
 rw[ev]
 exact⟨_,_,_,e,G'.newM (mo:=.lst ((xs.take j).drop i)) (listOf ((vs.take j).drop i).toArray 0) rfl (.lst ((rv.take j).drop i)),.ref _,h _ (G'.sim.mnone (zAe _))⟩
end
end
section
section
variable {W:Wd}{too:Addr}{T:Tb}{n:Nat}{cx:Cx}{X:DV->St->Prop}{V:St}{g g':Hp}{s:Shared}{E:Value->Shared->Prop}
theorem zGp(G:Good W cx g V s)(h:V.mu a=some (.lst l)):∃ c vs,s.heap.get? a=some (listOf vs.toArray c)/\RepL g l vs:=
 e12 (λo h1 h2=>e22 (λn vs e r=>⟨n,vs,h1.trans (congrArg some e),r⟩) (zPr h2)) (G.sim.muts _ _ h).2.2
theorem zHk(G:Good W cx g V s){c:Nat}{vs vs':List Value}{t:Nat}(h:V.mu a=some (.lst l))(ho:s.heap.get? a=some (listOf vs.toArray c))(e:f vs.toArray=vs'.toArray)(r:RepL g l' vs') :
  Good W cx g ⟨V.loc,V.mu.set a (.lst l')⟩ {s with heap:=s.heap.update a (Obj.mapSeq f),toks:=t}:=by
 have q:=PySem.IsL.update (n:=c) ho f
 rw[e]at q
 exact G.updM h (Heap.SameBut.update ..) q (.lst r)
theorem zNv{kvs:List (Int×Value)}{v:Value}:(stored kvs k v).map (·.1)=if(kvs.map (·.1)).contains k then kvs.map (·.1)else kvs.map (·.1)++[k]:=by
 have e:(kvs.any λkv=>decide (kv.fst=k))=(kvs.map (·.1)).contains k:=by
  induction kvs with
  |nil=>rfl
  |cons x r ih=>
   rw[List.any_cons,List.map_cons,List.contains_cons,ih]
   congr 1
   by_cases q:x.1=k
   ·simp[q]
   ·have:¬ k=x.1:=λh=>q h.symm
    simp[q,this]
 unfold stored
 rw[e]
 split
 ·rw[List.map_map];congr 1;funext kv;simp only[Function.comp];split<;>rfl
 ·simp
theorem zMh{kvs:List (List Int×Addr×Value)}{k:List Int}:(storedH kvs k a v).map (·.1)=if(kvs.map (·.1)).contains k then kvs.map (·.1)else kvs.map (·.1)++[k]:=by
 unfold storedH
 rw[zHe]
 split
 ·rw[List.map_map];congr 1;funext kv;simp only[Function.comp,putAt];split<;>rfl
 ·simp
theorem zPe(G:Good W cx g V s){a:Addr}{mo:MObj}(hm:V.mu a=some mo){oj:Obj}(ho:s.heap.get? a=some oj){j:Int}{w:Value}{kvs:List (Int×Value)}{K:St->Prop}(rj:Rep g (.int j) w)(hd:oj.IsDictOf (intKind W.prog W.w) kvs)(hz:kvs.length<=2 ^ 20)
  (h:K ⟨V.loc,V.mu.set a (.dI (if(kvs.map (·.1)).contains j then kvs.map (·.1)else kvs.map (·.1)++[j]))⟩):wpAny W.M cx.A (setItem (.ref a) w (.bool true)) (PostG W cx g λU=>K) E s:=by
 refine zAz rj λtk=>?_
 refine wpAny_setItem_pairs (k:=j) (kvs:=kvs) (by simp[intKind,Value.isInt]) (zD8 ho hd) (λh' hd' hs'=>?_) (zBi hz)
 rw[<-zNv (v:=.bool true)]at h
 exact e32 (λo' es ep ho' rest=>(G.updM (t:=s.toks+1) hm hs' ho' (.dI (kvs:=stored kvs j (.bool true)) ⟨es,ep,rest⟩)).postG h) hd'
def zZh(W:Wd)(g:Hp)(x:List Int×Addr×Value):Prop:=∃ o n vs,g x.2.1=some o/\o.cls=.type "tuple"/\o.data=.seq vs n/\ItemsAre (intKind W.prog W.w) x.1 vs.toList
theorem zMg(hi:∀ x∈xs,zZh W g x)(hb:zZh W g (k,b,v)):∀ x∈storedH xs k b v,zZh W g x:=by
 intro x hx
 unfold storedH at hx
 split at hx
 ·refine(List.mem_map.mp hx).elim λy q=>?_
  rw[<-q.2]
  unfold putAt
  split<;>exact hi y q.1
 ·rcases List.mem_append.mp hx with hx|hx
  ·exact hi x hx
  ·rw[List.mem_singleton.mp hx];exact hb
theorem zMn(hu:cx.A.units+64<cLine)(G:Good W cx g V s){mo:MObj}(hm:V.mu a=some mo){i j:Int}{K:St->Prop}(rj:Rep g (.tup [.int i,.int j]) w)(hd:s.heap.DictOfH (tupleKind (intKind W.prog W.w)) a xs)(hz:xs.length<=2 ^ 20)(hi:∀ x∈xs,zZh W g x)
  (h:K ⟨V.loc,V.mu.set a (.dT (if(xs.map (·.1)).contains [i,j]then xs.map (·.1)else xs.map (·.1)++[[i,j]]))⟩):wpAny W.M cx.A (setItem (.ref a) w (.bool true)) (PostG W cx g λU=>K) E s:=by
 refine zTl (W:=W) rj λb o nn vs hb hc hdd hit=>?_
 have hkey:(tupleKind (intKind W.prog W.w)).is s.heap [i,j] b:=⟨o,vs,nn,G.sim.frz _ _ hb,hc,hdd,hit⟩
 have hroom:(tupleKind (intKind W.prog W.w)).room cx.A.in1:=Nat.lt_trans (Nat.add_lt_add_left (by decide:1<64) cx.A.units) hu
 refine wpAny_setItem_heap hroom hkey hd (λh' hd' hs'=>?_) (zBi hz)
 rw[<-zMh (a:=b) (v:=.bool true)]at h
 exact e36 (λo' es ep ho' hx hda he U nd=>(G.updM (t:=s.toks+(tupleKind (intKind W.prog W.w)).draws [i,j]) hm hs' ho' (.dT hx hda he (zMg hi ⟨o,nn,vs,hb,hc,hdd,hit⟩) nd)).postG h) hd'
theorem yAy(hu:cx.A.units+64<cLine)(G:Good W cx g V s){a:Addr}{mo mo':MObj}(hm:V.mu a=some mo){i:DV}{w:Value}{K:St->Prop}(ri:Rep g i w)(hp:zQ7 i mo=some mo')(hz:small (zNi mo))(h:K ⟨V.loc,V.mu.set a mo'⟩) :
  wpAny W.M cx.A (setItem (.ref a) w (.bool true)) (PostG W cx g λU=>K) E s:=by
 refine e12 (λoj ho hr=>?_) (G.sim.muts _ _ hm).2.2
 cases mo with
 |dE=>
  refine e11 (λep e=>?_) (zU0 hr)
  rw[e]at ho
  replace hp:(match intD i with|some i=>some (MObj.dI [i])|none=>ob none (zOa i) λp=>some (.dT [[p.1,p.2]]))=some mo':=hp
  cases hi:intD i with
  |some j=>
   rw[hi]at hp
   rw[zCn hi]at ri
   rw[<-Option.some.inj hp]at h
   exact zPe G hm ho ri zEp (Nat.zero_le _) h
  |none=>
   rw[hi]at hp
   refine e12 (λp h1 hp=>?_) (zA1 hp)
   rw[zHo h1]at ri
   rw[<-Option.some.inj hp]at h
   exact zMn (xs:=[]) hu G hm ri ⟨_,#[],_,ho,⟨rfl,rfl,rfl⟩,rfl,rfl,(λU hx=>nomatch hx),List.nodup_nil⟩ (Nat.zero_le _) (λU hx=>nomatch hx) h
 |dI ks=>
  refine e12 (λkvs e hd=>?_) (zTz hr)
  refine e12 (λj h1 hp=>?_) (zA1 hp)
  rw[zCn h1]at ri
  rw[<-Option.some.inj hp,e]at h
  rw[e]at hz
  exact zPe G hm ho ri hd (List.length_map (as:=kvs) (·.1)▸hz) h
 |dT ks=>
  refine(zTy hr).elim λxs q=>e24 (λes ep e hx hd q=>?_) q
  refine e03 (λhe hi nd=>?_) q
  refine e12 (λp h1 hp=>?_) (zA1 hp)
  rw[zHo h1]at ri
  rw[<-Option.some.inj hp,e]at h
  rw[e]at hz
  exact zMn hu G hm ri ⟨_,_,_,ho,hx,hd,he,(λx hx=>e34 (λo n vs a1 a2 a3 a4=>⟨o,vs,n,G.sim.frz _ _ a1,a2,a3,a4⟩) (hi x hx)),nd⟩ (List.length_map (as:=xs) (·.1)▸hz) hi h
 |_=>exact zA2 hp
theorem zO1(hu:cx.A.units+64<cLine)(G:Good W cx g V s){o i d:DV}{K:St->Prop}(r:Rep g o v)(ri:Rep g i w)(rd:Rep g d x)(h:zI4 o i d K V) :
  wpAny W.M cx.A (setItem v w x) (PostG W cx g λU=>K) E s:=by
 refine e12 (λa ha h=>e12 (λmo hm h=>?_) (zAb h)) (zAb h)
 rw[zKt ha]at r
 rw[show v=.ref a from zAw r]
 rcases zKv h with⟨l,hl,h⟩|h
 ·refine e12 (λk hk h=>e03 (λh1 hz h=>?_) h) (zAb h)
  rw[zTw hk]at ri
  refine zAz ri λtk=>?_
  rw[zL2 hl]at hm
  refine e22 (λc vs ho rv=>?_) (zGp G hm)
  have hlen:=rv.length
  have hz':=zBi hz
  refine ki_setAt ho (Int.natCast_nonneg _) (by simp only[Int.ofNat_eq_natCast];unfold small at hz;omega) (by simp;omega) ?_
  exact(zHk (t:=s.toks) G hm ho (vs':=vs.set k x) (f:=(·.setIfInBounds (Int.ofNat k).toNat x)) (by simp) (rv.set k rd)).postG h
 ·refine e12 (λmo' hp h=>?_) (zAb h)
  refine e02 (λht h=>?_) (zE8 h)
  rw[zRi ht]at rd
  exact zPj rd (yAy hu G hm ri hp h.1 h.2)
theorem zP1(G:Good W cx g V s)(hl:V.mu a=some (.lst l))(r:Rep g d v)(hz:small l.length)(h:Q .none ⟨V.loc,V.mu.set a (.lst (l++[d]))⟩) :
  wpAny W.M cx.A (call (.builtin "list.append") [.ref a,v]) (PostE W cx g Q) E s:=by
 refine e22 (λc vs ho rv=>?_) (zGp G hl)
 refine append_at ho (λh' hs ho'=>?_) (by have:=rv.length;simp;exact this▸zBi hz)
 have G':=G.updM (t:=s.toks) (mo':=.lst (l++[d])) hl hs ho' (by
  have:=MRep.lst (prog:=W.prog) (w:=W.w) (n:=c+1) (rv.append (.cons r .nil))
  rw[<-List.push_toArray]at this
  exact this)
 exact G'.post .none h
set_option tactic.hygienic true in
theorem zXe(G:Good W cx g V s){l:List DV}{d:DV}(hl:V.mu a=some (.lst l))(hd:l.getLast?=some d)(hz:small l.length)(h:Q d ⟨V.loc,V.mu.set a (.lst l.dropLast)⟩) :
  wpAny W.M cx.A (call (.builtin "list.pop") [.ref a]) (PostE W cx g Q) E s:=by
 refine by_g λkG=>?_
 refine e22 (λc vs ho rv=>?_) (zGp G hl)
 have hlen:=rv.length
 rw[List.getLast?_eq_getElem?]at hd
 refine e12 (λy hy ry=>?_) (rv.get hd)
 rw[hlen]at hy
 refine kG ?_
 refine call_meets PySem.F.slot_list_pop ⟨_,ho,rfl⟩ PySem.F.entry_list_pop (PySem.F.args_list_pop_1 _) (PySem.MeetsSeq.list_pop_last a vs.toArray c y (by simpa using hy) (by simp;exact hlen▸zBi hz)) ⟨ho,?_⟩
 have G':=zHk (t:=s.toks) G hl ho (vs':=vs.take (vs.length-1)) (f:=λxs=>xs.eraseIdxIfInBounds (vs.toArray.size-1)) (by
  have hp:vs.length-1<vs.length:=(List.getElem?_eq_some_iff.mp hy).1
  apply Array.toList_inj.mp
  simp only[Array.eraseIdxIfInBounds]
  split
  ·rw[Array.toList_eraseIdx]
   simp only[List.size_toArray,List.eraseIdx_eq_take_drop_succ]
   rw[List.drop_of_length_le (by omega),List.append_nil]
  ·rename_i q;simp at q;omega) (l':=l.dropLast) (by rw[List.dropLast_eq_take,hlen];exact rv.take _)
 exact⟨g,_,_,Ext.rfl,G',ry,h⟩
set_option tactic.hygienic true in
theorem zTg(G:Good W cx g V s){a:Addr}{d:DV}{Q:DV->St->Prop}(hl:V.mu a=some (.lst (d::l)))(hz:small l.length)(h:Q d ⟨V.loc,V.mu.set a (.lst l)⟩) :
  wpAny W.M cx.A (call (.builtin "list.pop") [.ref a,.int 0 tk]) (PostE W cx g Q) E s:=by
 refine by_g λkG=>?_
 refine e22 (λc vs ho rv=>?_) (zGp G hl)
 cases rv with
 |cons ry rv=>
 rename_i y vs
 have hlen:=rv.length
 refine kG ?_
 refine call_meets PySem.F.slot_list_pop ⟨_,ho,rfl⟩ PySem.F.entry_list_pop (PySem.F.args_list_pop_2 _ _) (PySem.MeetsSeq.list_pop_at a (y::vs).toArray c 0 tk 0 y (by decide) (by simp[seqIndex?]) (by simp) (by unfold small at hz;rw[sizeLine_eq];simp;omega)) ⟨ho,?_⟩
 have G':=zHk (t:=s.toks) G hl ho (vs':=vs) (f:=λxs=>xs.eraseIdxIfInBounds 0) (by
  apply Array.toList_inj.mp
  simp[Array.eraseIdxIfInBounds,Array.toList_eraseIdx]) (l':=l) rv
 exact⟨g,_,_,Ext.rfl,G',ry,h⟩
theorem zOr(G:Good W cx g V s){a:Addr}{d:DV}{v:Value}(hl:V.mu a=some (.lst l))(rd:Rep g d v)(hd:asL V.mu d=some r)(hz:small (l.length+r.length))(h:Q .none ⟨V.loc,V.mu.set a (.lst (l++r))⟩):wpAny W.M cx.A (call (.builtin "list.extend") [.ref a,v]) (PostE W cx g Q) E s:=by
 refine by_g λkG=>?_
 refine e22 (λc vs ho rv=>?_) (zGp G hl)
 obtain⟨b,c',ws,rfl,hb,rw'⟩:=zD9 G rd hd
 have h1:=rv.length
 have h2:=rw'.length
 have hz':=zBi hz
 rw[h1,h2]at hz'
 refine kG ?_
 refine call_meets PySem.F.slot_list_extend ⟨_,ho,rfl⟩ PySem.F.entry_list_extend (PySem.F.args_list_extend_2 _ _) (PySem.AutoSeq1.list_extend_list_list_0 a vs.toArray c b ws.toArray c' ?_ (by simp;exact Nat.le_of_add_right_le hz') (by simp;exact Nat.le_add_right_of_le hz')) ⟨ho,hb,?_⟩
 ·have:Builtin.List.listTooLong (vs.toArray.size+ws.toArray.size)=false:=by
   unfold small at hz
   rw[h1,h2]at hz
   unfold Builtin.List.listTooLong
   simp
   exact hz'
  rw[this];simp
 ·have G':=zHk (t:=s.toks) G hl ho (vs':=vs++ws) (f:=λx=>x++ws.toArray) (by simp) (rv.append rw')
  exact G'.post .none h
set_option tactic.hygienic true in
theorem zYi(WO:W.Ok)(G:Good W cx g V s)(hm:V.mu a=some (.dS kv))(rx:Rep g (.str x) u)(rd:Rep g d v)(h:Q ((zRe kv x).getD d) V) :
  wpAny W.M cx.A (call (.builtin "dict.get") [.ref a,u,v]) (PostE W cx g Q) E s:=by
 refine by_g λkG=>?_
 obtain⟨_,_,ob,ho,hr⟩:=G.sim.muts _ _ hm
 cases hr with
 |dS hd hf=>
  rename_i kvs
  obtain⟨y,tk,rfl,hy,rfl⟩: ∃ y tk,u=.str y tk/\okc y=true/\enc y=x:=zAw rx
  have hmap:=(zD8 ho hd).mapOf
  refine kG ?_
  refine call_meetsIn F.slot_dict_get hmap.typeIs F.entry_dict_get (F.args_dict_get_3 _ _ _) (meets_dict_get_default (PySem.strKind W.prog W.w) (k:=y) a (by simp[PySem.strKind,Value.isStrOf]) (zU6 WO G hm) v) ⟨_,hmap,?_⟩
  refine⟨g,V,_,Ext.rfl,G.toks _,?_,h⟩
  clear h hd ho hmap hm
  induction hf with
  |nil=>exact rd
  |cons h r ih=>
   obtain⟨h1,h2,h3⟩:=h
   rename_i k e _ _
   unfold zRe valueAt
   rw[List.find?_cons]
   by_cases q:e.1=y
   ·subst q
    rw[<-h2,zBn]
    simp only[decide_true,if_true,Option.map_some,Option.getD_some]
    exact h3
   ·have:Nat.beq k.1 (enc y)=false:=zA9 λz=>q (zBz h1 hy (h2.trans z))
    simp only[this,decide_eq_false q,Bool.false_eq_true,if_false]
    exact ih
end
end
section
section
variable {W:Wd}{too:Addr}{T:Tb}{n:Nat}{cx:Cx}{X:DV->St->Prop}{V:St}{g g':Hp}{s:Shared}{E:Value->Shared->Prop}
theorem zUs:∀{vs:List Value} {is:List Int},RepL g l vs->zGz l=some is->IntsAre vs is:=by
 induction l with
 |nil=>intro vs is r h;cases h;exact zEw r .nil
 |cons d l ih=>
  intro vs is r h
  refine e12 (λi hi h=>e12 (λjs hj h=>?_) (zA1 h)) (zA1 h)
  rw[zCn hi]at r
  rw[<-Option.some.inj h]
  exact zCx r λw ws r1 r=>zAz r1 λt=>.cons i t (ih r hj)
theorem zX9(r:IntsAre vs is):RepL g (is.map .int) vs:=by
 induction r with
 |nil=>exact .nil
 |cons i t _ ih=>exact .cons (.int i t) ih
theorem zXr(hh:cx.A.handled=none)(G:Good W cx g V s)(hT:s.heap.IsTuple t #[.int a ta,.int b tb])(h:Q (.int (if b<a then b else a)) V) :
  wpAny W.M cx.A (call (.builtin "min") [.ref t]) (PostE W cx g Q) E s:=by
 have hlt:t<s.heap.objs.size:=by(revert hT;refine e12 λU e U=>?_);exact Heap.lt_size e
 have hi:(#[.int a ta,.int b tb]:Array Value)=intItems #[(a,ta),(b,tb)]:=by simp[intItems]
 rw[hi]at hT
 refine call_min_walk (wpAny_pyIter_tuple hT ?_)
 refine⟨_,[_,t],[_],_,_,_,_,rfl,Walks.tuple (A:=cx.A.in1) hh _ t (Nat.ne_of_lt hlt) (intItems #[(a,ta),(b,tb)]),⟨⟨_,Heap.get?_push_size _ rfl,rfl,rfl⟩,hT.push _⟩,λc hc=>?_,by simp[intItems],
  CmpOf.ints_lt (numAt #[(a,ta),(b,tb)]) (λU U=>intItems_at),λv h' tk hP hk=>?_⟩
 ·show c<(s.heap.push _).objs.size
  rw[Heap.size_push]
  simp only[List.mem_cons,List.not_mem_nil,or_false]at hc
  rcases hc with rfl|rfl
  ·exact Nat.lt_succ_self _
  ·exact Nat.lt_succ_of_lt hlt
 ·have hold:∀ c o,s.heap.get? c=some o->h'.get? c=some o:=λc o e=>hk c o (λhm=>by
   simp only[List.mem_cons,List.not_mem_nil,or_false]at hm
   have h9:=Heap.lt_size e
   subst hm
   exact Nat.lt_irrefl _ h9) (Heap.get?_push_of_some _ e)
  refine⟨g,V,.int (if b<a then b else a),Ext.rfl,G.grow (t:=tk) hold,?_,h⟩
  have hP':(intItems #[(a,ta),(b,tb)])[argBest (λi j=>decide (numAt #[(a,ta),(b,tb)] i<numAt #[(a,ta),(b,tb)] j)) 1]?=some v:=by
   have hz:(intItems #[(a,ta),(b,tb)]).size-1=1:=by simp[intItems]
   rw[<-hz];exact hP
  by_cases q:b<a
  ·have e:argBest (λi j=>decide (numAt #[(a,ta),(b,tb)] i<numAt #[(a,ta),(b,tb)] j)) 1=1:=by simp[argBest,numAt,q]
   rw[e]at hP'
   have:v=.int b tb:=by simpa [intItems]using hP'.symm
   rw[this,if_pos q];exact .int _ _
  ·have e:argBest (λi j=>decide (numAt #[(a,ta),(b,tb)] i<numAt #[(a,ta),(b,tb)] j)) 1=0:=by simp[argBest,numAt,q]
   rw[e]at hP'
   have:v=.int a ta:=by simpa [intItems]using hP'.symm
   rw[this,if_neg q];exact .int _ _
theorem zPc(h:small k):(k:Int)<2 ^ 63:=Int.ofNat_lt.mpr (Nat.lt_of_le_of_lt h (by decide:2 ^ 20<2 ^ 63))
theorem zMs(G:Good W cx g V s)(h:Q (.rng a b c) V) :
  PostE W cx g Q (.ref s.heap.objs.size) {s with heap:=s.heap.push {cls:=.type "range",data:=.fields #[.int a t,.int b u,.int c v]},toks:=tk}:=by
 refine e02 (λe G'=>?_) (G.newF {cls:=.type "range",data:=.fields #[.int a t,.int b u,.int c v]} rfl)
 exact⟨_,_,_,e,G'.toks tk,.rng (zBh _ _ _),h⟩
theorem yBu(G:Good W cx g V s)(rd:Rep g d v)(hl:seqV V.mu d=some l)(hz:small l.length)(h:Q (.int (Int.ofNat l.length)) V) :
  wpAny W.M cx.A (call (.builtin "len") [v]) (PostE W cx g Q) E s:=by
 refine(zPf G rd hl).elim λa q=>e33 (λo nn ws e ho q=>?_) q
 refine e03 (λhc hd rl=>?_) q
 rw[rl.length,<-List.size_toArray]at hz h
 rw[e]
 rcases hc with hc|hc
 ·exact Calls.call_len_list ⟨o,ho,hc,nn,hd⟩ (zPc hz) ((G.toks _).post (.int _ _) h)
 ·exact len_tuple ⟨o,ho,hc,nn,hd⟩ (zPc hz) ((G.toks _).post (.int _ _) h)
theorem zY3(G:Good W cx g V s)(rd:Rep g d v)(h:opt (lenV V.mu d) λk=>small k/\Q (.int (Int.ofNat k)) V) :
  wpAny W.M cx.A (call (.builtin "len") [v]) (PostE W cx g Q) E s:=by
 refine e13 (λk hk hz h=>?_) (zAb h)
 cases hb:bytD d with
 |some b=>
  rw[zVv hb]at rd hk
  cases hk
  exact zMp rd λt=>len_bytes (Nat.le_trans hz (by decide)) ((G.toks _).post (.int _ _) h)
 |none=>
  rw[yBv hb]at hk
  refine(Option.map_eq_some_iff.mp hk).elim λl q=>?_
  rw[<-q.2]at hz h
  exact yBu G rd q.1 hz h
@[elab_as_elim] theorem zF6{ds:List DV}{K:DV->Prop}{P:List Value->Prop}(r:RepL g ds vs)(h:arg1 ds K)(k:∀ d v,Rep g d v->K d->P [v]):P vs:=by
 obtain⟨d,rfl,h⟩:=zP0 h
 exact zT9 r λw r=>k d w r h
@[elab_as_elim] theorem zOe(G:Good W cx g V s){ds:List DV}{vs:List Value}{K:List DV->Prop}{P:List Value->Prop}(r:RepL g ds vs)(h:arg1 ds λd=>opt (asL V.mu d) K)(k:∀ l a ws,s.heap.IsList a ws.toArray->RepL g l ws->K l->P [.ref a]):P vs:=
 zF6 r h λd v rd h=>e12 (λl hl h=>e23 (λa ws e hL rl=>by rw[e];exact k l a ws hL rl h) (zIf G rd hl)) (zAb h)
theorem zNz(G:Good W cx g V s)(hL:s.heap.IsList a ws.toArray)(hI:IntsAre ws is)(hz:is.length<64)(h:∀ is':List Int,is'.Perm is->is'.Pairwise (·<=·)->newL (is'.map .int) Q V) :
  wpAny W.M cx.A (call (.builtin "sorted") [.ref a]) (PostE W cx g Q) E s:=by
 refine e12 (λmm F N=>?_) G.fr
 refine sorted_N F N hL hI (by rw[hI.length];exact hz) λh' vs' ns' e F' N' a1 a2 a3=>?_
 have hs1:s.heap.get? (s.heap.objs.size+1)=none:=zC1 (Nat.le_succ _)
 have hk:=zQ1 F' G.sim.ext N' λp hp=>.tail _ hp
 have G':Good W cx g ⟨V.loc,V.mu.set (s.heap.objs.size+1) (.lst (ns'.map .int))⟩ {s with heap:=h'}:=by
  refine G.stepL Ext.rfl (λU U h=>.inl h) (λb o hb h U=>hk b o hb h) (λm₂ h=>by rw[<-zGg F.ns h];exact F'.ns) (λb o' h=>?_) rfl rfl
  by_cases q:b=s.heap.objs.size+1
  ·rw[q,Mt.set_self]at h
   rw[q,<-Option.some.inj h]
   exact⟨G.sim.gnone hs1,.inl (Nat.le_succ _),_,(N' _ (.head _)).1,.lst (zX9 a1)⟩
  ·replace h:=(Mt.set_ne _ _ q).symm.trans h
   exact e03 (λh1 U q9=>e12 (λoj h3 h4=>⟨h1,.inr λe=>(Option.some_ne_none o') (h.symm.trans e),oj,hk _ _ (λe=>Option.some_ne_none o' (h.symm.trans (e▸G.frm.apart.2.2))) h3,h4⟩) q9) (G.sim.muts b o' h)
 exact G'.post (.ref _) (h ns' a2 a3 _ (G.sim.mnone hs1))
@[elab_as_elim] theorem pm1{c:Int}{P:Int->Prop}(h:c=1\/c=-1)(a:P 1)(b:P (-1)):P c:=h.elim (λe=>e▸a) λe=>e▸b
theorem zR7(G:Good W cx g V s){ds:List DV}{vs:List Value}{Q:DV->St->Prop}(r:RepL g ds vs)(h:yEg ds λd=>Q d V):wpAny W.M cx.A (call (.type "range") vs) (PostE W cx g Q) E s:=by
 refine e22 (λd r' e h=>?_) (zPx h)
 refine e12 (λa ea h=>?_) (zE1 h)
 rw[e,ea]at r
 refine zCx r λw ws r1 r=>zAz r1 λt1=>?_
 cases r' with
 |nil=>exact zEw r (call_range_1 (zMs G h.2))
 |cons b r'=>
  refine e12 (λb eb h=>?_) (zE1 h)
  refine e12 (λc ec h=>?_) (zP0 h)
  refine e12 (λc ec' h=>?_) (zE1 h)
  rw[eb,ec,ec']at r
  refine zJj r λw u r2 r3=>zAz r2 λt2=>zAz r3 λt3=>?_
  refine call_range_3 (pm1 h.2.2.1 (by decide) (by decide)) (zMs G h.2.2.2) (.inl (PyProof.noPylong_small (pm1 h.2.2.1 (by decide) (by decide))))
theorem zQp(G:Good W cx g V s)(hL:s.heap.IsList a ws.toArray)(rl:RepL g l ws)(hz:small l.length)(h:Q (.tup l) V):wpAny W.M cx.A (call (.type "tuple") [.ref a]) (PostE W cx g Q) E s:=by
 refine call_tuple_list hL (λh' hk=>?_) (by rw[List.size_toArray,<-rl.length];exact zBi hz)
 refine e02 (λe G'=>?_) ((G.grow (h':=h') (t:=s.toks) hk).newF {cls:=.type "tuple",data:=.seq ws.toArray} rfl)
 exact⟨_,_,_,e,G',.tup (zBh _ _ _) rfl rfl (rl.mono e),h⟩
theorem yDh(hh:cx.A.handled=none)(G:Good W cx g V s){b:Bi}{ds:List DV}{vs:List Value}{Q:DV->St->Prop}(r:RepL g ds vs)(h:wpBi b ds Q V) :
  wpAny W.M cx.A (call b.val vs) (PostE W cx g Q) E s:=by
 cases b with
 |len=>exact zF6 r h λd v rd h=>zY3 G rd h
 |range=>exact zR7 G r h
 |tuple=>exact zOe G r h λl a ws hL rl h=>zQp G hL rl h.1 h.2
 |sorted=>exact zOe G r h λl a ws hL rl h=>e13 (λis hi hz h=>zNz G hL (zUs rl hi) hz h) (zAb h)
 |min=>
  refine zF6 r h λd v rd h=>?_
  refine e12 (λl e h=>e22 (λa b e1 h=>?_) (zW5 h)) (yAj h)
  refine e22 (λi j e2 q=>e02 (λe3 h=>?_) q) (zUt h)
  rw[e,e1,e2,e3]at rd
  refine zKq rd λa o n ws ht hc hd r=>?_
  revert hd
  exact zJj r λw u r1 r2=>zAz r1 λt1=>zAz r2 λt2 hd=>zXr hh G ⟨_,G.sim.frz _ _ ht,hc,_,hd⟩ h
 |int=>
  refine zF6 r h λd v rd h=>e12 (λi e h=>?_) (zE1 h)
  rw[e]at rd
  exact zAz rd λt=>call_int_int (G.post (.int _ _) h)
 |bytes=>
  refine zOe G r h λl a ws hL rl h=>e14 (λis hi hz hr h=>?_) (zAb h)
  have hI:=zUs rl hi
  exact call_bytes_ints hL hI hr (by rw[hI.length];exact zBi hz) hh λh' t k hk=>(G.grow (t:=k) hk).post (.bytes _ _) h
 |_=>exact h.elim
end
end
section
structure CxOk(n:Nat)(cx:Cx):Prop where
 env:EnvOk cx.env
 room:Room n cx.A
 kinds:zCe cx.env cx.kd
 frames:∃ l,cx.A.frames=some l/\∀ env∈l,env.scope.kind≠.module/\∃ L,env.frame=some L/\(L=cx.env.locals\/∃ o,cx.kp L=some o/\isD o=true)
section
variable {W:Wd}{too:Addr}{T:Tb}{n:Nat}{cx:Cx}{X:DV->St->Prop}{V:St}{g g':Hp}{s s':Shared}{E:Value->Shared->Prop}
theorem Room.u(h:Room n A):A.units+64<cLine:=Nat.lt_of_lt_of_le (Nat.add_lt_add_of_le_of_lt (Nat.le_add_right A.units (8 * n)) (by decide:64<80)) h.2.2
theorem Room.h(h:Room n A):A.handled=none:=h.1
theorem zDo(cx:Cx)(s:Shared):kpF cx s cx.env.locals=s.heap.get? cx.env.locals:=by unfold kpF;rw[if_pos (.inl rfl)]
theorem zHq(h:(x,c)∈cx.env.cells)(s:Shared):kpF cx s c=s.heap.get? c:=by unfold kpF;rw[if_pos (.inr (List.mem_map.mpr ⟨_,h,rfl⟩))]
theorem zLb(G:Good W cx g V s)(h:cx.kp b=some o):∃ o',kpF cx s b=some o'/\Kpt o (some o'):=by
 unfold kpF
 by_cases q:b=cx.env.locals\/b∈cx.env.cells.map (·.2)
 ·rw[if_pos q]
  rcases(G.sim.kept b o h).2 with q|q
  ·exact⟨o,q,.inl rfl⟩
  ·exact q.2.elim λsl e=>⟨_,e,.inr ⟨q.1,sl,rfl⟩⟩
 ·rw[if_neg q];exact⟨o,h,.inl rfl⟩
theorem Good.own(G:Good W cx g V s)(q:b=cx.env.locals\/b∈cx.env.cells.map (·.2)):g b=none/\V.mu b=none/\∃ o,s.heap.get? b=some o:=by
 rcases q with e|q
 ·rw[e]
  exact⟨G.frm.apart.1,G.frm.apart.2.2,G.frm.ns.elim λm h=>h.1.elim λo h=>⟨o,h.elim λes h=>h.elim λep h=>h.1⟩⟩
 ·refine(List.mem_map.mp q).elim λp h=>?_
  rw[<-h.2]
  exact e04 (λh1 h2 U h4=>⟨h1,h2,h4.elim λv h=>h.elim λo h=>⟨o,h.1⟩⟩) (G.frm.capart p.1 p.2 h.1)
theorem Kpt.dict(k:Kpt o (some o'))(h:isD o=true):isD o'=true:=by
 rcases k with q|q
 ·rw[Option.some.inj q];exact h
 ·exact q.2.elim λsl e=>by rw[Option.some.inj e];exact h
theorem Good.frames(C:CxOk n cx)(G:Good W cx g V s):zW9 cx.A (kpF cx s):=by
 refine e12 (λl hl h=>⟨l,hl,λenv he=>?_⟩) C.frames
 refine e02 (λh1 q9=>e12 (λL h2 h3=>⟨h1,L,?_⟩) q9) (h env he)
 rcases h3 with e|h3
 ·rw[e]
  exact G.frm.ns.elim λm h=>h.1.elim λoL h=>e23 (λes ep a b U=>⟨oL,e▸h2,(zDo cx s).trans a,by unfold isD;rw[b]⟩) h
 ·exact e12 (λo ho hd=>e12 (λo' ho' k=>⟨o',h2,ho',k.dict hd⟩) (zLb G ho)) h3
theorem Kpt.trans(h:Kpt o (some o'))(k:Kpt o' x):Kpt o x:=by
 rcases h with q|q
 ·rw[<-Option.some.inj q];exact k
 ·refine q.2.elim λsl e=>?_
  rcases k with k|k
  ·exact .inr ⟨q.1,sl,k.trans e⟩
  ·exact k.2.elim λsl' e'=>.inr ⟨q.1,sl',by rw[e',Option.some.inj e]⟩
theorem Good.simF(G:Good W cx g V s):Sim W g (kpF cx s) V.mu s where
 base:=G.sim.base
 frz:=G.sim.frz
 gens:=G.sim.gens
 os:=G.sim.os
 mabove:=G.sim.mabove
 kept b o h:=by
  unfold kpF at h
  by_cases q:b=cx.env.locals\/b∈cx.env.cells.map (·.2)
  ·rw[if_pos q]at h;exact⟨(G.own q).1,.inl h⟩
  ·rw[if_neg q]at h;exact G.sim.kept b o h
 muts b o h:=by
  refine e03 (λh1 h2 h3=>⟨h1,?_,h3⟩) (G.sim.muts b o h)
  unfold kpF
  by_cases q:b=cx.env.locals\/b∈cx.env.cells.map (·.2)
  ·exact zA2 ((G.own q).2.1.symm.trans h)
  ·rw[if_neg q];exact h2
theorem Kpt.ns(k:Kpt o x):∃ o',x=some o'/\o'.data=o.data/\o'.cls=o.cls/\o'.dict=o.dict:=by
 rcases k with q|q
 ·exact⟨_,q,rfl,rfl,rfl⟩
 ·exact q.2.elim λsl e=>⟨_,e,rfl,rfl,rfl⟩
theorem Sim.cell(S:Sim W g kp m s')(h:s.heap.IsCell c v)(k:kp c=s.heap.get? c):s'.heap.IsCell c v:=
 e12 (λo ho hd=>e13 (λo' ho' hd' U=>⟨o',ho',hd'.trans hd⟩) (S.kept c o (k.trans ho)).2.ns) h
theorem Good.back(G:Good W cx g V s)(e:Ext g g')(S:Sim W g' (kpF cx s) m' s'):Good W cx g' ⟨V.loc,m'⟩ s' where
 ext:=G.ext.trans e
 above:=G.above
 sim:={
  base:=S.base
  frz:=S.frz
  mabove:=S.mabove
  gens:=S.gens
  os:=S.os
  kept:=λb o h=>e12 (λo' h1 h2=>⟨(S.kept b o' h1).1,h2.trans (S.kept b o' h1).2⟩) (zLb G h)
  muts:=λb o h=>by
   refine e03 (λh1 h2 h3=>⟨h1,?_,h3⟩) (S.muts b o h)
   cases q:cx.kp b with
   |none=>rfl
   |some o'=>exact e12 (λo'' k1 U=>zA2 (h2.symm.trans k1)) (zLb G q)}
 frm:={
  ns:=e12 (λmm h hv=>h.elim λoL h=>e23 (λes ep hLo hdd hr=>e13 (λoL' hL' hd' U=>
   ⟨mm,⟨oL',es,ep,hL',hd'.trans hdd,hr⟩,λx d ok hl hkd=>e12 (λv h1 h2=>⟨v,h1,h2.mono e⟩) (hv x d ok hl hkd)⟩) (S.kept cx.env.locals oL ((zDo cx s).trans hLo)).2.ns) h) G.frm.ns
  cells:=λx d ok hl hkd=>e23 (λc v h1 h2 h3=>⟨c,v,h1,S.cell h2 (zHq (mem_of_lookup h1) s),h3.mono e⟩) (G.frm.cells x d ok hl hkd)
  apart:=(G.own (.inl rfl)).2.2.elim λo h=>⟨(S.kept _ o ((zDo cx s).trans h)).1,G.frm.apart.2.1,S.kmu ((zDo cx s).trans h)⟩
  capart:=λx c hxc=>e04 (λU U c3 h4=>h4.elim λv h=>h.elim λo ho=>⟨(S.kept c o ((zHq hxc s).trans ho.1)).1,S.kmu ((zHq hxc s).trans ho.1),c3,v,S.cell h (zHq hxc s)⟩) (G.frm.capart x c hxc)}
theorem zY7(G:Good W cx g V s)(h:kpF cx s b=none):kpF cx s' b=none:=by
 unfold kpF at h ⊢
 by_cases q:b=cx.env.locals\/b∈cx.env.cells.map (·.2)
 ·rw[if_pos q]at h
  exact(G.own q).2.2.elim λo ho=>zA2 (h.symm.trans ho)
 ·rw[if_neg q]at h ⊢;exact h
theorem Exc.el{m:Mt}{d:DV}{P:Prop}(h:Exc g kp m too ea d s)(k:∀ dx vs sl es n,s.heap.get? ea=some ⟨.ref too,some dx,.fields vs,sl⟩->s.heap.get? dx=some (dictOf es n)->RepE g [enc "told"] [d] es->Off g kp m dx->dx≠ea->1<vs.size->TbIn g kp m s ea dx vs->P):P:=
 h.obj.elim λdx h=>h.elim λvs h=>h.elim λsl h=>h.elim λes h=>h.elim λn h=>k dx vs sl es n h.1 h.2.1 h.2.2.1 h.2.2.2.1 h.2.2.2.2.1 h.2.2.2.2.2.1 h.2.2.2.2.2.2
theorem TbIn.el{kp:Hp}{m:Mt}{ea dx:Addr}{P:Prop}(h:TbIn g kp m s ea dx vs)(k:vs[1]?=some .none->P)(k':∀ T oT ts,vs[1]?=some (.ref T)->Off g kp m T->T≠ea->T≠dx->s.heap.get? T=some oT->oT.data=.fields ts->ts[3]?=some .none->P):P:=
 Or.elim h k λh=>h.elim λT h=>h.elim λoT h=>h.elim λts h=>k' T oT ts h.1 h.2.1 h.2.2.1 h.2.2.2.1 h.2.2.2.2.1 h.2.2.2.2.2.1 h.2.2.2.2.2.2
theorem Exc.off'{kp kp':Hp}{m:Mt}{d:DV}(h:Exc g kp m too ea d s)(k:∀ b,kp b=none->kp' b=none):Exc g kp' m too ea d s:=
 h.el λdx vs sl es n o1 o2 o3 o4 o5 o6 o7=>⟨⟨h.off.1,k _ h.off.2.1,h.off.2.2⟩,dx,vs,sl,es,n,o1,o2,o3,⟨o4.1,k _ o4.2.1,o4.2.2⟩,o5,o6,
  o7.el .inl λT oT ts q1 q2 q3 q4 q5 q6 q7=>.inr ⟨T,oT,ts,q1,⟨q2.1,k _ q2.2.1,q2.2.2⟩,q3,q4,q5,q6,q7⟩⟩
theorem zX8(G:Good W cx g V s):∀ r:Result,zP2 W too g (kpF cx s) (λd m=>Q d ⟨V.loc,m⟩) (λd m=>X d ⟨V.loc,m⟩) r s'->
  (match r with|.ok (.ret v)=>PostE W cx g Q v s'|.ok _=>False|.error e=>EX W too cx X e s'):=by
 intro r h
 cases r with
 |ok f=>cases f with
  |ret v=>exact e34 (λg' m' d e S r q=>⟨g',_,d,e,G.back e S,r,q⟩) h
  |_=>exact h
 |error e=>exact e45 (λea g' m' d h1 e S x q=>⟨ea,g',_,d,h1,G.back e S,x.off' λU hb=>zY7 G hb,q⟩) h
theorem zVs(C:CxOk n cx)(G:Good W cx g V s)(r:RepL g ds vs)(h:zA4 W too n f ds V.mu (λd m=>Q d ⟨V.loc,m⟩) (λd m=>X d ⟨V.loc,m⟩)) :
  wpAny W.M cx.A (call (.ref f) vs []) (PostE W cx g Q) (EX W too cx X) s:=
 wpAny_call (codeAny_mono (h cx.A g (kpF cx s) s vs C.room (G.frames C) G.size G.simF r) λr U hr=>zX8 G r hr)
end
end
section
section
variable {W:Wd}{too:Addr}{T:Tb}{n:Nat}{cx:Cx}{X:DV->St->Prop}{V:St}{g g':Hp}{s s':Shared}{E:Value->Shared->Prop}
theorem Room.make(h:Room (n+1) A):Room n (A.under (.builtin "type.__call__" ⟨.ref C::vs,[]⟩)):=by
 (revert h;refine e03 λh1 h2 h3=>?_)
 refine⟨h1,?_,?_⟩
 ·show A.depth+1+2 * n+4<=recursionLimit;exact n54 h2
 ·show A.units+1+8 * n+80<=cLine;omega
theorem yDb(WO:W.Ok)(TO:TbOk W T)(C:CxOk (n+1) cx)(G:Good W cx g V s)(r:RepL g ds vs)(hf:T.ini c=some f)
  (h:∀ x dx,V.mu x=none->V.mu dx=none->x≠dx->zA4 W too n f (.ref x::ds) ((V.mu.set dx (.attrs [] [])).set x (.inst c dx)) (λd m=>d=.none/\Q (.ref x) ⟨V.loc,m⟩) (λU U=>False)) :
  wpAny W.M cx.A (call (.ref c) vs []) (PostE W cx g Q) (EX W too cx X) s:=by
 refine e04 (λt1 t2 t3 U=>?_) (TO.ini c f hf)
 have hK:W.K.In s.heap:=WO.kin.keeps G.sim.ext
 refine wpAny_call ?_
 have G₁:=G.newM (mo:=.attrs [] []) (dictOf [] 0) rfl (.attrs .nil)
 have G₂:=G₁.newM (mo:=.inst c s.heap.objs.size) ⟨.ref c,some s.heap.objs.size,.plain,#[]⟩ rfl .inst
 have hx:(s.heap.push (dictOf [] 0)).objs.size=s.heap.objs.size+1:=Heap.size_push ..
 simp only[hx]at G₂
 have hn:∀ b,s.heap.objs.size<=b->V.mu b=none:=λb hb=>G.sim.mnone (zC1 hb)
 have hc:=h (s.heap.objs.size+1) s.heap.objs.size (hn _ (Nat.le_succ _)) (hn _ (Nat.le_refl _)) (Nat.succ_ne_self _)
 refine make_core (h:=s.heap) (g:=s.gens) (d:=s.drawn) (t:=s.toks) (os:=s.os) (makes_of hK t1) (looks_findIn hK t2) (λself=>bind_fn hK self (beq_iff_eq.mp t3)) (.inl rfl) ?_
 have r':RepL g (.ref (s.heap.objs.size+1)::ds) (.ref (s.heap.objs.size+1)::vs):=.cons (.ref _) r
 refine codeAny_mono (hc _ g (kpF cx _) _ _ C.room.make (G₂.frames C) G₂.size G₂.simF r') ?_
 intro r s' hr
 cases r with
 |ok f=>cases f with
  |ret v=>exact e34 (λg' m' d e S rd q=>⟨by rw[q.1]at rd;exact zAw rd,g',_,_,e,G₂.back e S,.ref _,q.2⟩) hr
  |_=>exact hr.elim
 |error e=>exact e45 (λU U U U U U U U q=>q.elim) hr
theorem zGy(hp:trees.any (·.1)=false)(h:wpAny M A (spliced trees) (λvs s'=>Q ⟨vs,[]⟩ s') E s) :
  wpAny M A (evalArgs f true trees []) Q E s:=by
 cases trees with
 |nil=>
  unfold evalArgs
  show wpAny M A (spliced [] >>= _) Q E s
  refine wpAny_bind (wpAny_mono h (λvs s' h'=>?_) λU U x=>x)
  refine wpAny_bind (wpAny_pure (wpAny_holding ?_))
  exact wpAny_bind (wpAny_pure (wpAny_bind (wpAny_pure (wpAny_pure h'))))
 |cons p rest=>
  cases p with
  |mk b x=>cases b with
   |false=>exact Calls.evalArgs_plain h
   |true=>exact Bool.noConfusion hp
theorem yAu(h:zPv e=false):backTo pos (starEach (e::r) env)=(false,eval e env)::backTo pos (starEach r env):=by
 cases e with
 |Starred _ _=>exact Bool.noConfusion h
 |_=>rfl
theorem zCz(h:noStar (e::r)=true):backTo pos (starEach (e::r) env)=(false,eval e env)::backTo pos (starEach r env)/\noStar r=true:=
 e02 (λh1 h2=>⟨yAu ((Bool.not_eq_true' _).mp h1),h2⟩) ((Bool.and_eq_true _ _).mp h)
theorem zCb(h:noStar es=true):(backTo pos (starEach es env)).any (·.1)=false:=by
 induction es with
 |nil=>rfl
 |cons e r ih=>exact e02 (λh1 h2=>by rw[h1];exact ih h2) (zCz (env:=env) (pos:=pos) h)
theorem zG7(h:Q [] V):EvL W too cx (spliced (backTo pos (starEach [] cx.env))) Q X V:=λg s G=>by
 show wpAny _ _ (spliced []) _ _ s
 exact wpAny_pure ⟨g,V,[],Ext.rfl,G,.nil,h⟩
theorem zDc(hs:noStar (e::r)=true)
  (h:EvE W too cx (eval e cx.env) (λd V=>EvL W too cx (spliced (backTo pos (starEach r cx.env))) (λds V=>Q (d::ds) V) X V) X V):EvL W too cx (spliced (backTo pos (starEach (e::r) cx.env))) Q X V:=λg s G=>by
 rw[(zCz hs).1]
 unfold spliced
 refine zDu yJ3 G h λg' σ' s' d v e G' rd hd=>?_
 refine wpAny_bind (wpAny_pure ?_)
 refine wpAny_bind (wpAny_holding (zI8 (hd g' s' G') (λvs s'' g'' σ'' ds e2 G'' rs q=>?_) λU U x=>x))
 exact wpAny_pure ⟨g'',σ'',_,e2,G'',.cons (rd.mono e2) rs,q⟩
def zFn(W:Wd)(f:Value):Prop:=∀ h,W.K.In h->∃ k,(k=Keeper.frame\/k=Keeper.machine\/k=Keeper.boundFrame)/\Looks W.M h (keeperOf f) k
theorem zUe(b:Bi):zFn W b.val:=λh U=>⟨.machine,.inr (.inl rfl),by cases b<;>exact Looks.of_pure rfl⟩
theorem zCf(id:String):zFn W (.builtin id):=λh U=>⟨.machine,.inr (.inl rfl),Looks.of_pure rfl⟩
theorem zLc(h:keepIn W.K f=true):zFn W f:=λhh X=>keeps_K h hh X
theorem zVj(WO:W.Ok)(G:Good W cx g V s)(hs:noStar es=true)
  (h:EvL W too cx (spliced (backTo pos (starEach es cx.env))) Qs X V)
  (k:∀ g' σ' s' ds vs,Ext g g'->Good W cx g' σ' s'->RepL g' ds vs->Qs ds σ'->zFn W f/\wpAny W.M cx.A (call f (first++vs) []) (PostE W cx g' Q) (EX W too cx X) s') :
  wpAny W.M cx.A (callWith pos f first (backTo pos (starEach es cx.env)) (backToKw pos (keywordEach [] cx.env))) (PostE W cx g Q) (EX W too cx X) s:=by
 refine callWith_of (P:=λh=>W.K.In h/\zFn W f) (by rw[zCb hs];rfl) (λh p=>p.2 h p.1) ?_
 refine zGy (zCb hs) (zI8 (h g s G) (λvs s' g' σ' ds e G' rs q=>?_) λU U x=>x)
 refine e02 (λk1 k2=>?_) (k g' σ' s' ds vs e G' rs q)
 exact⟨⟨WO.kin.keeps G'.sim.ext,k1⟩,wpAny_mono k2 (λU U p=>p.from e) λU U x=>x⟩
theorem zVr(WO:W.Ok)(TO:TbOk W T)(C:CxOk n cx)(G:Good W cx g V s)(rf:Rep g fd f)(r:RepL g ds vs)(h:zFo W too T n fd ds Q X V) :
  zFn W f/\wpAny W.M cx.A (call f vs []) (PostE W cx g Q) (EX W too cx X) s:=by
 cases fd with
 |fn a=>exact e02 (λhk h=>yF2 rf ⟨zLc (TO.kf _ hk),zVs C G r h⟩) (zE8 h)
 |cls c=>exact e12 (λf hf h=>yB6 rf ⟨zLc (TO.ini _ _ hf).2.2.2,by cases n with|zero=>exact h.elim|succ n=>exact yDb WO TO C G r hf h⟩) (zAb h)
 |bi b=>exact yF3 rf ⟨zUe _,yDh C.room.h G r h⟩
 |_=>exact h.elim
theorem yCq(WO:W.Ok)(TO:TbOk W T)(C:CxOk n cx)(hf:zZd f=none)(hs:noStar es=true)
  (h:EvE W too cx (eval f cx.env) (λfv V=>EvL W too cx (spliced (backTo pos (starEach es cx.env))) (λds V=>zFo W too T n fv ds Q X V) X V) X V):EvE W too cx (eval (.Call f es [] pos) cx.env) Q X V:=λg s G=>by
 have he:eval (.Call f es [] pos) cx.env=(do callWith pos (<-eval f cx.env) [] (backTo pos (starEach es cx.env)) (backToKw pos (keywordEach [] cx.env))):=by
  cases f with
  |Attribute a b c=>exact zA2 hf.symm
  |_=>rfl
 rw[he]
 refine zDu zHi G h λg' σ' s' d v e G' rd hd=>?_
 refine zVj WO G' hs hd λg'' σ'' s'' ds vs e2 G'' rs q=>?_
 exact zVr WO TO C G'' (rd.mono e2) rs q
def yDw(W:Wd)(o:Value)(c:Cal)(f:Value)(first:List Value):Prop:=first=[o]/\match c with
 |.fn a=>f=.ref a/\keepIn W.K (.ref a)=true
 |.append=>f=.builtin "list.append"
 |.pop=>f=.builtin "list.pop"
 |.extend=>f=.builtin "list.extend"
 |.get=>f=.builtin "dict.get"
theorem zRs:enc "append"=3638987513726:=by rfl
theorem yCt:enc "pop"=1894994:=by rfl
theorem zRr:enc "extend"=3638987581326:=by rfl
theorem enc_get:enc "get"=1960259:=by rfl
theorem zXt(WO:W.Ok)(TO:TbOk W T)(G:Good W cx g V s)(hx:okc x=true)(hp:zDg V.mu a=some p)(hfl:fld p.ns p.vs (enc x)=none)(hf:T.me p.C (enc x)=some f)
  (k:keepIn W.K (.ref f)=true->Q (.ref f,[.ref a]) s):wpAny W.M cx.A (getMethod (.ref a) x pl) Q E s:=by
 refine e04 (λt1 t2 t3 t4=>?_) (TO.me p.C x f hx hf)
 refine e34 (λsl es k' h1 h2 r U=>?_) (zM4 G hp)
 refine e12 (λmm F N=>?_) G.fr
 exact method_inst F WO.kin ⟨h1,rfl,rfl,h2⟩ t1 t2 t3 (zMq hx r hfl) (k t4)
theorem zXu(G:Good W cx g V s)(hx:okc x=true)(hl:V.mu a=some (.lst l))(h:lstM (enc x)=some c)
  (k:∀ f first,yDw W (.ref a) c f first->Q (f,first) s):wpAny W.M cx.A (getMethod (.ref a) x pl) Q E s:=by
 refine e22 (λc' vs ho U=>?_) (zGp G hl)
 have lm:∀{name:Str} {id:String} {n:Nat},Nat.beq (enc x) n=true->okc name=true->enc name=n->Slot "list" name id->typeOf (.builtin id)=pure (.type "method_descriptor")->Q (.builtin id,[.ref a]) s->wpAny W.M cx.A (getMethod (.ref a) x pl) Q E s:=by
  intro name id n q ok e slot ty hq
  rw[zBz hx ok ((Nat.eq_of_beq_eq_true q).trans e.symm)]
  exact getMethod_builtin ⟨_,ho,rfl⟩ PySem.F.plainAttrs_list slot ty (λb e=>by cases e;exact⟨_,ho,rfl⟩) hq
 rcases zOn h with⟨q,e⟩|h
 ·rw[<-Option.some.inj e]at k
  exact lm q (by decide) zRs PySem.F.slot_list_append PySem.F.type_list_append (k _ _ ⟨rfl,rfl⟩)
 ·rcases zOn h with⟨q,e⟩|h
  ·rw[<-Option.some.inj e]at k
   exact lm q (by decide) yCt PySem.F.slot_list_pop PySem.F.type_list_pop (k _ _ ⟨rfl,rfl⟩)
  ·refine e02 (λq e=>?_) (zBm h)
   rw[<-Option.some.inj e]at k
   exact lm q (by decide) zRr PySem.F.slot_list_extend PySem.F.type_list_extend (k _ _ ⟨rfl,rfl⟩)
theorem yBo(r:MRep prog w g (.dS kv) o):∃ kvs,o.IsDictOf (strKind prog w) kvs/\F2 (λk e=>okc e.1=true/\enc e.1=k.1/\Rep g k.2 e.2) kv kvs:=by
 cases r with
 |dS hd hf=>exact⟨_,hd,hf⟩
theorem zFh(h:optB o f b=c):(∃ a,o=some a/\f a=c)\/(o=none/\b=c):=by
 cases o with
 |none=>exact .inr ⟨rfl,h⟩
 |some a=>exact .inl ⟨a,rfl,h⟩
theorem zU1(WO:W.Ok)(TO:TbOk W T)(G:Good W cx g V s)(hx:okc x=true)(r:Rep g o v)(h:zRz T V.mu o (enc x)=some c)
  (k:∀ f first,yDw W v c f first->Q (f,first) s):wpAny W.M cx.A (getMethod v x pl) Q E s:=by
 refine e12 (λa ha h=>?_) (zA1 h)
 rw[zKt ha]at r
 rw[show v=.ref a from zAw r]at k ⊢
 rcases zFh h with⟨p,hp,h⟩|⟨_,h⟩
 ·rcases zFh h with⟨d,_,h⟩|⟨hfl,h⟩
  ·exact zA2 h
  ·refine e12 (λf hf e=>?_) (zA1 h)
   rw[<-Option.some.inj e]at k
   exact zXt WO TO G hx hp hfl hf λt4=>k _ _ ⟨rfl,rfl,t4⟩
 ·refine e12 (λmo hm h=>?_) (zA1 h)
  rcases zFh h with⟨l,hl,h⟩|⟨_,h⟩
  ·rw[zL2 hl]at hm
   exact zXu G hx hm h k
  ·refine e02 (λhd h=>e02 (λq e=>?_) (zBm h)) (zBm h)
   rw[<-Option.some.inj e]at k
   rw[zBz hx (by decide) ((Nat.eq_of_beq_eq_true q).trans enc_get.symm)]
   refine(yC4 hd).elim λkv e=>?_
   rw[e]at hm
   refine e12 (λoj ho hr=>e12 (λkvs hd U=>?_) (yBo hr)) (G.sim.muts _ _ hm).2.2
   refine hd.elim λes q=>q.elim λep q=>?_
   exact getMethod_builtin ⟨_,ho,q.1.1⟩ PySem.F.plainAttrs_dict PySem.F.slot_dict_get PySem.F.type_dict_get (λb e=>by cases e;exact⟨_,ho,q.1.2.1⟩) (k _ _ ⟨rfl,rfl⟩)
@[elab_as_elim] theorem zHm{o:DV}{v:Value}{K:Addr->Prop}{P:Value->Prop}(r:Rep g o v)(h:ref1 o K)(k:∀ a,K a->P (.ref a)):P v:=by
 refine e12 (λa e q=>?_) (yB8 h)
 rw[e]at r
 exact zT5 r (k a q)
theorem yBb(G:Good W cx g V s)(rs:RepL g ds vs)(h:zKc W too n .pop (.ref a) ds Q X V):wpAny W.M cx.A (call (.builtin "list.pop") (.ref a::vs)) (PostE W cx g Q) E s:=by
 cases ds with
 |nil=>exact zEw (G:=λvs=>wpAny W.M cx.A (call (.builtin "list.pop") (.ref a::vs)) (PostE W cx g Q) E s) rs (e12 (λl hl h=>e12 (λd hd h=>zXe G hl hd h.1 h.2) (zAb h)) (zQg h))
 |cons d ds=>
  cases ds with
  |cons _ _=>exact False.elim h
  |nil=>
   refine e12 (λi e h=>e02 (λe0 h=>?_) (yGl h)) (zE1 h)
   rw[e,e0]at rs
   refine zT9 rs λw r=>zAz r λt=>?_
   refine e12 (λl hl h=>e22 (λd l' e h=>?_) (zPx h)) (zQg h)
   rw[e]at hl
   exact zTg G hl h.1 h.2
theorem zZ2(WO:W.Ok)(C:CxOk n cx)(G:Good W cx g V s){c:Cal}{o:DV}{v f:Value}{first:List Value}(hc:yDw W v c f first)(r:Rep g o v){ds:List DV}{vs:List Value}(rs:RepL g ds vs){Q:DV->St->Prop}(h:zKc W too n c o ds Q X V) :
  zFn W f/\wpAny W.M cx.A (call f (first++vs) []) (PostE W cx g Q) (EX W too cx X) s:=by
 refine e02 (λe1 hc=>?_) hc
 rw[e1]
 cases c with
 |fn f=>
  rw[hc.1]
  exact⟨zLc hc.2,zVs C G (.cons r rs) h⟩
 |append=>
  rw[show f=.builtin "list.append" from hc]
  exact⟨zCf _,zHm r h λa h=>zF6 rs h λd w rd h=>e12 (λl hl h=>zP1 G hl rd h.1 h.2) (zQg h)⟩
 |pop=>
  rw[show f=.builtin "list.pop" from hc]
  exact⟨zCf _,zHm r h λa h=>yBb (too:=too) (n:=n) (X:=X) G rs h⟩
 |extend=>
  rw[show f=.builtin "list.extend" from hc]
  exact⟨zCf _,zHm r h λa h=>zF6 rs h λd w rd h=>e12 (λl hl h=>e12 (λr' hr' h=>zOr G hl rd hr' h.1 h.2) (zAb h)) (zQg h)⟩
 |get=>
  rw[show f=.builtin "dict.get" from hc]
  refine⟨zCf _,zHm r h λa h=>e22 (λx d e h=>e12 (λy ey h=>?_) (yAt h)) (zW5 h)⟩
  rw[e,ey]at rs
  exact zJj rs λw u r1 r2=>e12 (λkv hl h=>zYi WO G hl r1 r2 h) (yHk h)
theorem zOz(h:zGe o=true)(w:Sem Value):attributeBase o x env w=w:=by
 cases o with
 |Call f es ks p=>exact Bool.noConfusion h
 |_=>rfl
theorem yCo(WO:W.Ok)(TO:TbOk W T)(C:CxOk n cx)(hx:okc x=true)(hs:noStar es=true)(hb:zGe o=true)(hp:(ap.endLine==pos.line)=true)(hn:Nat.ble es.length 20=true)
  (h:EvE W too cx (eval o cx.env) (λov V=>opt (zRz T V.mu ov (enc x)) λc=>EvL W too cx (spliced (backTo pos (starEach es cx.env))) (λds V=>zKc W too n c ov ds Q X V) X V) X V) :
  EvE W too cx (eval (.Call (.Attribute o x ap) es [] pos) cx.env) Q X V:=λg s G=>by
 have he:eval (.Call (.Attribute o x ap) es [] pos) cx.env=(do
  let ov <-attributeBase o x cx.env (eval o cx.env)
  standAt ap.atName
  methodCall o x ap pos cx.env ov (es.length+0) (backTo pos (starEach es cx.env)) (backToKw pos (keywordEach [] cx.env))):=rfl
 rw[he,zOz hb]
 refine zDu zHi G h λg' σ' s' d v e G' rd hd=>?_
 refine wpAny_bind (wpAny_standAt ?_)
 refine e12 (λc hc hd=>?_) (zAb hd)
 have few:methodCallForm (es.length+0) (backTo pos (starEach es cx.env)) (backToKw pos (keywordEach [] cx.env))=true:=by
  unfold methodCallForm
  have h1:(backTo pos (starEach es cx.env)).all (!·.1)=true:=by
   rw[List.all_eq_not_any_not]
   simpa using zCb (env:=cx.env) (pos:=pos) hs
  rw[h1,show(decide (es.length+0+(if(backToKw pos (keywordEach [] cx.env)).isEmpty=true then 0 else 1)<30))=true from decide_eq_true (Nat.lt_of_le_of_lt (Nat.le_of_ble_eq_true hn) (by decide))];rfl
 unfold methodCall
 rw[few]
 unfold calleeOf methodCallPos
 rw[if_pos rfl,hp]
 refine wpAny_bind (wpAny_holding (zU1 WO TO G' hx rd hc λf first hci=>?_))
 refine wpAny_bind (wpAny_pure ?_)
 exact zVj WO G' hs hd λg'' σ'' s'' ds vs e2 G'' rs q=>zZ2 WO C G'' hci (rd.mono e2) rs q
end
end
section
section
variable {W:Wd}{too:Addr}{T:Tb}{n:Nat}{cx:Cx}{X:DV->St->Prop}{V:St}{g g':Hp}{s s':Shared}{E:Value->Shared->Prop}
theorem zV7{P:Prop}{e:Value}(h:EX W too cx no e s'):P:=h.elim λU h=>h.elim λU h=>h.elim λU h=>h.elim λU h=>h.2.2.2.elim
theorem EvE.mono(h:EvE W too cx t Q X V)(k:∀ d V,Q d V->Q' d V):EvE W too cx t Q' X V:=λg s G=>
 zBl (h g s G) (λU U g' σ' d a b c q=>⟨g',σ',d,a,b,c,k d σ' q⟩) λU U x=>x
theorem EvL.mono(h:EvL W too cx t Q X V)(k:∀ d V,Q d V->Q' d V):EvL W too cx t Q' X V:=λg s G=>
 zI8 (h g s G) (λU U g' σ' d a b c q=>⟨g',σ',d,a,b,c,k d σ' q⟩) λU U x=>x
theorem EvG.mono(h:EvG W too cx t Q X V)(k:∀ d V,Q d V->Q' d V):EvG W too cx t Q' X V:=λg s G=>
 zC5 (h g s G) (λa U g' σ' e b q=>⟨g',σ',e,b,k a σ' q⟩) λU U x=>x
theorem EvE.noX{t:Sem Value}{Q:DV->St->Prop}(h:EvE W too cx t Q no V):EvE W too cx t Q X V:=λg s G=>wpAny_mono (h g s G) (λU U q=>q) λU U x=>zV7 x
theorem EvG.noX{α:Type}{t:Sem α}{Q:α->St->Prop}(h:EvG W too cx t Q no V):EvG W too cx t Q X V:=λg s G=>wpAny_mono (h g s G) (λU U q=>q) λU U x=>zV7 x
theorem yGv(h:EvL W too cx (spliced (backTo pos (starEach es cx.env))) (λds V=>sel (Nat.ble ds.length 1000) (Q (.tup ds) V) False) X V) :
  EvE W too cx (eval (.Tuple es k pos) cx.env) Q X V:=λg s G=>by
 have he:eval (.Tuple es k pos) cx.env=(do standAt pos;newTuple (<-spliced (backTo pos (starEach es cx.env)))):=rfl
 rw[he]
 refine wpAny_bind (wpAny_standAt (yEo zHi G h λg' σ' s' ds vs e G' rs hd=>?_))
 exact e02 (λhl hd=>zTv G' rs (by rw[<-rs.length];exact Nat.le_trans (Nat.le_of_ble_eq_true hl) (by decide)) hd) (zE8 hd)
theorem yH1(h:EvL W too cx (spliced (backTo pos (starEach es cx.env))) (λds V=>sel (Nat.ble ds.length 1000) (newL ds Q V) False) X V) :
  EvE W too cx (eval (.List es pos) cx.env) Q X V:=λg s G=>by
 have he:eval (.List es pos) cx.env=(do standAt pos;newList (<-spliced (backTo pos (starEach es cx.env)))):=rfl
 rw[he]
 refine wpAny_bind (wpAny_standAt (yEo zHi G h λg' σ' s' ds vs e G' rs hd=>?_))
 exact e02 (λhl hd=>zXn G' rs (by rw[<-rs.length];exact Nat.le_trans (Nat.le_of_ble_eq_true hl) (by decide)) hd) (zE8 hd)
theorem zIn(h:zQ8 e=some c):∃ p q,e=.Constant c p q:=by
 cases e with
 |Constant c p q=>cases h;exact⟨_,_,rfl⟩
 |_=>exact zA2 h
theorem yC6(h:intC c=some i):c=.int i:=by
 cases c with
 |int j=>cases h;rfl
 |_=>exact zA2 h
theorem yAs(h:strC c=some i):c=.str i:=by
 cases c with
 |str j=>cases h;rfl
 |_=>exact zA2 h
theorem zLe(h:zYd e=some i):∃ p q,e=.Constant (.int i) p q:=
 e12 (λc hc h=>yC6 h▸zIn hc) (zA1 h)
theorem yAq(h:strE k=some x):∃ p q,k=some (.Constant (.str x) p q):=
 e12 (λe he h=>e12 (λc hc h=>(zIn hc).imp λp q=>q.imp λq h'=>by rw[he,h',yAs h]) (zA1 h)) (zA1 h)
theorem zUc{k:Option PySem.Expr}{v:PySem.Expr}{r:List (Option PySem.Expr)}{vs:List PySem.Expr}{kv:List (Nat×Int)}{P:Option PySem.Expr->PySem.Expr->List (Nat×Int)->Prop}(h:cKV (k::r) (v::vs)=some kv)(K:∀ x i l p q p' q',okc x=true->cKV r vs=some l->P (some (.Constant (.str x) p q)) (.Constant (.int i) p' q') ((enc x,i)::l)):P k v kv:=by
 refine e12 (λx hx h=>e12 (λi hi h=>e02 (λok h=>e12 (λl hl h=>?_) (zA1 h)) (zBm h)) (zA1 h)) (zA1 h)
 refine e21 (λp q e=>e21 (λp' q' e'=>?_) (zLe hi)) (yAq hx)
 rw[e,e',<-Option.some.inj h]
 exact K x i l p q p' q' ok hl
theorem zY5{ks:List (Option PySem.Expr)}:∀{vs:List PySem.Expr} {kv:List (Nat×Int)},cKV ks vs=some kv->ks.all (·.isSome)=true/\ks.length=vs.length/\kv.length=ks.length:=by
 induction ks with
 |nil=>
  intro vs kv h
  cases vs with
  |nil=>cases h;exact⟨rfl,rfl,rfl⟩
  |cons _ _=>exact zA2 h
 |cons k r ih=>
  intro vs kv h
  cases vs with
  |nil=>exact zA2 h
  |cons v vs=>exact zUc (P:=λk v kv=>(k::r).all (·.isSome)=true/\(k::r).length=(v::vs).length/\kv.length=(k::r).length) h λx i l p q p' q' U hl=>e03 (λa b c=>⟨a,congrArg Nat.succ b,congrArg Nat.succ c⟩) (ih hl)
theorem zY6{env:Env}{pos:Pos}{ks:List (Option PySem.Expr)}:∀{Q:List (Value×Value)->Shared->Prop} {vs:List PySem.Expr} {kv:List (Nat×Int)} {s:Shared},cKV ks vs=some kv->
  (∀ ps (kvs:List (Str×Value)) tk,Carries (PySem.strKind W.prog W.w) ps kvs->F2 (λ(k:Nat×DV) (e:Str×Value)=>okc e.1=true/\enc e.1=k.1/\Rep g k.2 e.2) (dctV kv) kvs->Q ps {s with toks:=tk})->
  wpAny W.M cx.A (evalPairs (pairTrees ks vs env pos)) Q E s:=by
 induction ks with
 |nil=>
  intro Q vs kv s h k
  cases vs with
  |nil=>cases h;exact pairTrees_nil_walk (k [] [] s.toks trivial .nil)
  |cons _ _=>exact zA2 h
 |cons k r ih=>
  intro Q vs kv s h
  cases vs with
  |nil=>exact zA2 h
  |cons v vs=>
   refine zUc (P:=λk v kv=>(∀ ps (kvs:List (Str×Value)) tk,Carries (PySem.strKind W.prog W.w) ps kvs->F2 (λ(k:Nat×DV) (e:Str×Value)=>okc e.1=true/\enc e.1=k.1/\Rep g k.2 e.2) (dctV kv) kvs->Q ps {s with toks:=tk})->wpAny W.M cx.A (evalPairs (pairTrees (k::r) (v::vs) env pos)) Q E s) h λx i l p q p' q' ok hl hk=>?_
   refine pairTrees_cons_walk ?_
   show wpAny _ _ (mkText _) _ _ _
   refine wpAny_mkText ?_
   show wpAny _ _ (mkInt _) _ _ _
   refine wpAny_mkInt ?_
   exact ih hl λps kvs tk hc hf=>hk _ ((_,_)::kvs) tk ⟨by simp[PySem.strKind,Value.isStrOf],rfl,hc⟩ (.cons ⟨ok,rfl,.int _ _⟩ hf)
theorem zBw(h:zBd l=true):l.Nodup:=by
 induction l with
 |nil=>exact .nil
 |cons x r ih=>
  refine e02 (λh1 h2=>?_) ((Bool.and_eq_true _ _).mp h)
  rw[Bool.not_eq_true',List.any_eq_false]at h1
  exact List.nodup_cons.mpr ⟨λhm=>h1 x hm (Nat.beq_refl x),ih h2⟩
theorem zVi(kv:List (Nat×Int)):(dctV kv).map (·.1)=kv.map (·.1):=by
 induction kv with
 |nil=>rfl
 |cons p r ih=>exact congrArg (p.1::·) ih
theorem yCi(h:F2 (λ(k:Nat×DV) (e:Str×Value)=>okc e.1=true/\enc e.1=k.1/\Rep g k.2 e.2) kv kvs)(nd:(kv.map (·.1)).Nodup):(kvs.map (·.1)).Nodup:=by
 have e:(kvs.map (·.1)).map enc=kv.map (·.1):=by
  clear nd
  induction h with
  |nil=>rfl
  |cons h _ ih=>simp[ih,h.2.1]
 rw[<-e]at nd
 exact List.Pairwise.of_map enc (λa b hab e=>hab (by rw[e])) nd
theorem Good.newD(G:Good W cx g V s)(hs:Heap.SameBut s.heap.objs.size (s.heap.push o') h')(ho:h'.get? s.heap.objs.size=some o)(r:MRep W.prog W.w g mo o):Good W cx g ⟨V.loc,V.mu.set s.heap.objs.size mo⟩ {s with heap:=h',toks:=tk}:=by
 have hkeep:∀ b o,s.heap.get? b=some o->h'.get? b=some o:=λb o e=>(hs.2 b (Nat.ne_of_lt (Heap.lt_size e))).trans (Heap.get?_push_of_some _ e)
 refine G.step Ext.rfl (λU U h=>.inl h) (λb o h U=>hkeep b o h) (λb o' hb=>?_) rfl rfl
 by_cases q:b=s.heap.objs.size
 ·rw[q,Mt.set_self]at hb
  rw[q,<-Option.some.inj hb]
  exact⟨G.sim.gnone (zAe s.heap),.inl (Nat.le_refl _),o,ho,r⟩
 ·replace hb:=(Mt.set_ne _ _ q).symm.trans hb
  exact e03 (λh1 U q9=>e12 (λoj h3 h4=>⟨h1,.inr λe=>Option.some_ne_none _ (hb.symm.trans e),oj,hkeep _ _ h3,h4⟩) q9) (G.sim.muts b o' hb)
theorem yH4(hk:cKV ks vs=some kv)(hl:Nat.ble kv.length 15=true)(hd:zBd (kv.map (·.1))=true)
  (h:∀ a,V.mu a=none->Q (.ref a) ⟨V.loc,V.mu.set a (match kv with|[]=>.dE|kv=>.dS (dctV kv))⟩):EvE W too cx (eval (.Dict ks vs pos) cx.env) Q X V:=λg s G=>by
 have hn:=G.sim.mnone (zAe s.heap)
 refine e03 (λh1 h2 h3=>?_) (zY5 hk)
 cases kv with
 |nil=>
  rw[List.length_eq_zero_iff.mp h3.symm,List.length_eq_zero_iff.mp (h2.symm.trans h3.symm)]
  exact wpAny_Dict_empty ((G.newM (mo:=.dE) {cls:=.type "dict",data:=.dict #[]} rfl .dE).post (.ref _) (h _ hn))
 |cons p r=>
  refine wpAny_Dict_walk (knd:=PySem.strKind W.prog W.w) h1 h2 (λe=>Nat.succ_ne_zero _ (h3.trans (congrArg List.length e))) (by rw[<-h3];exact Nat.le_trans (Nat.le_of_ble_eq_true hl) (by decide)) (zY6 (g:=g) hk λps kvs tk hc hf=>?_)
  have nd':=yCi hf (zVi (p::r)▸zBw hd)
  refine⟨kvs,hc,zD8 (Heap.get?_push_size _ rfl) zEp,λh' hd' hs'=>?_⟩
  rw[merged_nil_of_nodup _ nd']at hd'
  refine e32 (λo es ep ho rest=>?_) hd'
  exact(G.newD (tk:=tk+ps.length) hs' ho (.dS ⟨es,ep,rest⟩ hf)).post (.ref _) (h _ hn)
theorem yH6(ho:cBOp op=some o)(h:EvE W too cx (eval a cx.env) (λx V=>EvE W too cx (eval b cx.env) (λy V=>zMa o x y Q V) X V) X V) :
  EvE W too cx (eval (.BinOp a op b pos) cx.env) Q X V:=λg s G=>by
 have he:eval (.BinOp a op b pos) cx.env=(do
  let x <-eval a cx.env
  let y <-holding [x] (eval b cx.env)
  standAt pos
  operate [x,y] (binaryOp op x y)):=rfl
 rw[he]
 refine zDu zHi G h λg' σ' s' d v e G' rd hd=>?_
 refine zDu zHi G' (zF3 hd) λg'' σ'' s'' d' v' e' G'' rd' hd'=>?_
 rw[yBl ho]
 exact wpAny_bind (wpAny_standAt (zKw (zZ9 G'' (rd.mono e') rd' hd')))
theorem yH0(h:Q (.int (-i)) V):EvE W too cx (eval (.UnaryOp .USub (.Constant (.int i) k p) pos) cx.env) Q X V:=λg s G=>
 wpAny_UnaryOp (wpAny_mkInt (neg_int ((G.toks _).post (.int _ _) h)))
theorem zCl(h:Q b s):wpAny M A (truthy (.bool b)) Q E s:=wpAny_truthy_bool h
theorem yGz(h:EvE W too cx (eval a cx.env) (λd V=>opt (zCh d) λt=>Q (.bool (!t)) V) X V):EvE W too cx (eval (.UnaryOp .Not a pos) cx.env) Q X V:=λg s G=>by
 refine wpAny_UnaryOp (zBl (h g s G) (λv s' g' σ' d e G' rd hd=>?_) λU U x=>x)
 refine e12 (λt ht hd=>?_) (zAb hd)
 rw[zCu G' rd ht]
 exact wpAny_holding (wpAny_bind (zCl (wpAny_pure ⟨g',σ',_,e,G',.bool _,hd⟩)))
theorem yH2(h:EvG W too cx (isTrue t cx.env (eval t cx.env)) (λr V=>sel r (EvE W too cx (eval a cx.env) Q X V) (EvE W too cx (eval b cx.env) Q X V)) X V) :
  EvE W too cx (eval (.IfExp t a b pos) cx.env) Q X V:=λg s G=>by
 have he:eval (.IfExp t a b pos) cx.env=(do if <-isTrue t cx.env (eval t cx.env)then eval a cx.env else eval b cx.env):=rfl
 rw[he]
 refine yI3 zHi G h λg' σ' s' r e G' hd=>?_
 cases r with
 |true=>
  exact hd g' s' G'
 |false=>
  exact hd g' s' G'
theorem yH7(h:EvE W too cx x (λd V=>opt (zCh d) λt=>sel t (EvE W too cx (boolOp pos .And (y::r)) Q X V) (Q d V)) X V) :
  EvE W too cx (boolOp pos .And (x::y::r)) Q X V:=λg s G=>by
 show wpAny _ _ (do
  let v <-x
  standAt pos
  let t <-holding [v] (truthy v)
  match BoolOp.And,t with
  |.And,false|.Or,true=>pure v
  |_,_=>boolOp pos .And (y::r)) _ _ s
 refine zDu zHi G h λg' σ' s' d v e G' rd hd=>?_
 refine wpAny_bind (wpAny_standAt ?_)
 refine e12 (λt ht hd=>?_) (zAb hd)
 rw[zCu G' rd ht]
 cases t with
 |true=>exact wpAny_bind (wpAny_holding (zCl (hd g' s' G')))
 |false=>exact wpAny_bind (wpAny_holding (zCl (wpAny_pure (G'.post (zCu G' rd ht▸rd) hd))))
theorem yJ2(h:EvE W too cx x (λd V=>opt (zCh d) λt=>sel t (Q d V) (EvE W too cx (boolOp pos .Or (y::r)) Q X V)) X V) :
  EvE W too cx (boolOp pos .Or (x::y::r)) Q X V:=λg s G=>by
 show wpAny _ _ (do
  let v <-x
  standAt pos
  let t <-holding [v] (truthy v)
  match BoolOp.Or,t with
  |.And,false|.Or,true=>pure v
  |_,_=>boolOp pos .Or (y::r)) _ _ s
 refine zDu zHi G h λg' σ' s' d v e G' rd hd=>?_
 refine wpAny_bind (wpAny_standAt ?_)
 refine e12 (λt ht hd=>?_) (zAb hd)
 rw[zCu G' rd ht]
 cases t with
 |true=>exact wpAny_bind (wpAny_holding (zCl (wpAny_pure (G'.post (zCu G' rd ht▸rd) hd))))
 |false=>exact wpAny_bind (wpAny_holding (zCl (hd g' s' G')))
theorem zUj(G:Good W cx g V s)(r:Rep g d v)(b:Bool)(h:sel (noBi d) (Q (.bool (b==isNone d)) V) False) :
  wpAny W.M cx.A (compareOp (isC b) v .none) (PostE W cx g Q) E s:=by
 refine e02 (λhb h=>?_) (zE8 h)
 cases b with
 |true=>exact wpAny_is_plain ((zFv r).2.2 hb) (by rw[zIe G r];exact G.post (.bool _) ((show(true==isNone d)=isNone d by cases isNone d<;>rfl)▸h))
 |false=>exact wpAny_isNot_plain ((zFv r).2.2 hb) (by rw[zIe G r];exact G.post (.bool _) ((show(false==isNone d)=!isNone d by cases isNone d<;>rfl)▸h))
theorem yH3(h:EvE W too cx (eval a cx.env) (λd V=>sel (noBi d) (Q (.bool (b==isNone d)) V) False) X V) :
  EvE W too cx (eval (.Compare a [isC b] [.Constant .none k p] pos) cx.env) Q X V:=λg s G=>by
 have he:eval (.Compare a [isC b] [.Constant .none k p] pos) cx.env=(do compareChain pos (<-eval a cx.env) [isC b] [eval (.Constant .none k p) cx.env]):=by cases b<;>rfl
 rw[he]
 refine zDu zHi G h λg' σ' s' d v e G' rd hd=>?_
 refine chain_last ?_
 show wpAny _ _ (pure Value.none) _ _ _
 exact wpAny_pure (zUj G' rd b hd)
theorem yEm(h:EvE W too cx (eval a cx.env) (λd V=>sel (noBi d) (Q (b==isNone d) V) False) X V) :
  EvG W too cx (isTrue (.Compare a [isC b] [.Constant .none k p] pos) cx.env (eval (.Compare a [isC b] [.Constant .none k p] pos) cx.env)) Q X V:=λg s G=>by
 have he:isTrue (.Compare a [isC b] [.Constant .none k p] pos) cx.env (eval (.Compare a [isC b] [.Constant .none k p] pos) cx.env)=(do testChain pos (<-eval a cx.env) [isC b] [eval (.Constant .none k p) cx.env]):=by cases b<;>rfl
 rw[he]
 refine zDu zVc G h λg' σ' s' d v e G' rd hd=>?_
 show wpAny _ _ (do
  let rv <-holding [v] (eval (.Constant .none k p) cx.env)
  standAt pos
  let c <-operate [v,rv] (compareOp (isC b) v rv)
  holding [c] (truthy c)) _ _ _
 refine wpAny_bind (wpAny_holding ?_)
 show wpAny _ _ (pure Value.none) _ _ _
 refine wpAny_pure (wpAny_bind (wpAny_standAt (wpAny_bind (zKw (wpAny_mono (zUj (Q:=λd V=>∃ t,d=.bool t/\Q t V) G' rd b (e02 (λhb hd=>by rw[hb];exact⟨_,rfl,hd⟩) (zE8 hd))) (λc s'' hX=>?_) λU U x=>x)))))
 refine e34 (λg'' σ'' d' e' G'' rd' q9=>e12 (λt ht q=>?_) q9) hX
 rw[ht]at rd'
 rw[show c=.bool t from zAw rd']
 exact wpAny_holding (zCl ⟨g'',σ'',e',G'',q⟩)
def EvC(W:Wd)(too:Addr)(cx:Cx)(a:DV)(ops:List CmpOp)(es:List PySem.Expr)(Q:Bool->St->Prop)(X:DV->St->Prop)(V:St):Prop:=match ops with
 |[]=>False
 |op::ops=>(match es with
  |[]=>False
  |e::es=>(match ops with
   |[]=>(match es with
    |[]=>EvE W too cx (eval e cx.env) (λb V=>opt (cCOp op) λo=>opt (cmpV V.mu o a b) λt=>Q t V) X V
    |_::_=>False)
   |op'::ops'=>(match es with
    |[]=>False
    |_::_=>EvE W too cx (eval e cx.env) (λb V=>opt (cCOp op) λo=>opt (cmpV V.mu o a b) λt=>sel t (EvC W too cx b ops es Q X V) (Q false V)) X V)))
theorem zQ9(WO:W.Ok)(hu:cx.A.units+64<cLine)(G:Good W cx g V s){op:CmpOp}{d b:DV}{v w:Value}{K:Bool->St->Prop}(r:Rep g d v)(r':Rep g b w)(h:opt (cCOp op) λo=>opt (cmpV V.mu o d b) λt=>K t V):wpAny W.M cx.A (compareOp op v w) (λc s'=>∃ t,c=.bool t/\Good W cx g V s'/\K t V) E s:=
 e12 (λo ho h=>e12 (λt ht h=>by rw[yD1 ho];exact zYw WO hu G r r' ht h) (zAb h)) (zAb h)
theorem zYx(WO:W.Ok)(hu:cx.A.units+64<cLine){pos:Pos}{Q:DV->St->Prop}(ops:List CmpOp):∀(es:List PySem.Expr) {d:DV} {v:Value} {V:St} {g:Hp} {s:Shared},EvC W too cx d ops es (λt V=>Q (.bool t) V) X V->Good W cx g V s->Rep g d v->
  wpAny W.M cx.A (compareChain pos v ops (evalEach es cx.env)) (PostE W cx g Q) (EX W too cx X) s:=by
 induction ops with
 |nil=>exact λU U U U U U h=>h.elim
 |cons op ops ih=>
  intro es d v V g s h G r
  cases es with
  |nil=>exact h.elim
  |cons e es=>
  cases ops with
  |nil=>cases es with
   |nil=>exact chain_last (zBl (h g s G) (λw s' g' σ' b e1 G' rb hb=>wpAny_mono (zQ9 WO hu G' (r.mono e1) rb hb) (λc s''=>e13 λt hc G'' q=>by rw[hc];exact⟨g',σ',_,e1,G'',.bool _,q⟩) λU U x=>x) λU U x=>x)
   |cons _ _=>exact h.elim
  |cons op' ops=>cases es with
   |nil=>exact h.elim
   |cons e' es=>
    refine chain_link (zBl (h g s G) (λw s' g' σ' b e1 G' rb hb=>wpAny_mono (zQ9 (K:=λt V=>sel t (EvC W too cx b (op'::ops) (e'::es) (λt V=>Q (.bool t) V) X V) (Q (.bool false) V)) WO hu G' (r.mono e1) rb hb) (λc s''=>e13 λt hc G'' q=>?_) λU U x=>x) λU U x=>x)
    rw[hc]
    cases t with
    |true=>exact zCl (wpAny_mono (ih (e'::es) q G'' rb) (λU U p=>p.from e1) λU U x=>x)
    |false=>exact zCl ⟨g',σ',_,e1,G'',.bool _,q⟩
theorem yAl(WO:W.Ok)(hu:cx.A.units+64<cLine){pos:Pos}{Q:Bool->St->Prop}(ops:List CmpOp):∀(es:List PySem.Expr) {d:DV} {v:Value} {V:St} {g:Hp} {s:Shared},EvC W too cx d ops es Q X V->Good W cx g V s->Rep g d v->
  wpAny W.M cx.A (testChain pos v ops (evalEach es cx.env)) (PostG W cx g Q) (EX W too cx X) s:=by
 induction ops with
 |nil=>exact λU U U U U U h=>h.elim
 |cons op ops ih=>
  intro es d v V g s h G r
  cases es with
  |nil=>exact h.elim
  |cons e es=>
  cases ops with
  |nil=>cases es with
   |nil=>
    show wpAny _ _ (do
     let rv <-holding [v] (eval e cx.env)
     standAt pos
     let c <-operate [v,rv] (compareOp op v rv)
     holding [c] (truthy c)) _ _ _
    exact wpAny_bind (wpAny_holding (zBl (h g s G) (λw s' g' σ' b e1 G' rb hb=>wpAny_bind (wpAny_standAt (wpAny_bind (zKw (wpAny_mono (zQ9 WO hu G' (r.mono e1) rb hb) (λc s''=>e13 λt hc G'' q=>by rw[hc];exact wpAny_holding (zCl ⟨g',σ',e1,G'',q⟩)) λU U x=>x))))) λU U x=>x))
   |cons _ _=>exact h.elim
  |cons op' ops=>cases es with
   |nil=>exact h.elim
   |cons e' es=>
    refine test_link (zBl (h g s G) (λw s' g' σ' b e1 G' rb hb=>wpAny_mono (zQ9 (K:=λt V=>sel t (EvC W too cx b (op'::ops) (e'::es) Q X V) (Q false V)) WO hu G' (r.mono e1) rb hb) (λc s''=>e13 λt hc G'' q=>?_) λU U x=>x) λU U x=>x)
    rw[hc]
    cases t with
    |true=>exact zCl (wpAny_mono (ih (e'::es) q G'' rb) (λU U p=>p.from e1) λU U x=>x)
    |false=>exact zCl ⟨g',σ',e1,G'',q⟩
theorem yH5(WO:W.Ok)(hu:cx.A.units+64<cLine)(hm:lastMarks ops es=false)(h:EvE W too cx (eval a cx.env) (λd V=>EvC W too cx d ops es (λt V=>Q (.bool t) V) X V) X V) :
  EvE W too cx (eval (.Compare a ops es pos) cx.env) Q X V:=λg s G=>by
 have he:eval (.Compare a ops es pos) cx.env=(do compareChain pos (<-eval a cx.env) ops (markedEach ops es (evalEach es cx.env))):=rfl
 rw[he,markedEach_of_false _ _ _ hm]
 exact zDu zHi G h λg' σ' s' d v e G' rd hd=>zYx WO hu ops es hd G' rd
theorem yEn(WO:W.Ok)(hu:cx.A.units+64<cLine)(hm:lastMarks ops es=false)(h:EvE W too cx (eval a cx.env) (λd V=>EvC W too cx d ops es Q X V) X V) :
  EvG W too cx (isTrue (.Compare a ops es pos) cx.env whole) Q X V:=λg s G=>by
 have he:isTrue (.Compare a ops es pos) cx.env whole=(do testChain pos (<-eval a cx.env) ops (markedEach ops es (evalEach es cx.env))):=rfl
 rw[he,markedEach_of_false _ _ _ hm]
 exact zDu zVc G h λg' σ' s' d v e G' rd hd=>yAl WO hu ops es hd G' rd
theorem yEk(h:EvG W too cx (isTrue a cx.env (eval a cx.env)) (λt V=>Q (!t) V) X V):EvG W too cx (isTrue (.UnaryOp .Not a pos) cx.env whole) Q X V:=λg s G=>
 isTrue_not (zC5 (h g s G) (λU U g' σ' e G' q=>⟨g',σ',e,G',q⟩) λU U x=>x)
theorem zZp(h:EvG W too cx (isTrue a cx.env (eval a cx.env)) (λt V=>sel t (EvG W too cx (isTrue (.BoolOp .And r pos) cx.env whole) Q X V) (Q false V)) X V) :
  EvG W too cx (isTrue (.BoolOp .And (a::r) pos) cx.env whole) Q X V:=λg s G=>
 isTrue_and (zC5 (h g s G) (λt s' g' σ' e G' q=>by
  cases t with
  |true=>
   exact wpAny_mono (q g' s' G') (λU U p=>p.from e) λU U x=>x
  |false=>
   exact⟨g',σ',e,G',q⟩) λU U x=>x)
theorem yEj(h:EvG W too cx (isTrue a cx.env (eval a cx.env)) (λt V=>sel t (Q true V) (EvG W too cx (isTrue (.BoolOp .Or r pos) cx.env whole) Q X V)) X V) :
  EvG W too cx (isTrue (.BoolOp .Or (a::r) pos) cx.env whole) Q X V:=λg s G=>
 isTrue_or (zC5 (h g s G) (λt s' g' σ' e G' q=>by
  cases t with
  |false=>
   exact wpAny_mono (q g' s' G') (λU U p=>p.from e) λU U x=>x
  |true=>
   exact⟨g',σ',e,G',q⟩) λU U x=>x)
theorem zQs(h:Q true V):EvG W too cx (isTrue (.BoolOp .And [] pos) cx.env whole) Q X V:=λg s G=>isTrue_and_nil (G.postG h)
theorem zSi(h:Q false V):EvG W too cx (isTrue (.BoolOp .Or [] pos) cx.env whole) Q X V:=λg s G=>isTrue_or_nil (G.postG h)
theorem yEl(h:EvG W too cx (isTrue t cx.env (eval t cx.env)) (λr V=>sel r (EvG W too cx (isTrue a cx.env (eval a cx.env)) Q X V) (EvG W too cx (isTrue b cx.env (eval b cx.env)) Q X V)) X V) :
  EvG W too cx (isTrue (.IfExp t a b pos) cx.env whole) Q X V:=λg s G=>
 isTrue_IfExp (zC5 (h g s G) (λt s' g' σ' e G' q=>by
  cases t with
  |true=>
   exact wpAny_mono (q g' s' G') (λU U p=>p.from e) λU U x=>x
  |false=>
   exact wpAny_mono (q g' s' G') (λU U p=>p.from e) λU U x=>x) λU U x=>x)
theorem zWj(he:isTrue e cx.env (eval e cx.env)=(do let v <-eval e cx.env;standAt e.pos;holding [v] (truthy v)))(h:EvE W too cx (eval e cx.env) (λd V=>opt (zCh d) λt=>Q t V) X V) :
  EvG W too cx (isTrue e cx.env (eval e cx.env)) Q X V:=λg s G=>by
 refine isTrue_plain (zBl (h g s G) (λv s' g' σ' d e1 G' rd hd=>?_) λU U x=>x) he
 exact e12 (λt ht hd=>by rw[zCu G' rd ht];exact zCl ⟨g',σ',e1,G',hd⟩) (zAb hd)
theorem yCr(WO:W.Ok)(TO:TbOk W T)(hx:okc x=true)(hb:zGe o=true)
  (h:EvE W too cx (eval o cx.env) (λov V=>opt (getA V.mu ov (enc x)) λp=>sel (T.rd p.1 (enc x)) (Q p.2 V) False) X V):EvE W too cx (eval (.Attribute o x pos) cx.env) Q X V:=λg s G=>by
 have he:eval (.Attribute o x pos) cx.env=(do
  let ov <-attributeBase o x cx.env (eval o cx.env)
  standAt pos.atName
  let r <-holding [ov] (getAttr ov x true)
  letTemporaryGo o ov r
  pure r):=rfl
 rw[he,zOz hb]
 refine zDu zHi G h λg' σ' s' d v e G' rd hd=>?_
 refine e12 (λp hg hd=>e02 (λht hd=>?_) (zE8 hd)) (zAb hd)
 exact wpAny_bind (wpAny_standAt (wpAny_bind (wpAny_holding (wpAny_mono (zW2 WO TO G' hx rd hg ht hd) (λr s'' p=>wpAny_bind (wpAny_letTemporaryGo (wpAny_pure p))) λU U x=>x))))
theorem yGw(hi:zJf i=none)(h:EvE W too cx (eval o cx.env) (λov V=>EvE W too cx (eval i cx.env) (λiv V=>subW V.mu ov iv λd=>Q d V) X V) X V) :
  EvE W too cx (eval (.Subscript o i pos) cx.env) Q X V:=λg s G=>by
 refine Subscript_ (zBl (h g s G) (λv s' g' σ' d e G' rd hd=>?_) λU U x=>x)
 refine zBl (hd g' s' G') (λw s'' g'' σ'' d' e' G'' rd' hd'=>?_) λU U x=>x
 exact wpAny_mono (zWl G'' (rd.mono e') rd' hd' (zGj hi v w)) (λU U p=>p.from (e.trans e')) λU U x=>x
theorem zV8(h:match l with|some l=>EvE W too cx (eval l cx.env) Q X V|none=>Q .none V):EvE W too cx (evalPart l cx.env) Q X V:=λg s G=>by
 cases l with
 |none=>
  exact wpAny_pure (G.post .none h)
 |some l=>
  exact h g s G
theorem yGx(h:EvE W too cx (eval o cx.env) (λov V=>EvE W too cx (evalPart l cx.env) (λlv V=>EvE W too cx (evalPart u cx.env) (λuv V=>zSd ov lv uv Q V) X V) X V) X V) :
  EvE W too cx (eval (.Subscript o (.Slice l u none p) pos) cx.env) Q X V:=λg s G=>by
 refine Subscript_ (zBl (h g s G) (λv s' g' σ' d e G' rd hd=>?_) λU U x=>x)
 refine wpAny_Slice (zBl (hd g' s' G') (λw s'' g'' σ'' d' e' G'' rd' hd'=>?_) λU U x=>x)
 refine zBl (hd' g'' s'' G'') (λx s3 g3 σ3 d3 e3 G3 rd3 hd3=>?_) λU U x=>x
 rw[evalPart_none]
 refine wpAny_pure ?_
 exact wpAny_mono (zX2 G3 ((rd.mono e').mono e3) (rd'.mono e3) rd3 hd3) (λU U p=>p.from (e.trans (e'.trans e3))) λU U x=>x
theorem yGy(h:EvE W too cx (eval o cx.env) (λov V=>opt (asL V.mu ov) λxs=>small xs.length/\newL xs.reverse Q V) X V) :
  EvE W too cx (eval (.Subscript o (.Slice none none (some (.UnaryOp .USub (.Constant (.int 1) k p3) p2)) p) pos) cx.env) Q X V:=λg s G=>by
 refine Subscript_ (zBl (h g s G) (λv s' g' σ' d e G' rd hd=>?_) λU U x=>x)
 refine e12 (λxs hxs hd=>e02 (λhz hd=>?_) hd) (zAb hd)
 refine wpAny_Slice ?_
 rw[evalPart_none]
 refine wpAny_pure (wpAny_pure ?_)
 show wpAny _ _ (eval _ _) _ _ _
 refine wpAny_UnaryOp (wpAny_mkInt (neg_int ?_))
 have G2:=(G'.toks (s'.toks+1)).toks (s'.toks+1+1)
 refine e02 (λe2 G3=>?_) (G2.newF {cls:=.type "slice",data:=.fields #[.none,.none,.int (-1) (s'.toks+1)]} rfl)
 refine e33 (λa nn vs ev ho rv=>?_) (zD9 G3 (rd.mono e2) hxs)
 have hL:=PySem.IsL.isList (n:=nn) ho
 rw[ev]
 refine tail_any (ops:=[.ref a,.ref s'.heap.objs.size]) hL.typeIs list_getitem_lookup ?_ rfl
 refine wpAny_getItem_list_slice hL (Heap.IsSliceOf.new ..) .none .none (.int _ _) (by simp) ?_ (by rw[List.size_toArray,<-rv.length];exact Nat.le_trans hz (by decide))
 rw[krv_pick]
 exact⟨_,_,_,e.trans e2,G3.newM (mo:=.lst xs.reverse) (listOf vs.reverse.toArray 0) rfl (.lst rv.reverse),.ref _,hd _ (G3.sim.mnone (zAe _))⟩
end
end
section
structure StOk(cx:Cx):Prop where
 nofree:∀ x,cx.env.kindOf x≠some .free
 cellAt:∀ x,cx.env.kindOf x=some .cell->∃ c,cx.env.cells.lookup x=some c
 own:∀ x c,(x,c)∈cx.env.cells->cx.kp c=none
 top:∃ l,cx.A.frames=some (cx.env::l)/\cx.env.frame=some cx.env.locals
 nodup:cx.env.cells.Pairwise λx y=>x.2≠y.2
def FnOk(env:Env):Prop:=(env.scope.kind==.class||(env.scope.kind==.module&&env.locals != env.globals))=false
theorem fnOk(h:env.scope.kind=.function):FnOk env:=by unfold FnOk;rw[h];rfl
section
variable {W:Wd}{too:Addr}{T:Tb}{n:Nat}{cx:Cx}{X:DV->St->Prop}{V:St}{g g':Hp}{s s':Shared}{E:Value->Shared->Prop}
theorem zCj(h:zFz e=some x):∃ p,e=.Name x p:=by
 cases e with
 |Name y p=>cases h;exact⟨p,rfl⟩
 |_=>exact zA2 h
theorem zFp(h:zQq e=some vs):∃ k p,e=.Tuple vs k p:=by
 cases e with
 |Tuple a k p=>cases h;exact⟨k,p,rfl⟩
 |_=>exact zA2 h
theorem zO9{l:List (α×β)}(hp:l.Pairwise λx y=>x.2≠y.2){a b:α×β}(ha:a∈l)(hb:b∈l)(hab:a≠b):a.2≠b.2:=by
 induction hp with
 |nil=>cases ha
 |cons h _ ih=>
  rcases List.mem_cons.mp ha with e|ha
  ·rcases List.mem_cons.mp hb with e'|hb
   ·exact(hab (e.trans e'.symm)).elim
   ·rw[e];exact h b hb
  ·rcases List.mem_cons.mp hb with e'|hb
   ·rw[e'];exact(h a ha).symm
   ·exact ih ha hb
theorem yA4(hx:okc x=true)(hy:okc y=true)(h:x≠y):enc x≠enc y:=λe=>h (zBz hx hy e)
theorem Good.simB(G:Good W cx g V s)(hs:Heap.SameBut B s.heap h')(h1:g B=none)(h2:cx.kp B=none)(h3:V.mu B=none):Sim W g cx.kp V.mu {s with heap:=h',toks:=tk}:=
 G.sim.step Ext.rfl (λU U h=>.inl h) (λb o h hgk U=>(hs.2 b (λe=>hgk.elim (λq=>q (e▸h1)) λq=>q (e▸h2))).trans h)
  (λb o h=>e03 (λa U q9=>e12 (λoj c d=>⟨a,.inr λe=>Option.some_ne_none _ (h.symm.trans e),oj,(hs.2 b (λe=>Option.some_ne_none _ (h.symm.trans (e▸h3)))).trans c,d⟩) q9) (G.sim.muts b o h)) rfl rfl G.size
theorem zD6(EO:EnvOk cx.env)(hk:zCe cx.env cx.kd)(G:Good W cx g V s)(ok:okc x=true)(h0:zAn cx.kd (enc x)=0)(r:Rep g d v)
  (q:∀ s',Good W cx g ⟨put V.loc (enc x) d,V.mu⟩ s'->(∀ b,b≠cx.env.locals->s'.heap.get? b=s.heap.get? b)->Q () s'):wpAny W.M A (storeName cx.env x v) Q E s:=by
 refine e12 (λmm hns hv=>?_) G.frm.ns
 refine wpAny_storeName_local ((hk x ok).1 h0) hns (λh' hn' hs'=>q _ ?_ hs'.2) (fnOk EO.kind)
 have ap:=G.frm.apart
 refine⟨G.ext,G.simB hs' ap.1 ap.2.1 ap.2.2,⟨⟨_,hn',λy d' oky hy h0y=>?_⟩,λy d' oky hy h1y=>?_,ap,λy c hyc=>?_⟩,G.above⟩
 ·by_cases e:y=x
  ·rw[e,zAu]at hy
   exact⟨v,if_pos e,Option.some.inj hy▸r⟩
  ·rw[zAg _ _ (yA4 ok oky (Ne.symm e))]at hy
   exact e12 (λw h1 h2=>⟨w,(if_neg e).trans h1,h2⟩) (hv y d' oky hy h0y)
 ·rw[zAg _ _ λe=>Nat.zero_ne_one (h0.symm.trans ((congrArg _ e).trans h1y))]at hy
  exact e23 (λc w h1 h2 h3=>⟨c,w,h1,h2.sameBut hs' (G.frm.capart y c (mem_of_lookup h1)).2.2.1,h3⟩) (G.frm.cells y d' oky hy h1y)
 ·exact e04 (λc1 c2 c3 q9=>q9.elim λw c4=>⟨c1,c2,c3,w,c4.sameBut hs' c3⟩) (G.frm.capart y c hyc)
theorem zFg(EO:EnvOk cx.env)(hk:zCe cx.env cx.kd)(G:Good W cx g V s)(ok:okc x=true)(h0:zAn cx.kd (enc x)=0)(r:Rep g d v)
  (q:∀ s',Good W cx g ⟨put V.loc (enc x) d,V.mu⟩ s'->Q () s'):wpAny W.M cx.A (bindName cx.env x v) Q E s:=
 wpAny_bindName (zD6 EO hk G ok h0 r λs' G' U=>q s' G')
theorem zQv(EO:EnvOk cx.env)(SO:StOk cx)(hk:zCe cx.env cx.kd)(G:Good W cx g V s){d:DV}(ok:okc x=true)(h0:zAn cx.kd (enc x)=1)(r:Rep g d v){Q:Unit->Shared->Prop}
  (q:∀ s',Good W cx g ⟨put V.loc (enc x) d,V.mu⟩ s'->Q () s'):wpAny W.M cx.A (bindName cx.env x v) Q E s:=by
 have hl:cx.env.kindOf x=some .cell:=((hk x ok).2.1 h0).elim id λe=>(SO.nofree x e).elim
 refine e11 (λc hlk=>?_) (SO.cellAt x hl)
 have hm:=mem_of_lookup hlk
 refine e04 (λc1 c2 c3 q9=>q9.elim λw c4=>?_) (G.frm.capart x c hm)
 refine wpAny_bindName (wpAny_storeName_cell EO.kind hl hlk c4 (λh' hc' hs'=>q _ ?_))
 refine⟨G.ext,G.simB hs' c1 (SO.own x c hm) c2,⟨e12 (λmm hns hv=>⟨mm,hns.sameBut hs' (Ne.symm c3),λy d' oky hy h0y=>?_⟩) G.frm.ns,λy d' oky hy h1y=>?_,G.frm.apart,λy c' hyc=>?_⟩,G.above⟩
 ·rw[zAg _ _ λe=>Nat.zero_ne_one (h0y.symm.trans ((congrArg _ e.symm).trans h0))]at hy
  exact hv y d' oky hy h0y
 ·by_cases e:y=x
  ·rw[e,zAu]at hy
   exact⟨c,v,e▸hlk,hc',Option.some.inj hy▸r⟩
  ·rw[zAg _ _ (yA4 ok oky (Ne.symm e))]at hy
   exact e23 (λc' w' h1 h2 h3=>⟨c',w',h1,h2.sameBut hs' (zO9 SO.nodup (mem_of_lookup h1) hm λq=>e (congrArg Prod.fst q)),h3⟩) (G.frm.cells y d' oky hy h1y)
 ·refine e04 (λk1 k2 k3 q9=>q9.elim λw' k4=>⟨k1,k2,k3,?_⟩) (G.frm.capart y c' hyc)
  by_cases e:c'=c
  ·exact⟨_,e▸hc'⟩
  ·exact⟨w',k4.sameBut hs' e⟩
theorem yDd(h:cSto kd x=some y):okc x=true/\y=enc x/\(zAn kd (enc x)=0\/zAn kd (enc x)=1):=
 e02 (λh1 h2=>e02 (λok hk=>⟨ok,(Option.some.inj h2).symm,Nat.le_one_iff_eq_zero_or_eq_one.mp (Nat.le_of_ble_eq_true hk)⟩) ((Bool.and_eq_true _ _).mp h1)) (zBm h)
theorem zC8(h:zC3 kd x=some y):okc x=true/\y=enc x/\zAn kd (enc x)=0:=
 e02 (λh1 h2=>e02 (λok hk=>⟨ok,(Option.some.inj h2).symm,Nat.eq_of_beq_eq_true hk⟩) ((Bool.and_eq_true _ _).mp h1)) (zBm h)
def zK9(W:Wd)(cx:Cx)(f:Str->Option Nat):Prop:=∀(E:Value->Shared->Prop) (V:St) (g:Hp) (s:Shared) (x:Str) (y:Nat) (d:DV) (v:Value) (Q:Unit->Shared->Prop),f x=some y->Good W cx g V s->Rep g d v->
 (∀ s',Good W cx g ⟨put V.loc y d,V.mu⟩ s'->Q () s')->wpAny W.M cx.A (bindName cx.env x v) Q E s
theorem zKi(EO:EnvOk cx.env)(hk:zCe cx.env cx.kd):zK9 W cx (zC3 cx.kd):=λE V g s x y d v Q h G r q=>by
 refine e03 (λok e h0=>?_) (zC8 h)
 rw[e]at q
 exact zFg EO hk G ok h0 r q
theorem zKh(EO:EnvOk cx.env)(SO:StOk cx)(hk:zCe cx.env cx.kd):zK9 W cx (cSto cx.kd):=λE V g s x y d v Q h G r q=>by
 refine e03 (λok e h0=>?_) (yDd h)
 rw[e]at q
 exact h0.elim (λh0=>zFg EO hk G ok h0 r q) λh0=>zQv EO SO hk G ok h0 r q
@[elab_as_elim] theorem zE4{f:Str->Option Nat}{e:PySem.Expr}{r:List PySem.Expr}{xs:List Nat}{P:PySem.Expr->List Nat->Prop}(h:zEs f (e::r)=some xs)(k:∀ x p y ys,f x=some y->zEs f r=some ys->P (.Name x p) (y::ys)):P e xs:=by
 refine e12 (λx hx h=>e12 (λy hy h=>e12 (λys hys h=>?_) (zA1 h)) (zA1 h)) (zA1 h)
 refine e11 (λp e=>?_) (zCj hx)
 rw[e,<-Option.some.inj h]
 exact k x p y ys hy hys
theorem zNw{f:Str->Option Nat}(S:zK9 W cx f){ts:List PySem.Expr}:∀{xs:List Nat} {ds:List DV} {vs:List Value} {V:St} {s:Shared} {Q:Unit->Shared->Prop},zEs f ts=some xs->RepL g ds vs->xs.length=ds.length->Good W cx g V s->
  (∀ s',Good W cx g ⟨puts V.loc xs ds,V.mu⟩ s'->Q () s')->wpAny W.M cx.A (assignInOrder ((assignEach ts cx.env).map (·.2)) vs) Q E s:=by
 induction ts with
 |nil=>
  intro xs ds vs V s Q h r hl G q
  cases h
  rw[List.length_eq_zero_iff.mp hl.symm]at r q
  exact zEw r (wpAny_pure (q s G))
 |cons e ts ih=>
  intro xs ds vs V s Q h
  refine zE4 (P:=λe xs=>RepL g ds vs->xs.length=ds.length->Good W cx g V s->(∀ s',Good W cx g ⟨puts V.loc xs ds,V.mu⟩ s'->Q () s')->wpAny W.M cx.A (assignInOrder ((assignEach (e::ts) cx.env).map (·.2)) vs) Q E s) h λx p y ys h1 h2 r hl G q=>?_
  cases ds with
  |nil=>cases hl
  |cons d ds=>
   refine zCx r λw ws rd r=>?_
   show wpAny _ _ (do holding _ (assign (.Name x p) cx.env _);assignInOrder _ _) _ _ _
   refine wpAny_bind (wpAny_holding ?_)
   show wpAny _ _ (do standAt p;bindName cx.env x _) _ _ _
   exact wpAny_bind (wpAny_standAt (S E V g s x y _ _ _ h1 G rd λs' G'=>ih h2 r (Nat.succ.inj hl) G' q))
theorem zOd{f:Str->Option Nat}{env:Env}{ts:List PySem.Expr}:∀{xs:List Nat},zEs f ts=some xs->(assignEach ts env).length=xs.length/\(assignEach ts env).findIdx? (·.1)=none:=by
 induction ts with
 |nil=>intro xs h;cases h;exact⟨rfl,rfl⟩
 |cons e ts ih=>
  intro xs h
  refine zE4 (P:=λe xs=>(assignEach (e::ts) env).length=xs.length/\(assignEach (e::ts) env).findIdx? (·.1)=none) h λx p y ys h1 h2=>e02 (λa b=>⟨congrArg Nat.succ a,?_⟩) (ih h2)
  show List.findIdx? (·.1) ((false,assign (.Name x p) env)::assignEach ts env)=none
  rw[List.findIdx?_cons];simp[b]
theorem zVd(Wk:Walks W.prog W.w A I fp wr m P St')(k:Nat):∀(i:Nat) (s:Shared) (Q:List Value->Shared->Prop),St' i s.heap->i+k<=m->
  (∀ vs h' tk,vs.length=k->(∀ j v,vs[j]?=some v->P (i+j) v)->St' (i+k) h'->(∀ b o,b∉wr->s.heap.get? b=some o->h'.get? b=some o)->Q vs {s with heap:=h',toks:=tk})->wpAny W.M A (draw (.ref I) k) Q E s:=by
 induction k with
 |zero=>exact λi s Q st U q=>wpAny_pure (q [] s.heap s.toks rfl (λj v h=>nomatch h) st λU U U e=>e)
 |succ k ih=>
  intro i s Q st hl q
  show wpAny _ _ (pyNext (.ref I) >>= _) _ _ _
  have hl':i+1+k<=m:=(Nat.succ_add_eq_add_succ i k).symm▸hl
  refine wpAny_bind (Wk.item i s _ _ (Nat.lt_of_lt_of_le (Nat.lt_add_of_pos_right (Nat.succ_pos k)) hl) st λv h' tk hP st' hk=>?_)
  refine wpAny_bind (wpAny_holding (ih (i+1) _ _ st' hl' λvs h'' tk' hlen hvs st'' hk'=>wpAny_pure ?_))
  refine q (v::vs) h'' tk' (congrArg Nat.succ hlen) (λj w hj=>?_) ((Nat.succ_add_eq_add_succ i k)▸st'') λb o hb e=>hk' b o hb (hk b o hb e)
  cases j with
  |zero=>exact Option.some.inj hj▸hP
  |succ j=>exact(Nat.succ_add_eq_add_succ i j)▸hvs j w hj
theorem zY9{vs items:List Value}(hl:vs.length=items.length)(h:∀ j v,vs[j]?=some v->items[0+j]?=some v):vs=items:=by
 apply List.ext_getElem? 
 intro j
 cases e:vs[j]? with
 |some v=>
  have:=h j v e;rw[Nat.zero_add]at this;rw[this]
 |none=>
  have:items.length<=j:=by rw[<-hl];exact List.getElem?_eq_none_iff.mp e
  exact(List.getElem?_eq_none_iff.mpr this).symm
theorem zHw{v:Value}{items:List Value}{fp:List Addr}{Q:List Value->Shared->Prop}(hn:∀ Q',Q' false s->wpAny W.M A (notIterableAtAll v) Q' E s)
  (hi:∀ Q':Value->Shared->Prop,(∀ h',St' 0 h'->(∀ b o,s.heap.get? b=some o->h'.get? b=some o)->Q' (.ref I) {s with heap:=h'})->wpAny W.M A (pyIter v) Q' E s) (hI:s.heap.get? I=none)
  (Wk:Walks W.prog W.w A I fp [I] items.length (λi w=>items[i]?=some w) St') (q:∀ h' tk,(∀ b o,s.heap.get? b=some o->h'.get? b=some o)->Q items {s with heap:=h',toks:=tk}) :
  wpAny W.M A (unpackItems v items.length none) Q E s:=by
 unfold unpackItems
 refine wpAny_bind (hn _ ?_)
 simp only[Bool.false_eq_true,if_false]
 refine wpAny_bind (wpAny_holding (hi _ λh₁ st₁ k₁=>?_))
 refine wpAny_bind (wpAny_holding (zVd Wk items.length 0 _ _ st₁ (by omega) λvs h₂ tk hl hvs st₂ k₂=>?_))
 obtain rfl:=zY9 hl hvs
 rw[if_neg (Nat.lt_irrefl _)]
 refine wpAny_bind (wpAny_holding (Wk.done _ _ _ (by rw[Nat.zero_add]at st₂;exact st₂) λh₃ tk₃ k₃=>?_))
 simp only[Option.isSome_none,Bool.false_eq_true,if_false]
 refine wpAny_pure (q h₃ tk₃ λb o e=>?_)
 exact k₃ b o (λhm=>zA2 (hI.symm.trans (List.mem_singleton.mp hm▸e))) (k₂ b o (λhm=>zA2 (hI.symm.trans (List.mem_singleton.mp hm▸e))) (k₁ b o e))
theorem zFf(hh:cx.A.handled=none)(G:Good W cx g V s)(r:Rep g d v)(h:seqV V.mu d=some l)(hk:k=l.length)
  (q:∀ vs s',Good W cx g V s'->RepL g l vs->Q vs s'):wpAny W.M cx.A (unpackItems v k none) Q E s:=by
 refine(zPf G r h).elim λa q9=>e33 (λo nn vs ev ho q9=>?_) q9
 refine e03 (λhc hd rl=>?_) q9
 rw[ev]
 have hlt:=Heap.lt_size ho
 rw[hk,rl.length]
 rcases hc with hc|hc
 ·have hL:s.heap.IsList a vs.toArray:=⟨o,ho,hc,nn,hd⟩
  refine zHw (I:=s.heap.objs.size) (fp:=[s.heap.objs.size,a]) (St':=λi h=>h.IsListIter s.heap.objs.size a i/\h.IsList a vs.toArray) (λQ' hq=>?_) (λQ' hq=>wpAny_pyIter_list hL (hq _ ⟨⟨_,Heap.get?_push_size _ rfl,rfl,rfl⟩,hL.push _⟩ λb o e=>Heap.get?_push_of_some _ e)) (zAe _)
   (by have:=Walks.list (prog:=W.prog) (w:=W.w) (A:=cx.A) hh s.heap.objs.size a (Nat.ne_of_lt hlt) vs.toArray;simpa using this) λh' tk hk=>q vs _ (G.grow (t:=tk) hk) rl
  unfold notIterableAtAll
  exact wpAny_bind (wpAny_specialOf hL.typeIs slot_list_iter.lookup (wpAny_pure hq))
 ·have hT:s.heap.IsTuple a vs.toArray:=⟨o,ho,hc,nn,hd⟩
  refine zHw (I:=s.heap.objs.size) (fp:=[s.heap.objs.size,a]) (St':=λi h=>h.IsTupleIter s.heap.objs.size a i/\h.IsTuple a vs.toArray) (λQ' hq=>?_) (λQ' hq=>wpAny_pyIter_tuple hT (hq _ ⟨⟨_,Heap.get?_push_size _ rfl,rfl,rfl⟩,hT.push _⟩ λb o e=>Heap.get?_push_of_some _ e)) (zAe _)
   (by have:=Walks.tuple (prog:=W.prog) (w:=W.w) (A:=cx.A) hh s.heap.objs.size a (Nat.ne_of_lt hlt) vs.toArray;simpa using this) λh' tk hk=>q vs _ (G.grow (t:=tk) hk) rl
  unfold notIterableAtAll
  exact wpAny_bind (wpAny_specialOf hT.typeIs F.slot_tuple_iter.lookup (wpAny_pure hq))
theorem zE5(hh:cx.A.handled=none)(S:zK9 W cx f)(G:Good W cx g V s)(ht:cTgt f t=some ns)(r:Rep g d v)(hb:zGc V.loc V.mu ns d=some l)
  (q:∀ s',Good W cx g ⟨l,V.mu⟩ s'->Q () s'):wpAny W.M cx.A (assign t cx.env v) Q E s:=by
 rcases zFh ht with⟨x,hx,ht⟩|⟨_,ht⟩
 ·refine e12 (λy hy e=>e11 (λp ep=>?_) (zCj hx)) (zA1 ht)
  rw[<-Option.some.inj e]at hb
  rw[ep]
  show wpAny _ _ (do standAt p;bindName cx.env x v) _ _ _
  exact wpAny_bind (wpAny_standAt (S E V g s x y d v Q hy G r (Option.some.inj hb▸q)))
 ·refine e12 (λes he ht=>e12 (λxs hx ht=>e02 (λU e=>?_) (zBm ht)) (zA1 ht)) (zA1 ht)
  rw[<-Option.some.inj e]at hb
  refine e12 (λds hds hb=>e02 (λhl e=>?_) (zBm hb)) (zA1 hb)
  have hl':=Nat.eq_of_beq_eq_true hl
  refine e21 (λk p ep=>e02 (λe1 e2=>?_) (zOd (env:=cx.env) hx)) (zFp he)
  rw[ep]
  show wpAny _ _ (do standAt p;unpack v (assignEach es cx.env)) _ _ _
  refine wpAny_bind (wpAny_standAt ?_)
  unfold unpack
  rw[e1,e2]
  exact wpAny_bind (wpAny_holding (zFf hh G r hds hl' λvs s' G' rs=>zNw S hx rs hl' G' (Option.some.inj e▸q)))
end
end
section
section
variable {W:Wd}{too:Addr}{T:Tb}{n:Nat}{cx:Cx}{X:DV->St->Prop}{V:St}{g g':Hp}{m:Mt}{s s':Shared}{E:Value->Shared->Prop}
structure Free(cx:Cx)(g:Hp)(m:Mt)(I:Addr):Prop where
 fg:g I=none
 fm:m I=none
 fk:cx.kp I=none
 fl:I≠cx.env.locals
 fc:∀ x,(x,I)∉cx.env.cells
theorem Good.free(G:Good W cx g V s)(h:s.heap.get? I=none):Free cx g V.mu I:=
 ⟨G.sim.gnone h,G.sim.mnone h,G.sim.knone h,λe=>(G.own (.inl e)).2.2.elim λo ho=>zA2 (h.symm.trans ho),
  λx hx=>(G.own (.inr (List.mem_map.mpr ⟨_,hx,rfl⟩))).2.2.elim λo ho=>zA2 (h.symm.trans ho)⟩
theorem Good.freeN(G:Good W cx g V s):Free cx g V.mu s.heap.objs.size:=G.free (zAe _)
theorem Kpt.other(k:Kpt o x)(h:∀ o',x=some o'->y=some o'):Kpt o y:=
 k.elim (λq=>.inl (h _ q)) λq=>q.2.elim λsl e=>.inr ⟨q.1,sl,h _ e⟩
theorem zRa{α:Type}{f:Addr->Option α}{b I:Addr}{o:α}(h:f b=some o)(hI:f I=none):b≠I:=λe=>zA2 (hI.symm.trans (e▸h))
theorem Good.upd(G:Good W cx g V s){I:Addr}(F:Free cx g V.mu I){h':Heap}{t:Nat}(hk:∀ b o,b≠I->s.heap.get? b=some o->h'.get? b=some o):Good W cx g V {s with heap:=h',toks:=t} where
 ext:=G.ext
 sim:=⟨G.sim.base,λb o h=>hk b o (zRa h F.fg) (G.sim.frz b o h),λb o h=>⟨(G.sim.kept b o h).1,(G.sim.kept b o h).2.other λo' e=>hk b o' (zRa h F.fk) e⟩,
  λb o h=>e03 (λh1 h2 q9=>e12 (λoj h3 h4=>⟨h1,h2,oj,hk _ _ (zRa h F.fm) h3,h4⟩) q9) (G.sim.muts b o h),G.sim.mabove,G.sim.gens,G.sim.os⟩
 frm:=⟨e12 (λmm hns hv=>⟨mm,hns.at' (hk _ · (Ne.symm F.fl)),hv⟩) G.frm.ns,
  λx d ok hl hkd=>e23 (λc v h1 h2 h3=>⟨c,v,h1,h2.imp λo q=>⟨hk _ _ (λe=>F.fc x (e▸mem_of_lookup h1)) q.1,q.2⟩,h3⟩) (G.frm.cells x d ok hl hkd),G.frm.apart,
  λx c hxc=>e04 (λc1 c2 c3 q9=>⟨c1,c2,c3,q9.imp λv q=>q.imp λo q=>⟨hk _ _ (λe=>F.fc x (e▸hxc)) q.1,q.2⟩⟩) (G.frm.capart x c hxc)⟩
 above:=G.above
def Cx.keep(cx:Cx)(I:Addr)(o:Obj):Cx:={cx with kp:=gadd cx.kp I o}
theorem Cx.keep_old(e:b≠I):(cx.keep I o).kp b=cx.kp b:=zCo _ _ e
theorem Good.keep(G:Good W cx g V s){I:Addr}{o:Obj}(F:Free cx g V.mu I)(ho:s.heap.get? I=some o):Good W (cx.keep I o) g V s:=by
 refine⟨G.ext,⟨G.sim.base,G.sim.frz,λb o' h=>?_,λb o' h=>e03 (λh1 h2 h3=>⟨h1,(Cx.keep_old (zRa h F.fm)).trans h2,h3⟩) (G.sim.muts b o' h),G.sim.mabove,G.sim.gens,G.sim.os⟩,
  ⟨G.frm.ns,G.frm.cells,⟨G.frm.apart.1,(Cx.keep_old (Ne.symm F.fl)).trans G.frm.apart.2.1,G.frm.apart.2.2⟩,G.frm.capart⟩,G.above⟩
 by_cases e:b=I
 ·rw[e]at h ⊢
  exact⟨F.fg,.inl (ho.trans (congrArg some (Option.some.inj ((zBh _ _ _).symm.trans h))))⟩
 ·exact G.sim.kept b o' ((Cx.keep_old e).symm.trans h)
theorem Good.unkeep{I:Addr}{o:Obj}(hk:cx.kp I=none)(G:Good W (cx.keep I o) g V s):Good W cx g V s/\g I=none/\V.mu I=none/\Kpt o (s.heap.get? I):=by
 have hI:(cx.keep I o).kp I=some o:=zBh _ _ _
 have old:∀ b o',cx.kp b=some o'->(cx.keep I o).kp b=some o':=λb o' h=>(Cx.keep_old (zRa h hk)).trans h
 have non:∀ b,(cx.keep I o).kp b=none->cx.kp b=none:=λb h=>by
  cases e:cx.kp b with
  |none=>rfl
  |some q=>exact zA2 (h.symm.trans (old b q e))
 exact⟨⟨G.ext,⟨G.sim.base,G.sim.frz,λb o' h=>G.sim.kept b o' (old b o' h),λb o' h=>e03 (λh1 h2 h3=>⟨h1,non b h2,h3⟩) (G.sim.muts b o' h),G.sim.mabove,G.sim.gens,G.sim.os⟩,
  ⟨G.frm.ns,G.frm.cells,⟨G.frm.apart.1,non _ G.frm.apart.2.1,G.frm.apart.2.2⟩,G.frm.capart⟩,G.above⟩,(G.sim.kept I o hI).1,G.sim.kmu hI,(G.sim.kept I o hI).2⟩
theorem CxOk.keep(C:CxOk n cx){I:Addr}{o:Obj}(hk:cx.kp I=none):CxOk n (cx.keep I o) where
 env:=C.env
 room:=C.room
 kinds:=C.kinds
 frames:=e12 (λl hl h=>⟨l,hl,λenv he=>e02 (λh1 q9=>e12 (λL h2 h3=>⟨h1,L,h2,h3.imp id (e12 λo' ho' hd=>⟨o',(Cx.keep_old (zRa ho' hk)).trans ho',hd⟩)⟩) q9) (h env he)⟩) C.frames
theorem StOk.keep(S:StOk cx)(hI:∀ x,(x,I)∉cx.env.cells):StOk (cx.keep I o) where
 nofree:=S.nofree
 cellAt:=S.cellAt
 top:=S.top
 nodup:=S.nodup
 own x c h:=(Cx.keep_old (λe:c=I=>hI x (e▸h))).trans (S.own x c h)
inductive ItAt(g:Hp)(m:Mt)(d:DV)(xs:List DV)(I:Addr)(i:Nat)(h:Heap):Prop
 |lst {l:Addr} (r:Rep g d (.ref l)) (e:asL m d=some xs) (ne:l≠I) (it:h.IsListIter I l i)
 |tup {t:Addr} (r:Rep g d (.ref t)) (e:d=.tup xs) (ne:t≠I) (it:h.IsTupleIter I t i)
 |rng {a b c:Int} (e:d=.rng a b c) (ex:xs=upTo (rngLen a b c) a c) (it:IsRangeIter h I (a+(i:Nat) * c) (((rngLen a b c:Nat):Int)-(i:Nat)) c)
theorem zNs(k:Nat):∀(a c:Int),(upTo k a c).length=k:=by
 induction k with
 |zero=>exact λU U=>rfl
 |succ k ih=>exact λa c=>congrArg Nat.succ (ih (a+c) c)
theorem zWi(k:Nat):∀(a c:Int) (i:Nat),i<k->(upTo k a c)[i]?=some (.int (a+i * c)):=by
 induction k with
 |zero=>exact λU U U h=>(Nat.not_lt_zero _ h).elim
 |succ k ih=>
  intro a c i h
  cases i with
  |zero=>simp[upTo]
  |succ i=>
   refine(ih (a+c) c i (Nat.lt_of_succ_lt_succ h)).trans (congrArg (λx=>some (DV.int x)) ?_)
   rw[Int.natCast_succ,Int.add_mul,Int.one_mul,Int.add_assoc,Int.add_comm c]
theorem ItAt.obj(it:ItAt g m d xs I i h):∃ o,h.get? I=some o/\isD o=false:=by
 cases it with
 |lst _ _ _ it=>exact e13 (λo ho U hd=>⟨o,ho,by unfold isD;rw[hd]⟩) it
 |tup _ _ _ it=>exact e13 (λo ho U hd=>⟨o,ho,by unfold isD;rw[hd]⟩) it
 |rng _ _ it=>exact⟨_,it,rfl⟩
theorem ItAt.back(it:ItAt g m d xs I i h)(e:Ext g g')(hg:zB6 d xs ⟨[],m'⟩)(ho:h'.get? I=h.get? I):ItAt g' m' d xs I i h':=by
 cases it with
 |lst r e' ne it=>
  refine .lst (r.mono e) ?_ ne (it.imp λo q=>⟨ho.trans q.1,q.2⟩)
  rcases zQi e' with q|q
  ·rw[q];rfl
  ·refine q.elim λa q=>?_
   rw[q.1]at hg ⊢
   show ob none (m' a) lstO=_
   rw[show m' a=some (.lst xs) from hg];rfl
 |tup r e' ne it=>exact .tup (r.mono e) e' ne (it.imp λo q=>⟨ho.trans q.1,q.2⟩)
 |rng e' ex it=>exact .rng e' ex (ho.trans it)
theorem itm{xs:List DV}(rv:RepL g xs vs){j:Nat}{x:DV}(hw:vs.toArray[j]?=some w)(hx:xs[j]?=some x):Rep g x w:=by
 refine e12 (λv hv rx=>?_) (rv.get hx)
 rw[List.getElem?_toArray]at hw
 rw[<-Option.some.inj (hv.symm.trans hw)];exact rx
set_option tactic.hygienic true in
theorem yGf(hh:cx.A.handled=none)(G:Good W cx g V s){xs:List DV}{I:Addr}(it:ItAt g V.mu d xs I i s.heap){R:Prop}
  (k:∀(fp:List Addr) (P:Nat->Value->Prop) (St':Nat->Heap->Prop),Walks W.prog W.w cx.A I fp [I] xs.length P St'->St' i s.heap->(∀ j h',St' j h'->ItAt g V.mu d xs I j h')->(∀ j w x,P j w->xs[j]?=some x->Rep g x w)->R):R:=by
 cases it with
 |lst r e ne it=>
  refine e33 (λa n vs e1 ho rv=>?_) (zD9 G r e)
  cases e1
  have Wk:=Walks.list (prog:=W.prog) (w:=W.w) hh I _ ne vs.toArray
  rw[List.size_toArray,<-rv.length]at Wk
  exact k _ _ _ Wk ⟨it,PySem.IsL.isList (n:=n) ho⟩ (λj h' st=>.lst r e ne st.1) λj w x hw hx=>itm rv hw hx
 |tup r e ne it=>
  rw[e]at r
  refine(zAw r).elim λa q=>e34 (λo n vs e1 ht hc q=>e02 (λhd rv=>?_) q) q
  cases e1
  have Wk:=Walks.tuple (prog:=W.prog) (w:=W.w) hh I _ ne vs.toArray
  rw[List.size_toArray,<-rv.length]at Wk
  exact k _ _ _ Wk ⟨it,_,G.sim.frz _ _ ht,hc,_,hd⟩ (λj h' st=>.tup (e▸r) e ne st.1) λj w x hw hx=>itm rv hw hx
 |rng e ex it=>
  rename_i a b c
  have Wk:=Walks.range (prog:=W.prog) (w:=W.w) hh I a c (rngLen a b c)
  have hl:xs.length=rngLen a b c:=by rw[ex,zNs]
  rw[<-hl]at Wk it
  refine k _ _ _ Wk it (λj h' st=>.rng e ex (hl▸st)) λj w x hw hx=>hw.elim λt ew=>?_
  have hj:=(List.getElem?_eq_some_iff.mp hx).1
  rw[hl]at hj
  rw[ex,zWi _ _ _ _ hj]at hx
  rw[ew,<-Option.some.inj hx];exact .int _ _
theorem zUh(hh:cx.A.handled=none)(G:Good W cx g V s){d:DV}{xs:List DV}(F:Free cx g V.mu I)(it:ItAt g V.mu d xs I i s.heap){x:DV}(hx:xs[i]?=some x)
  (q:∀ v s',Good W cx g V s'->ItAt g V.mu d xs I (i+1) s'.heap->Rep g x v->(∀ b,b∉[I]->∀ o,s.heap.get? b=some o->s'.heap.get? b=some o)->Q (some v) s'):wpAny W.M cx.A (pyNext (.ref I)) Q E s:=
 yGf hh G it λfp P St' Wk st hs hp=>Wk.item i s _ _ (List.getElem?_eq_some_iff.mp hx).1 st λw h' tk hw st hk=>q _ _ (G.upd F λb o hb=>hk b o λh=>hb (List.mem_singleton.mp h)) (hs _ _ st) (hp _ _ _ hw hx) λb hb o=>hk b o hb
theorem zUi(hh:cx.A.handled=none)(G:Good W cx g V s){I:Addr}(F:Free cx g V.mu I)(it:ItAt g V.mu d xs I xs.length s.heap){Q:Option Value->Shared->Prop}
  (q:∀ s',Good W cx g V s'->(∀ b,b∉[I]->∀ o,s.heap.get? b=some o->s'.heap.get? b=some o)->Q none s'):wpAny W.M cx.A (pyNext (.ref I)) Q E s:=
 yGf hh G it λfp P St' Wk st hs hp=>Wk.done s _ _ st λh' tk hk=>q _ (G.upd F λb o hb=>hk b o λh=>hb (List.mem_singleton.mp h)) λb hb o=>hk b o hb
theorem zJ3(h:bigI a):a<2 ^ 62:=Int.lt_of_le_of_lt Int.le_natAbs (Int.ofNat_lt.mpr (Nat.lt_trans h (by decide:2 ^ 60<2 ^ 62)))
theorem zM2(h:bigI a):-(2 ^ 62)<=a:=Int.neg_le_of_neg_le (Int.le_of_lt (zJ3 (a:=-a) ((Int.natAbs_neg a).symm▸h:(-a).natAbs<2 ^ 60)))
theorem zO6(ha:bigI a)(hb:bigI b)(hc:c=1\/c=-1):Builtin.Range.small a b c=true:=
 pm1 hc (small_one (zM2 ha) (zJ3 ha) (zM2 hb) (zJ3 hb)) (small_down (zM2 ha) (zJ3 ha) (zM2 hb) (zJ3 hb))
theorem Good.pushed(G:Good W cx g V s)(o:Obj):Good W cx g V {s with heap:=s.heap.push o}:=G.grow (h':=s.heap.push o) (t:=s.toks) λb o' e=>Heap.get?_push_of_some _ e
theorem zUg(h:zE0 m d=some xs):(∃ a b c,d=.rng a b c/\xs=upTo (rngLen a b c) a c)\/seqV m d=some xs:=by
 cases d with
 |rng a b c=>cases h;exact .inl ⟨a,b,c,rfl,rfl⟩
 |_=>exact .inr h
theorem zLd(hh:cx.A.handled=none)(G:Good W cx g V s)(r:Rep g d v)(h:zE0 V.mu d=some xs)(hr:zD4 d)
  (q:∀ s',Good W cx g V s'->s'.heap.objs.size=s.heap.objs.size+1->Free cx g V.mu s.heap.objs.size->ItAt g V.mu d xs s.heap.objs.size 0 s'.heap->Q (.ref s.heap.objs.size) s'):wpAny W.M cx.A (pyIter v) Q E s:=by
 replace q:=λo it=>q _ (G.pushed o) (Heap.size_push ..) G.freeN it
 rcases zUg h with h|h
 ·refine e32 (λa b c e ex=>?_) h
  rw[e]at r hr
  refine(zAw r).elim λar r=>e32 (λt u w er r=>?_) r
  rw[er]
  refine wpAny_pyIter_range (G.sim.frz _ _ r) (zO6 hr.1 hr.2.1 hr.2.2) (q _ (.rng e ex ?_))
  show Heap.get? _ _=_
  rw[Heap.get?_push_size _ rfl,show((rngLen a b c:Nat):Int)=Builtin.Range.rangeSize a b c from(rangeSize_toNat a b c).symm]
  simp[rawInt]
 ·rcases zPg h with e|h
  ·have r':=r
   rw[e]at r'
   refine(zAw r').elim λa q'=>e34 (λo n vs e1 ht hc q'=>?_) q'
   rw[e1]at r ⊢
   have ho:=G.sim.frz _ _ ht
   exact wpAny_pyIter_tuple (items:=_) ⟨_,ho,hc,_,q'.1⟩ (q _ (.tup r e (Nat.ne_of_lt (Heap.lt_size ho)) ⟨_,Heap.get?_push_size _ rfl,rfl,rfl⟩))
  ·refine e33 (λa n vs e1 ho rv=>?_) (zD9 G r h)
   rw[e1]at r ⊢
   exact wpAny_pyIter_list (PySem.IsL.isList (n:=n) ho) (q _ (.lst r h (Nat.ne_of_lt (Heap.lt_size ho)) ⟨_,Heap.get?_push_size _ rfl,rfl,rfl⟩))
theorem zOo(q:Q () s)(ho:s.heap.get? I=some o)(hc:o.cls=.type nm)(hd:o.data=.fields vs)(hn:["enumerate","zip","dict_itemiterator","dict_reverseitemiterator","odict_iterator","itertools.zip_longest","itertools.pairwise"].contains nm=false) :
  wpAny W.M A (letOwnedTupleGo (.Tuple [] k p) (.ref I) v) Q E s:=by
 cases v with
 |ref a=>
  refine wpAny_bind (wpAny_load ho ?_)
  rw[hc,hd]
  show wpAny _ A (if(_&&_)=true then _ else _) Q E s
  rw[if_neg (by rw[hn];exact Bool.false_ne_true)]
  exact wpAny_pure q
 |_=>exact wpAny_pure q
theorem zV0(it:ItAt g m d xs I i s.heap)(q:Q () s):wpAny W.M A (letOwnedTupleGo t (.ref I) v) Q E s:=by
 have bod:∀ k p,wpAny W.M A (letOwnedTupleGo (.Tuple [] k p) (.ref I) v) Q E s:=λk p=>by
  cases it with
  |lst _ _ _ it=>exact e13 (λo ho hc hd=>zOo q ho hc hd (by decide)) it
  |tup _ _ _ it=>exact e13 (λo ho hc hd=>zOo q ho hc hd (by decide)) it
  |rng _ _ it=>exact zOo q it rfl rfl (by decide)
 clear it
 cases t with
 |Tuple es k p=>exact bod k p
 |List es p=>exact bod 0 p
 |_=>exact wpAny_pure q
end
end
section
def PostS(W:Wd)(cx:Cx)(g:Hp)(Q:Option DV->St->Prop)(f:Flow)(s':Shared):Prop:=match f with
 |.next=>∃ g' σ',Ext g g'/\Good W cx g' σ' s'/\Q none σ'
 |.ret v=>∃ g' σ' d,Ext g g'/\Good W cx g' σ' s'/\Rep g' d v/\Q (some d) σ'
 |_=>False
def EvS(W:Wd)(too:Addr)(cx:Cx)(t:Sem Flow)(Q:Option DV->St->Prop)(X:DV->St->Prop)(V:St):Prop:=
 ∀ g s,Good W cx g V s->wpAny W.M cx.A t (PostS W cx g Q) (EX W too cx X) s
section
variable {W:Wd}{too:Addr}{T:Tb}{n:Nat}{cx:Cx}{X:DV->St->Prop}{V:St}{g g':Hp}{m:Mt}{s s':Shared}{E:Value->Shared->Prop}
theorem PostS.from(h:PostS W cx g' Q f s)(e:Ext g g'):PostS W cx g Q f s:=by
 cases f with
 |next=>exact e22 (λa b c d=>⟨a,b,e.trans c,d⟩) h
 |ret v=>exact e32 (λa b c d r=>⟨a,b,c,e.trans d,r⟩) h
 |brk=>exact h
 |cont=>exact h
theorem zYv:Ends (λg=>PostS W cx g Q):=⟨λe h=>h.from e⟩
theorem EvS.mono(h:EvS W too cx t Q X V)(k:∀ d V,Q d V->Q' d V):EvS W too cx t Q' X V:=λg s G=>
 wpAny_mono (h g s G) (λf U p=>by
  cases f with
  |next=>exact e23 (λa b c d q=>⟨a,b,c,d,k _ _ q⟩) p
  |ret v=>exact e34 (λa b c d e r q=>⟨a,b,c,d,e,r,k _ _ q⟩) p
  |brk=>exact p
  |cont=>exact p) λU U x=>x
theorem zZq(h:Q none V):EvS W too cx (execs [] cx.env) Q X V:=λg s G=>wpAny_execs_nil ⟨g,V,Ext.rfl,G,h⟩
theorem zSo(h:EvS W too cx (exec a cx.env) (λf V=>optN f (λd=>Q (some d) V) (EvS W too cx (execs r cx.env) Q X V)) X V):EvS W too cx (execs (a::r) cx.env) Q X V:=λg s G=>
 wpAny_execs_cons (wpAny_mono (h g s G) (λf s' p=>by
  cases f with
  |next=>exact e23 (λg' σ' e G' q=>wpAny_mono (q g' s' G') (λU U p=>p.from e) λU U x=>x) p
  |ret v=>exact p
  |brk=>exact p
  |cont=>exact p) λU U x=>x)
theorem s_if(h:EvG W too cx (isTrue t cx.env (eval t cx.env)) (λr V=>sel r (EvS W too cx (execs a cx.env) Q X V) (EvS W too cx (execs b cx.env) Q X V)) X V) :
  EvS W too cx (exec (.If t a b pos) cx.env) Q X V:=λg s G=>
 wpAny_If (zC5 (h g s G) (λr s' g' σ' e G' q=>by
  cases r with
  |true=>
   exact wpAny_mono (q g' s' G') (λU U p=>p.from e) λU U x=>x
  |false=>
   exact wpAny_mono (q g' s' G') (λU U p=>p.from e) λU U x=>x) λU U x=>x)
theorem yI5(h:EvE W too cx (eval e cx.env) (λd V=>Q (some d) V) X V):EvS W too cx (exec (.Return (some e) pos) cx.env) Q X V:=λg s G=>
 wpAny_Return_some (zBl (h g s G) (λv s' g' σ' d e G' r q=>⟨g',σ',d,e,G',r,q⟩) λU U x=>x)
theorem zKe(h:zEa v=false)(t:Option PySem.Expr)(k:Nat)(env:Env):swapsWith v t k env=pure false:=by
 cases v with
 |ListComp _ _ _ _=>exact Bool.noConfusion h
 |SetComp _ _ _ _=>exact Bool.noConfusion h
 |DictComp _ _ _ _ _=>exact Bool.noConfusion h
 |_=>rfl
theorem zTp(h:env.scope.kind=.function):interactive env=false:=by unfold interactive;rw[h];rfl
theorem yEy(EO:EnvOk cx.env)(hc:zEa e=false)(h:EvE W too cx (eval e cx.env) (λU V=>Q none V) X V):EvS W too cx (exec (.Expr e pos) cx.env) Q X V:=λg s G=>by
 rw[arm_exec_Expr,zTp EO.kind,zKe hc]
 refine wpAny_bind (wpAny_standAt ?_)
 simp only[Bool.false_eq_true,if_false,pure_bind]
 exact zDu zYv G h λg' σ' s' d v e' G' rd hd=>wpAny_dropValue ⟨g',σ',Ext.rfl,G',hd⟩
theorem yF0(hc:zEa v=false)(hs:swappedStores [t] v cx.env=pure none)
  (h:EvE W too cx (eval v cx.env) (λd V=>∀ g s w,Good W cx g V s->Rep g d w->wpAny W.M cx.A (assign t cx.env w) (PostG W cx g λU V=>Q none V) (EX W too cx X) s) X V)
  (ht:assignEach [t] cx.env=[(false,assign t cx.env)]):EvS W too cx (exec (.Assign [t] v pos) cx.env) Q X V:=λg s G=>by
 rw[arm_exec_Assign]
 refine wpAny_bind (wpAny_standAt ?_)
 show wpAny _ _ (swapsWith v (some t) pos.line cx.env >>= _) _ _ _
 rw[zKe hc,pure_bind]
 simp only[Bool.false_eq_true,if_false]
 refine zDu zYv G h λg' σ' s' d w e' G' rd hd=>?_
 rw[hs,pure_bind,ht]
 unfold assignStores
 refine wpAny_bind (zC5 (hd g' s' w G' rd) (λU s'' g'' σ'' e G'' q=>wpAny_pure ⟨g'',σ'',e,G'',q⟩) λU U x=>x)
theorem zW7(hh:cx.A.handled=none)(S:zK9 W cx f){ns:CN}(ht:cTgt f t=some ns){d:DV}{Q:Option DV->St->Prop}(h:opt (zGc V.loc V.mu ns d) λl=>Q none ⟨l,V.mu⟩) :
  ∀ g s w,Good W cx g V s->Rep g d w->wpAny W.M cx.A (assign t cx.env w) (PostG W cx g λU V=>Q none V) (EX W too cx X) s:=λg s w G r=>by
 exact e12 (λl hl h=>zE5 hh S G ht r hl λs' G'=>G'.postG h) (zAb h)
theorem zQj(WO:W.Ok)(TO:TbOk W T){o:PySem.Expr}{x:Str}{pos:Pos}(hx:okc x=true){d:DV}{K:St->Prop}(h:EvE W too cx (eval o cx.env) (λov V=>zF9 T ov (enc x) d K V) X V) :
  ∀ g s w,Good W cx g V s->Rep g d w->wpAny W.M cx.A (assign (.Attribute o x pos) cx.env w) (PostG W cx g λU V=>K V) (EX W too cx X) s:=λg s w G r=>by
 show wpAny _ _ (do
  let ov <-holding [w] (eval o cx.env)
  standAt pos.atName
  holding [w,ov] (setAttr ov x w)
  release [w,ov] []) _ _ _
 refine zDu zVc G (zF3 h) λg' σ' s' ov v e G' rv hd=>?_
 refine wpAny_bind (wpAny_standAt (wpAny_bind (wpAny_holding (wpAny_mono (zR1 WO TO G' hx rv (r.mono e) hd) (λU s'' p=>zKr p) λU U x=>x))))
theorem yJe(hu:cx.A.units+64<cLine){d:DV}{K:St->Prop}(h:EvE W too cx (eval o cx.env) (λov V=>EvE W too cx (eval i cx.env) (λiv V=>zI4 ov iv d K V) X V) X V) :
  ∀ g s w,Good W cx g V s->Rep g d w->wpAny W.M cx.A (assign (.Subscript o i pos) cx.env w) (PostG W cx g λU V=>K V) (EX W too cx X) s:=λg s w G r=>by
 rw[arm_assign_Subscript]
 refine zDu zVc G (zF3 h) λg' σ' s' ov v e G' rv hd=>?_
 refine zDu zVc G' (zF3 hd) λg'' σ'' s'' iv v' e' G'' ri hd'=>?_
 refine wpAny_bind (wpAny_standAt (wpAny_bind (wpAny_holding (wpAny_mono (zO1 hu G'' (rv.mono e') ri ((r.mono e).mono e') hd') (λU s3 p=>zKr p) λU U x=>x))))
theorem zEf(h:isTL t=false)(env:Env):swappedStores [t] v env=pure none:=by
 cases t with
 |Tuple _ _ _=>exact Bool.noConfusion h
 |List _ _=>exact Bool.noConfusion h
 |_=>rfl
theorem zMe(h:zQq v=none)(env:Env):swappedStores [.Tuple es k p] v env=pure none:=by
 cases v with
 |Tuple _ _ _=>exact zA2 h.symm
 |_=>rfl
theorem zYa{α:Type}{c:Prop}[Decidable c]{a:Option α}{l:α}(h:(if c then a else none)=some l):c/\a=some l:=by
 by_cases q:c
 ·rw[if_pos q]at h;exact⟨q,h⟩
 ·rw[if_neg q]at h;exact zA2 h
theorem zIl[BEq α][LawfulBEq α]{l:List α}(nd:l.Nodup):l.eraseDups=l:=by
 induction nd with
 |nil=>rfl
 |@cons a r h _ ih=>
  rw[List.eraseDups_cons,List.filter_eq_self.mpr λb hb=>by rw[beq_eq_false_iff_ne.mpr λe=>h b hb e.symm];rfl,ih]
theorem zXo(hk:zCe cx.env cx.kd):∀{l:List Nat},zEs (zC3 cx.kd) ts=some l->ts.all (λu=>u.pos.line==k)=true->
  ∃ ns:List Str,(ts.filterMap λ|.Name id pos=>if cx.env.kindOf id==some .local&&pos.line==k then some id else none|_=>none)=ns/\ns.map enc=l/\ns.length=ts.length/\∀ x∈ns,zC3 cx.kd x=some (enc x):=by
 induction ts with
 |nil=>intro l h _;cases h;exact⟨[],rfl,rfl,rfl,λU h=>nomatch h⟩
 |cons e ts ih=>
  intro l h hl
  refine e02 (λhp hl=>?_) ((Bool.and_eq_true _ _).mp hl)
  revert hp
  refine zE4 (P:=λe l=>(e.pos.line==k)=true->∃ ns:List Str,((e::ts).filterMap λ|.Name id pos=>if cx.env.kindOf id==some .local&&pos.line==k then some id else none|_=>none)=ns/\ns.map enc=l/\ns.length=(e::ts).length/\∀ x∈ns,zC3 cx.kd x=some (enc x)) h λx p y ys h1 h2 hp=>?_
  refine e14 (λns a b c d=>?_) (ih h2 hl)
  refine e03 (λok e h0=>?_) (zC8 h1)
  refine⟨x::ns,?_,by rw[e,<-b];rfl,congrArg Nat.succ c,λz hz=>(List.mem_cons.mp hz).elim (λq=>q▸e▸h1) (d z)⟩
  rw[List.filterMap_cons,a]
  simp only[(hk x ok).1 h0,show(p.line==k)=true from hp,Bool.and_true,beq_self_eq_true,if_true]
theorem zVx{env:Env}(h:env.scope.kind=.function):env.blockKind=.function:=by unfold Env.blockKind;rw[h];rfl
theorem zMf(EO:EnvOk cx.env)(hk:zCe cx.env cx.kd){ts vs:List PySem.Expr}{p p':Pos}(h:zPa cx.kd ts vs=some l)(hf:vs.all (foldedForSure 8)=false) :
  ∃ ns:List Str,swappedStores [.Tuple ts k p] (.Tuple vs k' p') cx.env=pure (some ns)/\ns.map enc=l/\ns.length=l.length/\∀ x∈ns,zC3 cx.kd x=some (enc x):=by
 unfold zPa at h
 refine by_g λkG=>?_
 refine e02 (λhc h=>?_) (zYa h)
 refine e02 (λhc c5=>e02 (λhc c4=>e02 (λhc c3=>e02 (λc1 c2=>?_) ((Bool.and_eq_true _ _).mp hc)) ((Bool.and_eq_true _ _).mp hc)) ((Bool.and_eq_true _ _).mp hc)) ((Bool.and_eq_true _ _).mp hc)
 replace c4:=(Bool.not_eq_true' _).mp c4
 replace c5:=(Bool.not_eq_true' _).mp c5
 refine e12 (λl' hl h=>e02 (λhd e=>?_) (zBm h)) (zA1 h)
 cases e
 cases ts with
 |nil=>
  simp at c1
 |cons t r=>
  have c3':(t::r).all (λu=>u.pos.line==t.pos.line)=true:=by rw[List.all_cons,show(r.all λu=>u.pos.line==t.pos.line)=true from c3,beq_self_eq_true];rfl
  refine e14 (λns e1 e2 e3 e4=>?_) (zXo (k:=((t::r).head?.map (λu:PySem.Expr=>u.pos.line)).getD 0) hk hl c3')
  have nd:ns.Nodup:=by
   have:=zBw hd
   rw[<-e2]at this
   exact List.Pairwise.of_map enc (λa b hab e=>hab (by rw[e])) this
  refine kG ?_
  refine⟨ns,?_,e2,by rw[<-e2];simp,e4⟩
  unfold swappedStores
  show(if(!((t::r).length==2||(t::r).length==3)||vs.length != (t::r).length||cx.env.blockKind != .function)=true then pure none else _)=_
  rw[if_neg (by
   simp only[beq_iff_eq]at c2
   rw[c1,c2,zVx EO.kind];simp)]
  refine Eq.trans (if_neg (λq=>Bool.false_ne_true (c4.symm.trans q))) ?_
  dsimp only
  generalize hN:List.filterMap _ (t::r)=N
  obtain rfl:N=ns:=hN.symm.trans e1
  rw[if_neg (by rw[zIl nd,e3];simp)]
  rw[if_neg (by rw[hf];simp)]
  rw[if_neg (by rw[c5];simp)]
theorem zQu(S:zK9 W cx f){ns:List Str}:∀{ds:List DV} {vs:List Value} {V:St} {s:Shared} {Q:Unit->Shared->Prop},(∀ x∈ns,f x=some (enc x))->RepL g ds vs->ns.length=ds.length->Good W cx g V s->
  (∀ s',Good W cx g ⟨puts V.loc (ns.map enc) ds,V.mu⟩ s'->Q () s')->wpAny W.M cx.A (assignInOrder (ns.map λx=>bindName cx.env x) vs) Q E s:=by
 induction ns with
 |nil=>
  intro ds vs V s Q h r hl G q
  rw[List.length_eq_zero_iff.mp hl.symm]at r q
  exact zEw r (wpAny_pure (q s G))
 |cons x ns ih=>
  intro ds vs V s Q h r hl G q
  cases ds with
  |nil=>cases hl
  |cons d ds=>exact zCx r λw ws rd r=>wpAny_bind (wpAny_holding (S E V g s x (enc x) _ _ _ (h x (.head _)) G rd λs' G'=>ih (λy hy=>h y (.tail _ hy)) r (Nat.succ.inj hl) G' q))
theorem yEx(hh:cx.A.handled=none)(EO:EnvOk cx.env)(hk:zCe cx.env cx.kd){k k':Nat}{l:List Nat}(hs:zPa cx.kd ts vs=some l)(hf:vs.all (foldedForSure 8)=false){Q:Option DV->St->Prop}
  (h:EvE W too cx (eval (.Tuple vs k' p') cx.env) (λd V=>opt (tupD d) λds=>sel (Nat.beq l.length ds.length) (Q none ⟨puts V.loc l.reverse ds.reverse,V.mu⟩) False) X V) :
  EvS W too cx (exec (.Assign [.Tuple ts k p] (.Tuple vs k' p') pos) cx.env) Q X V:=λg s G=>by
 refine e14 (λns e1 e2 e3 e4=>?_) (zMf EO hk (k:=k) (k':=k') (p:=p) (p':=p') hs hf)
 rw[arm_exec_Assign]
 refine wpAny_bind (wpAny_standAt ?_)
 show wpAny _ _ (swapsWith (.Tuple vs k' p') (some (.Tuple ts k p)) pos.line cx.env >>= _) _ _ _
 rw[zKe rfl,pure_bind]
 simp only[Bool.false_eq_true,if_false]
 refine zDu zYv G h λg' σ' s' d w e' G' rd hd=>?_
 rw[e1,pure_bind]
 refine e12 (λds hds hd=>e02 (λhl hd=>?_) (zE8 hd)) (zAb hd)
 rw[zGi hds]at rd
 have hl':=Nat.eq_of_beq_eq_true hl
 unfold assignStores
 refine wpAny_bind (wpAny_rule (wpAny_bind (zFf hh G' rd (l:=ds) rfl (e3.trans hl') λus s'' G'' rs=>?_)))
 refine wpAny_bind (zQu (zKi EO hk) (λx hx=>e4 x (List.mem_reverse.mp hx)) rs.reverse (by simp[e3,hl']) G'' λs3 G3=>wpAny_pure ?_)
 rw[List.map_reverse,e2]at G3
 exact⟨g',_,Ext.rfl,G3,hd⟩
end
end
section
section
variable {W:Wd}{too:Addr}{T:Tb}{n:Nat}{cx:Cx}{X:DV->St->Prop}{V:St}{g g':Hp}{m:Mt}{s s':Shared}{E:Value->Shared->Prop}
theorem zRo(h:EX W too cx no e s):False:=zV7 h
theorem zEx(h:zDm it=true)(env:Env)(x:Value):foldedSetIterable it env x=pure x:=by
 cases it with
 |Set _ _=>exact Bool.noConfusion h
 |_=>rfl
def zU9(B:(Option DV->St->Prop)->St->Prop)(ns:CN)(Q:Option DV->St->Prop)(d:DV)(xs:List DV):List DV->St->Prop:=
 forW (zB6 d xs) (λx K V=>opt (zGc V.loc V.mu ns x) λloc=>B (λf V=>optN f (λd=>Q (some d) V) (K V)) ⟨loc,V.mu⟩) (λV=>Q none V)
theorem zNd(h:zB6 d xs V):zB6 d xs ⟨[],V.mu⟩:=by cases d<;>exact h
theorem yCh(h:forW gd B R l V):gd V:=by cases l<;>exact h.1
theorem zYm(C:CxOk n cx)(SO:StOk cx){t:PySem.Expr}{ns:CN}(ht:cTgt (cSto cx.kd) t=some ns){b:List Stmt}{B:(Option DV->St->Prop)->St->Prop}
  (hb:∀(I:Addr) (o:Obj),CxOk n (cx.keep I o)->StOk (cx.keep I o)->∀ Q V,B Q V->EvS W too (cx.keep I o) (execs b cx.env) Q no V)
  {Q:Option DV->St->Prop} {d x:DV} {xs l:List DV} {I:Addr} {i:Nat} {v:Value} (F:Free cx g V.mu I) (G:Good W cx g V s) (it:ItAt g V.mu d xs I i s.heap) (rv:Rep g x v) (h:zU9 B ns Q d xs (x::l) V) {T:Shared->Prop} {P:Result->Shared->Prop}
  (nx:∀ s₃ g₄ σ₄,Ext g g₄->Good W cx g₄ σ₄ s₃->Free cx g₄ σ₄.mu I->ItAt g₄ σ₄.mu d xs I i s₃.heap->zU9 B ns Q d xs l σ₄->T s₃) (rt:∀ v s₃,PostS W cx g Q (.ret v) s₃->P (.ok (.ret v)) s₃) :
  wpAny W.M cx.A (letOwnedTupleGo t (.ref I) v) (λU s₁=>wpAny W.M cx.A (assign t cx.env v) (λU s₂=>wpAny W.M cx.A (execs b cx.env) (λf s₃=>match f with
   |.next|.cont=>T s₃
   |.brk=>P (.ok .next) s₃
   |.ret v=>P (.ok (.ret v)) s₃) E s₂) E s₁) E s:=by
 refine e12 (λloc hloc h=>?_) (zAb h.2)
 refine zV0 it ?_
 refine e12 (λoI hoI hnd=>?_) it.obj
 have SK:=SO.keep (I:=I) (o:=oI) F.fc
 have CK:=C.keep (I:=I) (o:=oI) F.fk
 refine zE5 (cx:=cx.keep I oI) C.room.h (zKh C.env SK C.kinds) (G.keep F hoI) ht rv hloc λs₂ G₃=>?_
 refine wpAny_mono (hb I oI CK SK _ _ h g s₂ G₃) (λf s₃ p=>?_) λU U x=>(zRo x).elim
 cases f with
 |next=>
  refine e23 (λg₄ σ₄ e₄ G₄ q=>?_) p
  refine e04 (λG₅ k1 k2 k3=>?_) (G₄.unkeep F.fk)
  have hob:s₃.heap.get? I=s.heap.get? I:=k3.elim (λk=>k.trans hoI.symm) λk=>Bool.noConfusion (hnd.symm.trans k.1)
  exact nx s₃ g₄ σ₄ e₄ G₅ ⟨k1,k2,F.fk,F.fl,F.fc⟩ (it.back e₄ (zNd (yCh q)) hob) q
 |ret v=>exact rt v s₃ (e34 (λg₄ σ₄ d' e₄ G₄ r q=>⟨g₄,σ₄,d',e₄,(G₄.unkeep F.fk).1,r,q⟩) p)
 |brk=>exact p.elim
 |cont=>exact p.elim
def yHq(W:Wd)(cx:Cx)(g:Hp)(Q:Option DV->St->Prop)(E:Value->Shared->Prop)(r:Result)(s':Shared):Prop:=match r with
 |.ok f=>PostS W cx g Q f s'
 |.error e=>cameBackBy W.M cx.A cx.env E e s'
theorem zYl(C:CxOk n cx)(SO:StOk cx)(ht:cTgt (cSto cx.kd) t=some ns)
  (hb:∀(I:Addr) (o:Obj),CxOk n (cx.keep I o)->StOk (cx.keep I o)->∀ Q V,B Q V->EvS W too (cx.keep I o) (execs b cx.env) Q no V) (G:Good W cx g V s) (F:Free cx g V.mu I) (it:ItAt g V.mu d xs I 0 s.heap) (h:zU9 B ns Q d xs xs V) :
  codeAny W.M cx.A (.forLoop t (.ref I) b [] cx.env) (yHq W cx g Q E) s:=by
 obtain⟨N,hN⟩: ∃ N,N=xs.length+1:=⟨_,rfl⟩
 refine codeAny_forLoop_any (λk s'=>∃ i g' σ',k+i=N/\Ext g g'/\Good W cx g' σ' s'/\Free cx g' σ'.mu I/\i<=xs.length/\ItAt g' σ'.mu d xs I i s'.heap/\zU9 B ns Q d xs (xs.drop i) σ') (λk s' hR=>?_) N
  ⟨0,g,V,rfl,Ext.rfl,G,F,Nat.zero_le _,it,h⟩
 refine e37 (λi g' σ' hk e G' F' hi it' h'=>?_) hR
 by_cases hl:i=xs.length
 ·rw[hl]at it' h'
  rw[List.drop_length]at h'
  exact zUi C.room.h G' F' it' λs₁ G₁ U=>wpAny_execs_nil ⟨g',σ',e,G₁,h'.2⟩
 ·have hi':=Nat.lt_of_le_of_ne hi hl
  rw[List.drop_eq_getElem_cons hi']at h'
  refine zUh C.room.h G' F' it' (List.getElem?_eq_getElem hi') λv s₁ G₁ it₁ rv U=>?_
  refine zYm (P:=yHq W cx g Q E) C SO ht hb F' G₁ it₁ rv h' (λs₃ g₄ σ₄ e₄ G₄ F₄ it₄ q=>?_) λv s₃ p=>p.from e
  cases k with
  |zero=>exact(Nat.not_succ_le_self xs.length (Nat.le_trans (Nat.le_of_eq (hN.symm.trans (hk.symm.trans (Nat.zero_add i)))) hi)).elim
  |succ k=>exact⟨k,Nat.lt_succ_self k,i+1,g₄,σ₄,by rw[<-hk,Nat.succ_add_eq_add_succ],e.trans e₄,G₄,F₄,hi',it₄,q⟩
theorem yI6(C:CxOk n cx)(SO:StOk cx)(ht:cTgt (cSto cx.kd) t=some ns)(hp:zDm it=true)
  (hb:∀(I:Addr) (o:Obj),CxOk n (cx.keep I o)->StOk (cx.keep I o)->∀ Q V,B Q V->EvS W too (cx.keep I o) (execs b cx.env) Q no V)
  (h:EvE W too cx (eval it cx.env) (λd V=>opt (zE0 V.mu d) λl=>zD4 d/\zU9 B ns Q d l l V) X V):EvS W too cx (exec (.For t it b [] pos) cx.env) Q X V:=λg s G=>by
 rw[arm_exec_For]
 refine wpAny_bind (wpAny_standAt ?_)
 refine zDu zYv G h λg' σ' s' d v e G' rd hd=>?_
 rw[zEx hp,pure_bind]
 refine e13 (λxs hxs hr hd=>?_) (zAb hd)
 refine wpAny_bind (wpAny_standAt (wpAny_bind (wpAny_holding (zLd C.room.h G' rd hxs hr λs₁ G₁ U F it=>?_))))
 exact wpAny_runOwn (zYl C SO ht hb G₁ F it hd)
def zZo(Tt:(Bool->St->Prop)->St->Prop)(B:(Option DV->St->Prop)->St->Prop)(Q:Option DV->St->Prop):Nat->St->Prop:=zH1 (λK V=>Tt (λr V=>sel r (B (λf V=>optN f (λd=>Q (some d) V) (K V)) V) (Q none V)) V)
theorem yB2(C:CxOk n cx)(ht:∀ Q V,Tt Q V->EvG W too cx (isTrue t cx.env (eval t cx.env)) Q no V)
  (hb:∀ Q V,B Q V->EvS W too cx (execs b cx.env) Q no V) (h:∃ k,zZo Tt B Q k V):EvS W too cx (exec (.While t b [] pos) cx.env) Q X V:=λg s G=>by
 refine h.elim λk h=>?_
 refine wpAny_While ?_
 refine codeAny_whileLoop (λk s'=>∃ g' σ',Ext g g'/\Good W cx g' σ' s'/\zZo Tt B Q k σ') (λk s' hR=>?_) k ⟨g,V,Ext.rfl,G,h⟩
 refine e23 (λg' σ' e G' h'=>?_) hR
 cases k with
 |zero=>exact h'.elim
 |succ k=>
  refine zC5 (ht _ _ h' g' s' G') (λr s₁ g₁ σ₁ e₁ G₁ q=>?_) λU U x=>(zRo x).elim
  cases r with
  |true=>
   refine wpAny_mono (hb _ _ q g₁ s₁ G₁) (λf s₂ p=>?_) λU U x=>(zRo x).elim
   cases f with
   |next=>exact e23 (λg₂ σ₂ e₂ G₂ q₂=>⟨k,Nat.lt_succ_self _,g₂,σ₂,e.trans (e₁.trans e₂),G₂,q₂⟩) p
   |ret v=>exact PostS.from p (e.trans e₁)
   |brk=>exact p.elim
   |cont=>exact p.elim
  |false=>exact wpAny_execs_nil ⟨g₁,σ₁,e.trans e₁,G₁,q⟩
theorem zMc(h:zMd l=some p):l=[p.1,p.2.1,p.2.2]:=by
 cases l with
 |nil=>exact zA2 h
 |cons a r=>exact(zA1 h).elim λq h=>by rw[zKd h.1,<-Option.some.inj h.2]
theorem yDt(WO:W.Ok)(TO:TbOk W T)(hh:cx.A.handled=none){p₁ p₂ p₃ pos:Pos}{k:Nat}(h1:okc x₁=true)(h2:okc x₂=true)(h3:okc x₃=true){K:St->Prop}
  (h:opt (tupD d) λl=>opt (zMd l) λp=>EvE W too cx (eval o₁ cx.env) (λov V=>zF9 T ov (enc x₁) p.1 (λV=>EvE W too cx (eval o₂ cx.env) (λov V=>zF9 T ov (enc x₂) p.2.1 (λV=>EvE W too cx (eval o₃ cx.env) (λov V=>zF9 T ov (enc x₃) p.2.2 K V) X V) V) X V) V) X V) :
  ∀ g s w,Good W cx g V s->Rep g d w->wpAny W.M cx.A (assign (.Tuple [.Attribute o₁ x₁ p₁,.Attribute o₂ x₂ p₂,.Attribute o₃ x₃ p₃] k pos) cx.env w) (PostG W cx g λU V=>K V) (EX W too cx X) s:=λg s w G r=>by
 refine e12 (λl hl h=>e12 (λp hp h=>?_) (zAb h)) (zAb h)
 rw[zGi hl,zMc hp]at r
 rw[arm_assign_Tuple]
 refine wpAny_bind (wpAny_standAt ?_)
 unfold unpack
 show wpAny _ _ (holding [w] (unpackItems w 3 none) >>= λvs=>assignInOrder [assign (.Attribute o₁ x₁ p₁) cx.env,assign (.Attribute o₂ x₂ p₂) cx.env,assign (.Attribute o₃ x₃ p₃) cx.env] vs) _ _ _
 refine wpAny_bind (wpAny_holding (zFf hh G r (l:=[p.1,p.2.1,p.2.2]) rfl rfl λvs s' G' rs=>?_))
 refine zCx rs λu us r1 rs=>zJj rs λu2 u3 r2 r3=>?_
 refine wpAny_bind (wpAny_holding (zC5 (zQj WO TO h1 h g s' _ G' r1) (λU s₁ g₁ σ₁ e₁ G₁ q₁=>?_) λU U x=>x))
 refine wpAny_bind (wpAny_holding (zC5 (zQj WO TO h2 q₁ g₁ s₁ _ G₁ (r2.mono e₁)) (λU s₂ g₂ σ₂ e₂ G₂ q₂=>?_) λU U x=>x))
 refine wpAny_bind (wpAny_holding (zC5 (zQj WO TO h3 q₂ g₂ s₂ _ G₂ ((r3.mono e₁).mono e₂)) (λU s₃ g₃ σ₃ e₃ G₃ q₃=>?_) λU U x=>x))
 exact wpAny_pure ⟨g₃,σ₃,e₁.trans (e₂.trans e₃),G₃,q₃⟩
end
end
section
theorem enc_dot0:enc ".0"=yFw:=by rfl
theorem zLn:enc "__classdict__"=zJm:=by rfl
noncomputable def zLo:NameKind->Nat
 |.local=>0|.cell=>1|.free=>1|.globalImplicit=>2|.globalExplicit=>8
theorem zDp(x:Str)(k:NameKind)(r:List (Str×NameKind)):kinds ((x,k)::r)=(enc x,zLo k)::kinds r:=by cases k<;>rfl
theorem zKx{p:Str×NameKind}{r:List (Str×NameKind)}(h:zCa (p::r)=true):(okc p.1=true/\p.1≠"__classdict__")/\zCa r=true:=
 e02 (λh1 h2=>⟨e02 (λa b=>⟨a,λe=>by rw[e,zLn,zBn]at b;exact Bool.noConfusion b⟩) ((Bool.and_eq_true _ _).mp h1),h2⟩) ((Bool.and_eq_true _ _).mp h)
theorem zDq{k v x:Nat}{r:List (Nat×Nat)}:zAn ((k,v)::r) x=if Nat.beq k x then v else zAn r x:=rfl
theorem zB8{x y:Str}{k:NameKind}{r:List (Str×NameKind)}:((y,k)::r).lookup x=if x=y then some k else r.lookup x:=by
 rw[List.lookup_cons]
 by_cases e:x=y
 ·rw[if_pos e,e,beq_self_eq_true]
 ·rw[if_neg e,beq_eq_false_iff_ne.mpr e]
theorem zJq{x:Str}(hx:okc x=true){l:List (Str×NameKind)}(h:zCa l=true):zAn (kinds l) (enc x)=optB (l.lookup x) zLo 9:=by
 induction l with
 |nil=>rfl
 |cons p r ih=>
  cases p with
  |mk y k=>
  refine e02 (λh1 h2=>?_) (zKx h)
  rw[zDp,zDq,zB8]
  by_cases e:x=y
  ·rw[if_pos e,e,zBn];rfl
  ·rw[if_neg e,zA9 λq=>e (zBz h1.1 hx q).symm];exact ih h2
theorem zN6{p:Nat×Nat->Bool}{x:Nat}{l:List (Nat×Nat)}(h:∀ k,p (x,k)=true):zAn (l.filter p) x=zAn l x:=by
 induction l with
 |nil=>rfl
 |cons q r ih=>
  cases q with
  |mk y k=>
  rw[List.filter_cons,zDq]
  by_cases e:y=x
  ·rw[e,h k,if_pos rfl,zDq,zBn];rfl
  ·rw[zA9 e]
   cases p (y,k)with
   |true=>rw[if_pos rfl,zDq,zA9 e];exact ih
   |false=>exact ih
theorem zRg{p:Nat×Nat->Bool}{x:Nat}{l:List (Nat×Nat)}(h:∀ k,p (x,k)=false):zAn (l.filter p) x=9:=by
 induction l with
 |nil=>rfl
 |cons q r ih=>
  cases q with
  |mk y k=>
  rw[List.filter_cons]
  by_cases e:y=x
  ·rw[e,h k];exact ih
  ·cases p (y,k)with
   |true=>rw[if_pos rfl,zDq,zA9 e];exact ih
   |false=>exact ih
theorem zIc{x:Str}(hx:okc x=true){l:List (Str×NameKind)}(h:zCa l=true){k:Nat}(hk:k≠9)(e:zAn (zAk l) (enc x)=k):∃ kk,l.lookup x=some kk/\zLo kk=k/\x≠".0":=by
 unfold zAk at e
 by_cases q:x=".0"
 ·rw[q,zRg (λk=>by rw[enc_dot0,Nat.beq_refl];rfl)]at e
  exact(hk e.symm).elim
 ·rw[zN6 (λk=>by rw[zA9 λz=>q (zBz hx (by decide) (z.trans enc_dot0.symm))];rfl),zJq hx h]at e
  cases hl:l.lookup x with
  |none=>rw[hl]at e;exact(hk e.symm).elim
  |some kk=>rw[hl]at e;exact⟨kk,rfl,e,q⟩
theorem zFy{l:List (Str×NameKind)}(h:zJl l=true)(x)(hx:x∈l):x.2≠.cell:=λe=>by
 have:=List.all_eq_true.mp h x hx
 rw[e]at this;exact Bool.noConfusion this
theorem zNf{kd:List (Nat×Nat)}{l:List (Str×NameKind)}(h:zQ0 kd l=true)(x)(hx:(x,NameKind.free)∈l):zAn kd (enc x)=1:=Nat.eq_of_beq_eq_true (List.all_eq_true.mp h _ hx)
theorem zFi{l:List (Str×NameKind)}(h:zCa l=true)(x)(hx:x∈l):okc x.1=true/\x.1≠"__classdict__":=
 (zKx (p:=x) (r:=[]) ((Bool.and_eq_true _ _).mpr ⟨List.all_eq_true.mp h x hx,rfl⟩)).1
theorem zBa{l:List (Str×NameKind)}{x:Str}{k:NameKind}(h:l.lookup x=some k):(x,k)∈l:=by
 induction l with
 |nil=>exact zA2 h
 |cons p r ih=>
  cases p with
  |mk y k'=>
  rw[zB8]at h
  by_cases e:x=y
  ·rw[if_pos e]at h
   rw[e,Option.some.inj h];exact .head _
  ·rw[if_neg e]at h;exact .tail _ (ih h)
theorem zU2{l:List (Str×NameKind)}{x:Str×NameKind}(h:x∈l):enc x.1∈(kinds l).map (·.1):=by
 induction l with
 |nil=>cases h
 |cons p r ih=>
  cases p with
  |mk y k=>
  rw[zDp,List.map_cons]
  rcases List.mem_cons.mp h with e|h
  ·rw[e];exact .head _
  ·exact .tail _ (ih h)
theorem zC7{l:List (Str×NameKind)}(hok:zCa l=true)(hd:zBd ((kinds l).map (·.1))=true):∀ x∈l,l.lookup x.1=some x.2:=by
 induction l with
 |nil=>exact λU h=>nomatch h
 |cons p r ih=>
  cases p with
  |mk y k=>
  intro x hx
  rw[zDp,List.map_cons]at hd
  refine e02 (λd1 d2=>?_) ((Bool.and_eq_true _ _).mp hd)
  rw[Bool.not_eq_true',List.any_eq_false]at d1
  rw[zB8]
  rcases List.mem_cons.mp hx with e|hx
  ·rw[e];exact if_pos rfl
  ·rw[if_neg λe=>d1 _ (e▸zU2 hx) (Nat.beq_refl _)]
   exact ih (zKx hok).2 d2 x hx
noncomputable def zQa(env:Env)(p:Str×NameKind)(cs:List (Str×Addr)):Sem (ForInStep (List (Str×Addr))):=if(p.2==NameKind.free)=true then(do let c <-cellOf env p.1;pure (ForInStep.yield ((p.1,c)::cs)))else pure (ForInStep.yield cs)
theorem zRv{env:Env}{l:List (Str×NameKind)}(h:∀ x,(x,NameKind.free)∈l->∃ c,env.cells.lookup x=some c):∀ acc:List (Str×Addr),∃ cl,forIn l acc (zQa env)=pure cl/\(∀ x c,(x,c)∈cl->(x,c)∈acc\/((x,NameKind.free)∈l/\env.cells.lookup x=some c))/\(∀ x,(∃ c,acc.lookup x=some c)->∃ c,cl.lookup x=some c)/\∀ x,(x,NameKind.free)∈l->∃ c,cl.lookup x=some c:=by
 induction l with
 |nil=>exact λacc=>⟨acc,rfl,λx c h=>.inl h,λx h=>h,λx h=>nomatch h⟩
 |cons p r ih=>
  intro acc
  replace ih:=ih λx hx=>h x (.tail _ hx)
  rw[List.forIn_cons]
  cases p with
  |mk y k=>
  by_cases hk:k=.free
  ·rw[hk]at h ⊢
   refine e11 (λc hc=>?_) (h y (.head _))
   have e1:zQa env (y,.free) acc=pure (.yield ((y,c)::acc)):=by show(cellOf env y >>= _)=_;unfold cellOf;rw[hc];rfl
   rw[e1,pure_bind]
   refine e14 (λcl a b c' d=>⟨cl,a,λx c₂ hx=>?_,λx hX=>?_,λx hx=>?_⟩) (ih ((y,c)::acc))
   ·rcases b x c₂ hx with q|q
    ·rcases List.mem_cons.mp q with q|q
     ·cases q;exact .inr ⟨.head _,hc⟩
     ·exact .inl q
    ·exact .inr ⟨.tail _ q.1,q.2⟩
   ·refine c' x ?_
    rw[List.lookup_cons]
    cases x==y with
    |true=>exact⟨_,rfl⟩
    |false=>exact hX
   ·rcases List.mem_cons.mp hx with q|q
    ·cases q;exact c' y ⟨c,by rw[List.lookup_cons,beq_self_eq_true]⟩
    ·exact d x q
  ·have e1:zQa env (y,k) acc=pure (.yield acc):=if_neg λe=>hk (beq_iff_eq.mp e)
   rw[e1,pure_bind]
   refine e14 (λcl a b c' d=>⟨cl,a,λx c₂ hx=>(b x c₂ hx).imp id λq=>⟨.tail _ q.1,q.2⟩,c',λx hx=>?_⟩) (ih acc)
   rcases List.mem_cons.mp hx with q|q
   ·cases q;exact(hk rfl).elim
   ·exact d x q
theorem zRu{sc:Scope}{env:Env}(h:∀ x,(x,NameKind.free)∈sc.names->∃ c,env.cells.lookup x=some c):∃ cl,closureFor sc env=pure cl/\(∀ x c,(x,c)∈cl->(x,NameKind.free)∈sc.names/\env.cells.lookup x=some c)/\∀ x,(x,NameKind.free)∈sc.names->∃ c,cl.lookup x=some c:=by
 refine e14 (λcl a b U d=>⟨cl,?_,λx c hx=>(b x c hx).elim (λq=>nomatch q) id,d⟩) (zRv h [])
 show(forIn sc.names [] (zQa env) >>= λs=>(pure s:Sem _))=_
 rw[a,pure_bind]
theorem zFb{sc:Scope}{env:Env}{x:Str}{l:List (Str×NameKind)}:(l.map λ(n,k)=>if(k==NameKind.free&&env.scope.kind==.function&&env.kindOf n==some .cell)then(n,NameKind.cell)else(n,k)).lookup x =
  optB (l.lookup x) (λk=>some (if(k==NameKind.free&&env.scope.kind==.function&&env.kindOf x==some .cell)then .cell else k)) none:=by
 induction l with
 |nil=>rfl
 |cons p r ih=>
  cases p with
  |mk y k=>
  rw[List.map_cons,zB8 (y:=y) (k:=k) (r:=r)]
  show List.lookup x ((if(k==NameKind.free&&env.scope.kind==.function&&env.kindOf y==some .cell)=true then(y,NameKind.cell)else(y,k))::_)=_
  generalize hb:(k==NameKind.free&&env.scope.kind==.function&&env.kindOf y==some .cell)=b
  by_cases e:x=y
  ·rw[if_pos e]
   show _=some (if(k==NameKind.free&&env.scope.kind==.function&&env.kindOf x==some .cell)=true then NameKind.cell else k)
   rw[e,hb]
   cases b with
   |true=>exact(zB8 (k:=.cell)).trans (if_pos rfl:(if y=y then some NameKind.cell else _)=_)
   |false=>exact(zB8 (k:=k)).trans (if_pos rfl:(if y=y then some k else _)=_)
  ·rw[if_neg e]
   cases b with
   |true=>exact((zB8 (k:=.cell)).trans (if_neg e:(if x=y then some NameKind.cell else _)=_)).trans ih
   |false=>exact((zB8 (k:=k)).trans (if_neg e:(if x=y then some k else _)=_)).trans ih
noncomputable def Cx.keepH(cx:Cx)(L:List Addr)(h:Heap):Cx:={cx with kp:=λb=>if b∈L then h.get? b else cx.kp b}
section
variable {W:Wd}{too:Addr}{T:Tb}{n:Nat}{cx:Cx}{X:DV->St->Prop}{V:St}{g g':Hp}{m:Mt}{s s':Shared}{E:Value->Shared->Prop}
set_option tactic.hygienic true in
theorem Good.keepH(G:Good W cx g V s){L:List Addr}(F:∀ b∈L,Free cx g V.mu b):Good W (cx.keepH L s.heap) g V s:=by
 refine⟨G.ext,⟨G.sim.base,G.sim.frz,λb o' h=>?_,λb o' h=>?_,G.sim.mabove,G.sim.gens,G.sim.os⟩,⟨G.frm.ns,G.frm.cells,⟨G.frm.apart.1,?_,G.frm.apart.2.2⟩,G.frm.capart⟩,G.above⟩
 ·simp only[Cx.keepH]at h
  split at h
  ·rename_i hb;exact⟨(F b hb).fg,.inl h⟩
  ·exact G.sim.kept b o' h
 ·refine e03 (λh1 h2 h3=>?_) (G.sim.muts b o' h)
  refine⟨h1,?_,h3⟩
  simp only[Cx.keepH]
  rw[if_neg (λhb=>by rw[(F b hb).fm]at h;cases h)];exact h2
 ·simp only[Cx.keepH]
  rw[if_neg (λhb=>(F _ hb).fl rfl)];exact G.frm.apart.2.1
theorem Good.unkeepH{L:List Addr}{h:Heap}(hk:∀ b∈L,cx.kp b=none)(hd:∀ b∈L,∃ o,h.get? b=some o/\isD o=false)(G:Good W (cx.keepH L h) g V s) :
  Good W cx g V s/\∀ b∈L,g b=none/\V.mu b=none/\s.heap.get? b=h.get? b:=by
 have hI:∀ b∈L,(cx.keepH L h).kp b=h.get? b:=λb hb=>by simp only[Cx.keepH];rw[if_pos hb]
 have old:∀ b o',cx.kp b=some o'->(cx.keepH L h).kp b=some o':=λb o' e=>by
  simp only[Cx.keepH];rw[if_neg (λhb=>by rw[hk b hb]at e;cases e)];exact e
 refine⟨⟨G.ext,⟨G.sim.base,G.sim.frz,λb o' h=>G.sim.kept b o' (old b o' h),λb o' h=>?_,G.sim.mabove,G.sim.gens,G.sim.os⟩,⟨G.frm.ns,G.frm.cells,⟨G.frm.apart.1,?_,G.frm.apart.2.2⟩,G.frm.capart⟩,G.above⟩,λb hb=>?_⟩
 ·refine e03 (λh1 h2 h3=>?_) (G.sim.muts b o' h)
  refine⟨h1,?_,h3⟩
  cases e:cx.kp b with
  |none=>
   rfl
  |some q=>
   rw[old b q e]at h2;cases h2
 ·cases e:cx.kp cx.env.locals with
  |none=>
   rfl
  |some q=>
   exact absurd ((old _ q e).symm.trans G.frm.apart.2.1) (by simp)
 ·refine e12 (λo ho hn=>?_) (hd b hb)
  have hb':(cx.keepH L h).kp b=some o:=(hI b hb).trans ho
  refine e02 (λk1 k2=>?_) (G.sim.kept b o hb')
  refine⟨k1,G.sim.kmu hb',?_⟩
  rcases k2 with k|⟨k,_⟩
  ·rw[k,ho]
  ·rw[hn]at k;cases k
theorem Good.turn(G:Good W cx g V s){kd:List (Nat×Nat)}{l:Loc}(hn:∀(x:Str) d,okc x=true->look l (enc x)=some d->zAn kd (enc x)=0->look V.loc (enc x)=some d/\zAn cx.kd (enc x)=0)
  (hc:∀(x:Str) d,okc x=true->look l (enc x)=some d->zAn kd (enc x)=1->∃ c v,cx.env.cells.lookup x=some c/\s.heap.IsCell c (some v)/\Rep g d v):Good W {cx with kd:=kd} g ⟨l,V.mu⟩ s:=by
 obtain⟨⟨mm,hns,hv⟩,_,ap,ca⟩:=G.frm
 refine⟨G.ext,G.sim,⟨⟨mm,hns,λx d ok hl h0=>?_⟩,hc,ap,ca⟩,G.above⟩
 refine e02 (λa b=>?_) (hn x d ok hl h0)
 exact hv x d ok a b
structure Iter(W:Wd)(d:DV)(xs:List DV)(t:PySem.Expr)(it:Value)(L:List Addr)(P:Nat->Hp->Mt->Heap->Prop):Prop where
 item:∀{cx:Cx} {g:Hp} {V:St} {s:Shared} {i:Nat} {x:DV} {E:Value->Shared->Prop} {Q:Option Value->Shared->Prop},cx.A.handled=none->Good W cx g V s->(∀ b∈L,Free cx g V.mu b)->P i g V.mu s.heap->xs[i]?=some x->
  (∀ v s₁,(∀(E':Value->Shared->Prop) (Q':Unit->Shared->Prop),(∀ g' s₂,Ext g g'->Good W cx g' V s₂->P (i+1) g' V.mu s₂.heap->Rep g' x v->(∀ b o,g' b=some o->g b=some o\/s.heap.get? b=none)->(∀ b,b∉L->∀ o,s.heap.get? b=some o->s₂.heap.get? b=some o)->Q' () s₂)->wpAny W.M cx.A (letOwnedTupleGo t it v) Q' E' s₁)->Q (some v) s₁)->
  wpAny W.M cx.A (pyNext it) Q E s
 done:∀{cx:Cx} {g:Hp} {V:St} {s:Shared} {E:Value->Shared->Prop} {Q:Option Value->Shared->Prop},cx.A.handled=none->Good W cx g V s->(∀ b∈L,Free cx g V.mu b)->P xs.length g V.mu s.heap->
  (∀ s₁,Good W cx g V s₁->(∀ b,b∉L->∀ o,s.heap.get? b=some o->s₁.heap.get? b=some o)->Q none s₁)->wpAny W.M cx.A (pyNext it) Q E s
 objs:∀{i:Nat} {g:Hp} {m:Mt} {h:Heap},P i g m h->∀ b∈L,∃ o,h.get? b=some o/\isD o=false
 back:∀{i:Nat} {g g':Hp} {m m':Mt} {h h':Heap},P i g m h->Ext g g'->zB6 d xs ⟨[],m'⟩->(∀ b∈L,h'.get? b=h.get? b)->P i g' m' h'
 self:∀{cx:Cx} {g:Hp} {m:Mt} {s:Shared} {i:Nat} {E:Value->Shared->Prop} {Q:Value->Shared->Prop},P i g m s.heap->Q it s->wpAny W.M cx.A (pyIter it) Q E s
end
end
section
section
variable {W:Wd}{too:Addr}{T:Tb}{n:Nat}{cx:Cx}{X:DV->St->Prop}{V:St}{g g':Hp}{m:Mt}{s s':Shared}{E:Value->Shared->Prop}
theorem Good.freeze1(G:Good W cx g ⟨l,m⟩ s)(hm:m a=some mo):∃ ob,s.heap.get? a=some ob/\MRep W.prog W.w g mo ob/\Ext g (gadd g a ob)/\Good W cx (gadd g a ob) ⟨l,m.del a⟩ s:=by
 refine e03 (λh1 U q9=>e12 (λob h3 h4=>?_) q9) (G.sim.muts _ _ hm)
 have he:Ext g (gadd g a ob):=zHs h1
 refine⟨ob,h3,h4,he,G.step he (λb o h=>?_) (λU U h U=>h) (λb o h=>?_) rfl rfl⟩
 ·by_cases q:b=a
  ·subst q;rw[zBh]at h;cases h;exact .inr ⟨h3,.inr (by show m b≠none;rw[hm];simp)⟩
  ·rw[zCo _ _ q]at h;exact .inl h
 ·by_cases q:b=a
  ·subst q;rw[Mt.del_self]at h;cases h
  ·rw[Mt.del_ne _ q]at h
   refine e03 (λk1 U q9=>e12 (λob' k3 k4=>?_) q9) (G.sim.muts b o h)
   exact⟨by rw[zCo _ _ q];exact k1,.inr (by show m b≠none;rw[h];simp),ob',k3,k4.mono he⟩
set_option tactic.hygienic true in
theorem zLg(h:Fz m d m' d'):∀{g:Hp} {l:Loc} {v:Value},Good W cx g ⟨l,m⟩ s->Rep g d v->∃ g',Ext g g'/\Good W cx g' ⟨l,m'⟩ s/\Rep g' d' v:=by
 induction h with
 |refl=>exact λG r=>⟨_,Ext.rfl,G,r⟩
 |trans _ _ ih1 ih2=>
  intro g l v G r
  refine e13 (λg1 e1 G1 r1=>?_) (ih1 G r)
  refine e13 (λg2 e2 G2 r2=>?_) (ih2 G1 r1)
  exact⟨g2,e1.trans e2,G2,r2⟩
 |lst hm=>
  intro g l v G r
  obtain rfl:v=.ref _:=zAw r
  refine e14 (λob h3 h4 he G'=>?_) (G.freeze1 hm)
  cases h4 with
  |lst rl=>exact⟨_,he,G',.lst (zBh _ _ _) (rl.mono he)⟩
 |inst hm hd hne=>
  intro g l v G r
  rename_i m a C dx ns vs
  obtain rfl:v=.ref _:=zAw r
  refine e14 (λob h3 h4 he G'=>?_) (G.freeze1 hm)
  have hd':(m.del a) dx=some (.attrs ns vs):=by rw[Mt.del_ne _ (Ne.symm hne)];exact hd
  refine e14 (λob2 k3 k4 ke G''=>?_) (G'.freeze1 hd')
  cases h4
  cases k4 with
  |attrs re=>exact⟨_,he.trans ke,G'',.inst (ke _ _ (zBh _ _ _)) (zBh _ _ _) (re.mono ke)⟩
 |drop hm=>
  intro g l v G r
  exact⟨g,Ext.rfl,G.drop hm,r⟩
theorem Good.adopt{l:Loc}(G:Good W cx g ⟨l,m⟩ s){D:Addr}(F:Free cx g m D){ob:Obj}{mo:MObj}(ho:s.heap.get? D=some ob)(r:MRep W.prog W.w g mo ob)(hD:W.h₀.objs.size<=D):Good W cx g ⟨l,m.set D mo⟩ s:=by
 have other:∀ b,b≠D->(m.set D mo) b=m b:=λb h=>Mt.set_ne _ _ h
 refine⟨G.ext,⟨G.sim.base,G.sim.frz,G.sim.kept,λb o h=>?_,λb o h=>?_,G.sim.gens,G.sim.os⟩,⟨G.frm.ns,G.frm.cells,⟨G.frm.apart.1,G.frm.apart.2.1,?_⟩,λx c hxc=>?_⟩,G.above⟩
 ·by_cases q:b=D
  ·subst q
   rw[show(St.mk l (m.set b mo)).mu b=some mo from Mt.set_self _ _ _]at h;cases h
   exact⟨F.fg,F.fk,ob,ho,r⟩
  ·rw[show(St.mk l (m.set D mo)).mu b=m b from other b q]at h
   exact G.sim.muts b o h
 ·by_cases q:b=D
  ·subst q;exact hD
  ·rw[show(St.mk l (m.set D mo)).mu b=m b from other b q]at h
   exact G.sim.mabove b o h
 ·show(m.set D mo) _=none
  rw[other _ (Ne.symm F.fl)];exact G.frm.apart.2.2
 ·refine e04 (λc1 c2 c3 c4=>?_) (G.frm.capart x c hxc)
  refine⟨c1,?_,c3,c4⟩
  show(m.set D mo) _=none
  rw[other _ (λe=>by subst e;exact F.fc x hxc)];exact c2
def EvT(W:Wd)(too:Addr)(cx:Cx):List PySem.Expr->(Bool->St->Prop)->(DV->St->Prop)->St->Prop
 |[],Q,_,V=>Q true V
 |c::r,Q,X,V=>EvG W too cx (isTrue c cx.env (eval c cx.env)) (λt V=>sel t (EvT W too cx r Q X V) (Q false V)) X V
theorem zHx:∀(l:List PySem.Expr),(forIn l false λc r=>if r=true then do let ok <-isTrue c env (eval c env);pure (ForInStep.yield ok)else pure (ForInStep.yield r):Sem Bool)=pure false
 |[]=>rfl
 |c::r=>by
  rw[List.forIn_cons]
  simp only[Bool.false_eq_true,if_false,pure_bind]
  exact zHx r
theorem zP9:∀(ifs:List PySem.Expr) {Q:Bool->St->Prop} {V:St} {g:Hp} {s:Shared},EvT W too cx ifs Q X V->Good W cx g V s->
  wpAny W.M cx.A (forIn ifs true λc r=>if r=true then do let ok <-isTrue c cx.env (eval c cx.env);pure (ForInStep.yield ok)else pure (ForInStep.yield r)) (PostG W cx g Q) (EX W too cx X) s
 |[],Q,V,g,s,h,G=>wpAny_pure (G.postG h)
 |c::r,Q,V,g,s,h,G=>by
  rw[List.forIn_cons]
  simp only[if_true]
  refine wpAny_bind (wpAny_bind (zC5 (h g s G) (λt s' g' σ' e G' q=>wpAny_pure ?_) λU U x=>x))
  cases t with
  |true=>
   exact wpAny_mono (zP9 r q G') (λU U p=>p.from e) λU U x=>x
  |false=>
   simp only
   rw[zHx]
   exact wpAny_pure ⟨g',σ',e,G',q⟩
theorem yCw(hM:M=model prog w)(I:Nat->Shared->Prop)
  (turn:∀ n s,I n s->wpAny M A (pyNext it) (λr s₁=>match r with
   |none=>R (.ok .next) s₁
   |some v=>wpAny M A (letOwnedTupleGo target it v) (λU s₁'=>wpAny M A (assign target env v) (λU s₂=>
     wpAny M A (forIn ifs true λc r=>if r=true then do let ok <-isTrue c env (eval c env);pure (ForInStep.yield ok)else pure (ForInStep.yield r)) (λok s₃=>
      if ok=true then wpAny M A (eval elt env) (λx s₄=>
       wpAny M A (call (.builtin "list.append") [acc,x]) (λU s₅=>∃ m,m<n/\I m s₅) (notedBy M A env λe s'=>R (.error e) s') s₄) (notedBy M A env λe s'=>R (.error e) s') s₃
      else ∃ m,m<n/\I m s₃) (notedBy M A env λe s'=>R (.error e) s') s₂) (notedBy M A env λe s'=>R (.error e) s') s₁') (notedBy M A env λe s'=>R (.error e) s') s₁) (notedBy M A env λe s'=>R (.error e) s') s)
  (n:Nat) (h:I n s) :
  codeAny M A (.compLoop (.ListComp elt [⟨target,iter,ifs,0⟩] scope pos) 0 it acc env) R s:=by
 subst hM
 refine codeAny_loop rfl I (λn s hI=>?_) n h
 show wpAny _ A ((compTurn (.ListComp elt [⟨target,iter,ifs,0⟩] scope pos) 0 it acc env).onRaise (λx=>do noteFrame x env;theTreesLotGoes x)) _ _ s
 refine wpAny_noted ?_
 rw[compTurn_list]
 refine wpAny_bind (wpAny_standAt (wpAny_bind (wpAny_mono (turn n s hI) (λr s₁ h₁=>?_) λU U h'=>h')))
 cases r with
 |none=>
  exact wpAny_pure h₁
 |some v=>
  refine wpAny_bind (wpAny_mono h₁ (λU s₁' h₁'=>?_) λU U h'=>h')
  refine wpAny_bind (wpAny_mono h₁' (λU s₂ h₂=>wpAny_bind (wpAny_mono h₂ (λok s₃ h₃=>?_) λU U h'=>h')) λU U h'=>h')
  cases ok with
  |false=>
   exact wpAny_pure ⟨rfl,h₃⟩
  |true=>
   exact wpAny_bind (wpAny_bind (wpAny_mono h₃ (λx s₄ h₄=>wpAny_bind (wpAny_mono h₄ (λU s₅ h₅=>wpAny_pure (wpAny_pure ⟨rfl,h₅⟩)) λU U h'=>h')) λU U h'=>h'))
theorem lkc:look ((k,d)::r) y=if Nat.beq k y then some d else look r y:=rfl
theorem zEj(xs:List Nat):∀(ds:List DV) (l:Loc) (y:Nat),look (xs.zip ds++l) y=optB (look (xs.zip ds) y) some (look l y):=by
 induction xs with
 |nil=>exact λU U U=>rfl
 |cons x xs ih=>
  intro ds l y
  cases ds with
  |nil=>rfl
  |cons d ds=>
   rw[List.zip_cons_cons,List.cons_append,lkc,lkc]
   cases Nat.beq x y with
   |true=>rfl
   |false=>exact ih ds l y
theorem zG2{xs:List Nat}:∀{ds:List DV} {y:Nat},y∉xs->look (xs.zip ds) y=none:=by
 induction xs with
 |nil=>exact λU=>rfl
 |cons x xs ih=>
  intro ds y h
  cases ds with
  |nil=>rfl
  |cons d ds=>
   rw[List.zip_cons_cons,lkc,zA9 (λe=>h (by rw[e];exact .head _))]
   exact ih λhm=>h (.tail _ hm)
theorem zN3{xs:List Nat}:∀{ds:List DV} {l:Loc} {y:Nat},xs.Nodup->xs.length=ds.length->look (puts l xs ds) y=optB (look (xs.zip ds) y) some (look l y):=by
 induction xs with
 |nil=>exact λU U=>rfl
 |cons x xs ih=>
  intro ds l y nd h
  cases ds with
  |nil=>cases h
  |cons d ds=>
   refine e02 (λn1 n2=>?_) (List.nodup_cons.mp nd)
   refine(ih n2 (Nat.succ.inj h)).trans ?_
   rw[List.zip_cons_cons,lkc]
   by_cases e:x=y
   ·rw[<-e,zG2 n1,zAu,zBn];rfl
   ·rw[zA9 e,zAg _ _ e];rfl
theorem zL8{xs:List Nat}:∀{ds:List DV} {y:Nat},xs.length=ds.length->y∈xs->∃ d,look (xs.zip ds) y=some d:=by
 induction xs with
 |nil=>exact λU h=>nomatch h
 |cons x xs ih=>
  intro ds y hl hy
  cases ds with
  |nil=>cases hl
  |cons d ds=>
   rw[List.zip_cons_cons,lkc]
   by_cases e:x=y
   ·rw[e,zBn];exact⟨d,rfl⟩
   ·rw[zA9 e]
    exact ih (Nat.succ.inj hl) ((List.mem_cons.mp hy).elim (λq=>(e q.symm).elim) id)
theorem zVy{ns:CN}{loc:Loc}(nd:(cnN ns).Nodup)(h:bindC l₂ m ns d=some loc):∃ l',zGc l₁ m ns d=some l'/\∀ y,(y∈cnN ns->look l' y=look loc y)/\(y∉cnN ns->look l' y=look l₁ y/\look loc y=look l₂ y):=by
 cases ns with
 |one x=>
  rw[<-Option.some.inj h]
  refine⟨_,rfl,λy=>⟨λhy=>?_,λhy=>?_⟩⟩
  ·rw[List.mem_singleton.mp hy,zAu,lkc,zBn];rfl
  ·replace hy:x≠y:=λe=>hy (List.mem_singleton.mpr e.symm)
   rw[zAg _ _ hy,lkc,zA9 hy];exact⟨rfl,rfl⟩
 |tup xs=>
  refine e12 (λds hds h=>e02 (λhl e=>?_) (zBm h)) (zA1 h)
  rw[<-Option.some.inj e]
  have hl':=Nat.eq_of_beq_eq_true hl
  refine⟨puts l₁ xs ds,by show ob none (seqV m d) _=_;rw[hds];exact if_pos hl,λy=>⟨λhy=>?_,λhy=>?_⟩⟩
  ·exact e11 (λd' hd'=>by rw[zN3 (xs:=xs) nd hl',zEj,hd'];rfl) (zL8 (xs:=xs) hl' hy)
  ·rw[zN3 (xs:=xs) nd hl',zEj,zG2 (xs:=xs) hy];exact⟨rfl,rfl⟩
theorem zD1{q:Nat->Bool}:∀(l:Loc) (y:Nat),look (l.filter λp=>q p.1) y=if q y then look l y else none
 |[],y=>by cases q y<;>rfl
 |(k,d)::r,y=>by
  rw[List.filter_cons]
  by_cases e:k=y
  ·rw[<-e]
   cases hq:q k with
   |true=>rw[if_pos rfl,if_pos rfl,lkc,lkc,zBn];rfl
   |false=>exact(zD1 r k).trans (by rw[hq];rfl)
  ·rw[lkc (k:=k) (y:=y),zA9 e]
   refine Eq.trans ?_ (zD1 r y)
   cases q k with
   |true=>rw[if_pos rfl,lkc,zA9 e];rfl
   |false=>rfl
theorem zS2:∀{l:List Nat},zEs f es=some l->∀ z∈l,∃ x,f x=some z:=by
 induction es with
 |nil=>intro l h;cases h;exact λU h=>nomatch h
 |cons e es ih=>
  intro l h
  exact zE4 (P:=λU l=>∀ z∈l,∃ x,f x=some z) h λx p y ys h1 h2 z hz=>(List.mem_cons.mp hz).elim (λe=>⟨x,e▸h1⟩) (ih h2 z)
theorem zS1(h:cTgt f t=some ns):(cnN ns).Nodup/\∀ y∈cnN ns,∃ x,f x=some y:=by
 rcases zFh h with⟨x,_,h⟩|⟨_,h⟩
 ·refine e12 (λy hy e=>?_) (zA1 h)
  rw[<-Option.some.inj e]
  exact⟨List.nodup_cons.mpr ⟨List.not_mem_nil,.nil⟩,λz hz=>⟨x,List.mem_singleton.mp hz▸hy⟩⟩
 ·refine e12 (λes U h=>e12 (λl hl h=>e02 (λhd e=>?_) (zBm h)) (zA1 h)) (zA1 h)
  rw[<-Option.some.inj e]
  exact⟨zBw hd,zS2 hl⟩
end
end
section
section
variable {W:Wd}{too:Addr}{T:Tb}{n:Nat}{cx:Cx}{X:DV->St->Prop}{V:St}{g g':Hp}{m:Mt}{s s':Shared}{E:Value->Shared->Prop}
def zAf(env:Env):Prop:=∀ x,env.kindOf x=some .cell\/env.kindOf x=some .free->∃ c,env.cells.lookup x=some c
structure CompIn(cx:Cx)(sc:Scope)(cl:List (Str×Addr))(ts:List Nat):Prop where
 okn:zCa sc.names=true
 fn:sc.kind=.function
 nocell:zJl sc.names=true
 dis:zBd ((kinds sc.names).map (·.1))=true
 free:zQ0 cx.kd sc.names=true
 locs:(zAk sc.names).all (λp=>!(Nat.beq p.2 0)||ts.any (Nat.beq p.1))=true
 cl1:∀ x c,(x,c)∈cl->(x,NameKind.free)∈sc.names/\cx.env.cells.lookup x=some c
 cl2:∀ x,(x,NameKind.free)∈sc.names->∃ c,cl.lookup x=some c
theorem zI5{kd:List (Nat×Nat)}{sc:Scope}{xs:List Nat}(h:scOk kd sc xs=true):zCa sc.names=true/\sc.kind=.function/\zJl sc.names=true/\zBd ((kinds sc.names).map (·.1))=true/\zQ0 kd sc.names=true/\
  (zAk sc.names).all (λp=>!(Nat.beq p.2 0)||xs.any (Nat.beq p.1))=true:=by
 have an:∀{a b:Bool},(a&&b)=true->a=true/\b=true:=λ{a b} h=>(Bool.and_eq_true a b).mp h
 refine e02 (λh h6=>e02 (λh h5=>e02 (λh h4=>e02 (λh h3=>e02 (λh1 h2=>⟨h1,?_,h3,h4,h5,h6⟩) (an h)) (an h)) (an h)) (an h)) (an h)
 revert h2
 cases sc.kind<;>intro h2<;>first|rfl|exact Bool.noConfusion h2
theorem zUd{l:List (Nat×Nat)}{x k:Nat}(h:k≠9)(e:zAn l x=k):(x,k)∈l:=by
 induction l with
 |nil=>exact(h e.symm).elim
 |cons p r ih=>
  replace e:(if Nat.beq p.1 x then p.2 else zAn r x)=k:=e
  by_cases q:Nat.beq p.1 x=true
  ·rw[if_pos q]at e
   rw[<-e,<-Nat.eq_of_beq_eq_true q];exact .head _
  ·rw[if_neg q]at e;exact .tail _ (ih e)
variable {sc:Scope}{cl:List (Str×Addr)}{ts:List Nat}{Cc:Addr}
theorem CompIn.kof(I:CompIn cx sc cl ts){x:Str}{kk:NameKind}(h:sc.names.lookup x=some kk):kk≠.cell/\((kk≠.free/\(compEnvC sc cl Cc cx.env).kindOf x=some kk)\/(kk=.free/\((compEnvC sc cl Cc cx.env).kindOf x=some .cell\/(compEnvC sc cl Cc cx.env).kindOf x=some .free))):=by
 have lk:(compEnvC sc cl Cc cx.env).kindOf x=_:=zFb (sc:=sc) (env:=cx.env) (x:=x) (l:=sc.names)
 rw[h]at lk
 replace lk:(compEnvC sc cl Cc cx.env).kindOf x=some (if(kk==NameKind.free&&cx.env.scope.kind==.function&&cx.env.kindOf x==some .cell)=true then .cell else kk):=lk
 refine⟨zFy I.nocell _ (zBa h),?_⟩
 by_cases e:kk=.free
 ·refine .inr ⟨e,?_⟩
  rw[lk]
  by_cases c:(kk==NameKind.free&&cx.env.scope.kind==.function&&cx.env.kindOf x==some .cell)=true
  ·exact .inl (congrArg some (if_pos c))
  ·exact .inr (congrArg some ((if_neg c).trans e))
 ·rw[show(kk==NameKind.free)=false from beq_eq_false_iff_ne.mpr e]at lk
  exact .inl ⟨e,lk⟩
theorem yCz{k:NameKind}(h:zLo k=0):k=.local:=by cases k<;>first|rfl|cases h
theorem zVo{k:NameKind}(h:zLo k=1)(n:k≠.cell):k=.free:=by cases k<;>first|rfl|exact(n rfl).elim|cases h
theorem yCy{k:NameKind}(h:zLo k=2):k=.globalImplicit:=by cases k<;>first|rfl|cases h
theorem CompIn.kinds(I:CompIn cx sc cl ts)(h:ScopeKind)(hk:cx.env.scope.kind=h):zCe (compEnvC sc cl Cc cx.env) (zAk sc.names):=by
 intro x ok
 have go:∀ k,k≠9->zAn (zAk sc.names) (enc x)=k->∃ kk,zLo kk=k/\kk≠.cell/\((kk≠.free/\(compEnvC sc cl Cc cx.env).kindOf x=some kk)\/(kk=.free/\((compEnvC sc cl Cc cx.env).kindOf x=some .cell\/(compEnvC sc cl Cc cx.env).kindOf x=some .free))):=λk hk e=>
  e13 (λkk h1 h2 U=>⟨kk,h2,I.kof h1⟩) (zIc ok I.okn hk e)
 refine⟨λe=>e13 (λkk h2 U h=>?_) (go 0 (by decide) e),λe=>e13 (λkk h2 n h=>?_) (go 1 (by decide) e),λe=>e13 (λkk h2 U h=>?_) (go 2 (by decide) e)⟩
 ·rw[yCz h2]at h
  exact h.elim And.right λh=>nomatch h.1
 ·rw[zVo h2 n]at h
  exact h.elim (λh=>(h.1 rfl).elim) And.right
 ·rw[yCy h2]at h
  exact h.elim And.right λh=>nomatch h.1
theorem CompIn.free1(I:CompIn cx sc cl ts){x:Str}(ok:okc x=true)(e:zAn (zAk sc.names) (enc x)=1):(x,NameKind.free)∈sc.names/\zAn cx.kd (enc x)=1:=by
 refine e13 (λkk h1 h2 U=>?_) (zIc ok I.okn (by decide) e)
 have hm:=zBa h1
 rw[zVo h2 (zFy I.nocell _ hm)]at hm
 exact⟨hm,zNf I.free x hm⟩
theorem CompIn.some_of(I:CompIn cx sc cl ts){x:Str}{k:NameKind}(e:(compEnvC sc cl Cc cx.env).kindOf x=some k):∃ kk,sc.names.lookup x=some kk:=by
 have lk:(compEnvC sc cl Cc cx.env).kindOf x=_:=zFb (sc:=sc) (env:=cx.env) (x:=x) (l:=sc.names)
 cases h:sc.names.lookup x with
 |none=>rw[h]at lk;exact zA2 (lk.symm.trans e)
 |some kk=>exact⟨kk,rfl⟩
theorem CompIn.env(I:CompIn cx sc cl ts)(EO:EnvOk cx.env):EnvOk (compEnvC sc cl Cc cx.env) where
 cd e:=(I.some_of e).elim λk h=>(zFi I.okn _ (zBa h)).2 rfl
 kind:=I.fn
 gl:=EO.gl
 bi:=EO.bi
theorem CompIn.cellAt(I:CompIn cx sc cl ts):zAf (compEnvC sc cl Cc cx.env):=λx hx=>by
 refine(hx.elim (λe=>I.some_of e) λe=>I.some_of e).elim λk h=>?_
 rcases(I.kof (Cc:=Cc) h).2 with q|q
 ·rcases hx with e|e
  ·exact((I.kof (Cc:=Cc) h).1 (Option.some.inj (q.2.symm.trans e))).elim
  ·exact(q.1 (Option.some.inj (q.2.symm.trans e))).elim
 ·rw[q.1]at h;exact I.cl2 x (zBa h)
noncomputable def cxH(cx:Cx)(kp:Hp)(sc:Scope)(cl:List (Str×Addr))(Cc:Addr):Cx:={A:=cx.A,env:=compEnvC sc cl Cc cx.env,kd:=[],kp:=kp,g₀:=cx.g₀}
def cxB(cx:Cx)(kp:Hp)(sc:Scope)(cl:List (Str×Addr))(Cc:Addr)(L:List Addr)(h:Heap):Cx:=({cxH cx kp sc cl Cc with kd:=zAk sc.names}:Cx).keepH L h
theorem yH9(C:CxOk n cx)(I:CompIn cx sc cl ts)(G:Good W cx g V s){L:List Addr}{h:Heap}(hL:∀ b∈L,kpF cx s b=none):CxOk n (cxB cx (kpF cx s) sc cl Cc L h) where
 env:=I.env C.env
 room:=C.room
 kinds:=I.kinds _ C.env.kind
 frames:=by
  refine e12 (λl hl hf=>⟨l,hl,λenv he=>?_⟩) (show zW9 cx.A (kpF cx s) from Good.frames C G)
  exact e02 (λh1 q9=>e23 (λL' o h2 ho hd=>⟨h1,L',h2,.inr ⟨o,(if_neg (λhm=>zA2 ((hL _ hm).symm.trans ho))).trans ho,hd⟩⟩) q9) (hf env he)
def zP3(W:Wd)(too:Addr)(n:Nat)(elt:PySem.Expr)(ifs:List PySem.Expr)(sc:Scope)(B':Loc->(Option DV->Mt->Prop)->Mt->Prop):Prop:=∀ cx':Cx,CxOk n cx'->cx'.kd=zAk sc.names->zAf cx'.env->∀ loc K m,B' loc K m->
 EvT W too cx' ifs (λok σ₁=>sel ok (EvE W too cx' (eval elt cx'.env) (λy σ₂=>∃ m' y',Fz σ₂.mu y m' y'/\K (some y') m') no σ₁) (K none σ₁.mu)) no ⟨loc,m⟩
def zL7(ns:CN)(B':Loc->(Option DV->Mt->Prop)->Mt->Prop)(Q:DV->St->Prop)(d:DV)(xs:List DV)(loc:Loc):List DV->List DV->Mt->Prop:=
 zEc (zB6 d xs) (λx K m=>opt (bindC loc m ns x) λl=>B' l K m) loc Q
theorem zL6{ns:CN}{B':Loc->(Option DV->Mt->Prop)->Mt->Prop}{Q:DV->St->Prop}{d:DV}{xs:List DV}{loc:Loc}{l acc:List DV}(h:zL7 ns B' Q d xs loc l acc m):zB6 d xs ⟨[],m⟩:=zNd (V:=⟨loc,m⟩) (by cases l<;>exact h.1)
theorem zJv{kp:Hp}{L:List Addr}{h₂:Heap}{l₇ l:Loc}(hk:∀ b∈L,kp b=none)(ho:∀ b∈L,∃ o,h₂.get? b=some o/\isD o=false)(G:Good W (cxB cx kp sc cl Cc L h₂) g ⟨l₇,m⟩ s) :
  Good W (cxH cx kp sc cl Cc) g ⟨l,m⟩ s/\∀ b∈L,g b=none/\m b=none/\s.heap.get? b=h₂.get? b:=
 e02 (λG' k=>⟨Good.turn (kd:=[]) (l:=l) G' (λx d U U h0=>nomatch h0) (λx d U U h1=>nomatch h1),k⟩) (Good.unkeepH (cx:=({cxH cx kp sc cl Cc with kd:=zAk sc.names}:Cx)) hk ho G)
theorem zVm{kp:Hp}{t:PySem.Expr}{ns:CN}(ht:cTgt (zC3 (zAk sc.names)) t=some ns)(I:CompIn cx sc cl (cnN ns)){L:List Addr}(CB:CxOk n (cxB cx kp sc cl Cc L s.heap))(G:Good W (cxH cx kp sc cl Cc) g ⟨V.loc,m⟩ s)(Go:Good W cx g ⟨V.loc,m⟩ s)(hF:∀ b∈L,Free (cxH cx kp sc cl Cc) g m b)
  {x:DV} {v:Value} (rv:Rep g x v) {loc:Loc} (hloc:bindC V.loc m ns x=some loc) {Q:Unit->Shared->Prop} (k:∀ s₃,Good W (cxB cx kp sc cl Cc L s.heap) g ⟨loc,m⟩ s₃->Q () s₃):wpAny W.M cx.A (assign t (compEnvC sc cl Cc cx.env) v) Q E s:=by
 refine e02 (λnd hown=>?_) (zS1 ht)
 obtain⟨q,hq⟩: ∃ q:Nat->Bool,q=λy=>!(Nat.beq (zAn (zAk sc.names) y) 0):=⟨_,rfl⟩
 have q0:∀{y},zAn (zAk sc.names) y=0->q y=false:=λe=>by rw[hq];show(!(Nat.beq _ 0))=false;rw[e];rfl
 have q1:∀{y},zAn (zAk sc.names) y=1->q y=true:=λe=>by rw[hq];show(!(Nat.beq _ 0))=true;rw[e];rfl
 have loc0:∀ y,zAn (zAk sc.names) y=0->y∈cnN ns:=λy hy=>by
  have:=List.all_eq_true.mp I.locs _ (zUd (by decide) hy)
  simpa using this
 refine e12 (λl' hl' hlk=>?_) (zVy (l₁:=V.loc.filter λp=>q p.1) nd hloc)
 have G₃:Good W ({cxH cx kp sc cl Cc with kd:=zAk sc.names}:Cx) g ⟨V.loc.filter λp=>q p.1,m⟩ s:=by
  refine Good.turn (l:=V.loc.filter λp=>q p.1) G (λx d ok hlx h0=>?_) (λx d ok hlx h1=>?_)
  ·rw[zD1,q0 h0]at hlx;exact zA2 hlx
  ·rw[zD1,q1 h1]at hlx
   refine e02 (λhm hk1=>?_) (I.free1 ok h1)
   refine e23 (λc v a1 a2 a3=>e11 (λc' hc'=>?_) (I.cl2 x hm)) (Go.frm.cells x d ok hlx hk1)
   exact⟨c,v,hc'.trans (a1.symm.trans (I.cl1 x c' (mem_of_lookup hc')).2).symm,a2,a3⟩
 refine zE5 (cx:=cxB cx kp sc cl Cc L s.heap) CB.room.h (zKi CB.env CB.kinds) (G₃.keepH λb hb=>have f:=hF b hb;⟨f.fg,f.fm,f.fk,f.fl,f.fc⟩) ht rv hl' λs₃ G₅=>k s₃ ?_
 have same:∀ y,(zAn (zAk sc.names) y=0\/zAn (zAk sc.names) y=1)->look loc y=look l' y:=λy hy=>by
  by_cases hm:y∈cnN ns
  ·exact((hlk y).1 hm).symm
  ·refine e02 (λa b=>?_) ((hlk y).2 hm)
   rcases hy with hy|hy
   ·exact(hm (loc0 y hy)).elim
   ·rw[a,b,zD1,q1 hy];rfl
 exact Good.turn (kd:=zAk sc.names) G₅ (λx d ok hlx h0=>⟨(same _ (.inl h0)).symm.trans hlx,h0⟩) (λx d ok hlx h1=>G₅.frm.cells x d ok ((same _ (.inr h1)).symm.trans hlx) h1)
theorem zVl{kp:Hp}{elt t:PySem.Expr}{ifs:List PySem.Expr}{ns:CN}(ht:cTgt (zC3 (zAk sc.names)) t=some ns)(I:CompIn cx sc cl (cnN ns)){B':Loc->(Option DV->Mt->Prop)->Mt->Prop}(hB:zP3 W too n elt ifs sc B')
  {D:Addr} {L:List Addr} (CB:CxOk n (cxB cx kp sc cl Cc (D::L) s.heap)) (G:Good W (cxH cx kp sc cl Cc) g ⟨V.loc,m⟩ s) (Go:Good W cx g ⟨V.loc,m⟩ s) (hF:∀ b∈D::L,Free (cxH cx kp sc cl Cc) g m b) (hDL:D∉L)
  (ho:∀ b∈D::L,∃ o,s.heap.get? b=some o/\isD o=false) {x:DV} {v:Value} (rv:Rep g x v) {vs:List Value} {c:Nat} {acc:List DV} (hD:s.heap.get? D=some (listOf (List.toArray vs) c)) (racc:RepL g acc vs) (hz:acc.length<2 ^ 20) {F:List DV->Mt->Prop}
  (h:opt (bindC V.loc m ns x) λl=>B' l (λr m'=>optN r (λd=>F (acc++[d]) m') (F acc m')) m) {T:Shared->Prop}
  (nx:∀ s₃ g₃ m₃ acc₃ c₃ vs₃,Ext g g₃->Good W (cxH cx kp sc cl Cc) g₃ ⟨V.loc,m₃⟩ s₃->(∀ b∈D::L,Free (cxH cx kp sc cl Cc) g₃ m₃ b)->(∀ b∈L,s₃.heap.get? b=s.heap.get? b)->s₃.heap.get? D=some (listOf (List.toArray vs₃) c₃)->RepL g₃ acc₃ vs₃->acc₃.length<=acc.length+1->F acc₃ m₃->T s₃) :
  wpAny W.M cx.A (assign t (compEnvC sc cl Cc cx.env) v) (λU s₂=>wpAny W.M cx.A (forIn ifs true λc r=>if r=true then do let ok <-isTrue c (compEnvC sc cl Cc cx.env) (eval c (compEnvC sc cl Cc cx.env));pure (ForInStep.yield ok)else pure (ForInStep.yield r)) (λok s₃=>
   if ok=true then wpAny W.M cx.A (eval elt (compEnvC sc cl Cc cx.env)) (λx s₄=>wpAny W.M cx.A (call (.builtin "list.append") [.ref D,x]) (λU s₅=>T s₅) E s₄) E s₃ else T s₃) E s₂) E s:=by
 refine e12 (λloc hloc h=>?_) (zAb h)
 refine zVm ht I CB G Go hF rv hloc λs₃ G₆=>?_
 have hk:∀ b∈D::L,kp b=none:=λb hb=>(hF b hb).fk
 have fr:∀{g':Hp} {m':Mt},Free (cxH cx kp sc cl Cc) g m D->∀ b∈D::L,g' b=none->m' b=none->Free (cxH cx kp sc cl Cc) g' m' b:=λU b hb h1 h2=>⟨h1,h2,(hF b hb).fk,(hF b hb).fl,(hF b hb).fc⟩
 have FD:=hF D (.head _)
 refine zC5 (zP9 (cx:=cxB cx kp sc cl Cc (D::L) s.heap) ifs (hB _ CB rfl I.cellAt loc _ m h) G₆) (λok s₄ g₄ σ₄ e₄ G₇ q=>?_) λU U x=>(zRo x).elim
 cases ok with
 |false=>
  refine e02 (λG₈ k₈=>?_) (zJv (l:=V.loc) hk ho G₇)
  exact nx s₄ g₄ σ₄.mu acc c vs e₄ G₈ (λb hb=>fr FD b hb (k₈ b hb).1 (k₈ b hb).2.1) (λb hb=>(k₈ b (.tail _ hb)).2.2) ((k₈ D (.head _)).2.2.trans hD) (racc.mono e₄) (Nat.le_succ _) q
 |true=>
  refine wpAny_mono (q g₄ s₄ G₇) (λy s₅ hX=>zO8 hX λg₅ σ₅ dy e₅ G₈ ry q=>?_) λU U x=>(zRo x).elim
  refine e22 (λm' y' hfz hk'=>?_) q
  refine(zLg (l:=σ₅.loc) hfz G₈ ry).elim λg₆ q=>e03 (λe₆ G₉ ry'=>?_) q
  refine e02 (λG₁₀ k₁₀=>?_) (zJv (l:=V.loc) hk ho G₉)
  have e':=e₄.trans (e₅.trans e₆)
  have racc':=(racc.mono e').append (.cons ry' .nil)
  have FD6:=fr FD D (.head _) (k₁₀ D (.head _)).1 (k₁₀ D (.head _)).2.1
  refine append_at ((k₁₀ D (.head _)).2.2.trans hD) (λh₆ hs₆ hD₆=>?_) (by rw[List.size_toArray,<-racc.length];exact Nat.le_trans (Nat.le_of_lt hz) (by decide))
  refine nx _ g₆ m' (acc++[y']) (c+1) (vs++[y]) e' (G₁₀.upd (t:=s₅.toks) FD6 λb o hb he=>(hs₆.2 b hb).trans he) (λb hb=>fr FD b hb (k₁₀ b hb).1 (k₁₀ b hb).2.1) (λb hb=>(hs₆.2 b λq=>hDL (q▸hb)).trans (k₁₀ b (.tail _ hb)).2.2) (List.push_toArray ..▸hD₆) racc' (Nat.le_of_eq (List.length_append ..)) hk'
theorem zRt{kp:Hp}(C:CxOk n cx){elt t iter:PySem.Expr}{ifs:List PySem.Expr}{pos:Pos}{ns:CN}(ht:cTgt (zC3 (zAk sc.names)) t=some ns)(I:CompIn cx sc cl (cnN ns))
  {B':Loc->(Option DV->Mt->Prop)->Mt->Prop} (hB:zP3 W too n elt ifs sc B')
  {Q:DV->St->Prop} {d:DV} {xs:List DV} (hz:small xs.length) {it:Value} {L:List Addr} {P:Nat->Hp->Mt->Heap->Prop} (It:Iter W d xs t it L P) {D:Addr} {R:Result->Shared->Prop}
  (back:∀{g₂:Hp} {m₂:Mt} {s₂:Shared},Ext g g₂->Good W (cxH cx kp sc cl Cc) g₂ ⟨V.loc,m₂⟩ s₂->Good W cx g₂ ⟨V.loc,m₂⟩ s₂) (hcb:∀ h',CxOk n (cxB cx kp sc cl Cc (D::L) h')) (hCD:Cc≠D) (Gh:Good W (cxH cx (kp) sc cl Cc) g V s) (hF:∀ b∈D::L,Free (cxH cx (kp) sc cl Cc) g V.mu b) (hDL:D∉L) (FD:Free cx g V.mu D) (FC:Free cx g V.mu Cc) (hDs:W.h₀.objs.size<=D)
  (hP:P 0 g V.mu s.heap) (hD:s.heap.get? D=some (listOf #[] 0))
  (h:zL7 ns B' Q d xs V.loc xs [] V.mu)
  (hfin:∀ g' m acc s₁,Ext g g'->Good W cx g' ⟨V.loc,m.set D (.lst acc)⟩ s₁->m D=none->newL acc Q ⟨V.loc,m⟩->Free cx g' (m.set D (.lst acc)) Cc->(∃ mm,s₁.heap.Ns Cc mm)->R (.ok .next) s₁) :
  codeAny W.M cx.A (.compLoop (.ListComp elt [⟨t,iter,ifs,0⟩] sc pos) 0 it (.ref D) (compEnvC sc cl Cc cx.env)) R s:=by
 obtain⟨N,hN⟩: ∃ N,N=xs.length+1:=⟨_,rfl⟩
 refine yCw rfl (λk s'=>∃ i g' m,∃ acc c vs,(k+i=N/\i<=xs.length/\acc.length<=i)/\Ext g g'/\Good W (cxH cx kp sc cl Cc) g' ⟨V.loc,m⟩ s'/\(∀ b∈D::L,Free (cxH cx kp sc cl Cc) g' m b)/\P i g' m s'.heap/\
  (s'.heap.get? D=some (listOf (List.toArray vs) c)/\RepL g' acc vs)/\zL7 ns B' Q d xs V.loc (xs.drop i) acc m) (λk s' hR=>?_) N
  ⟨0,g,V.mu,[],0,[],⟨rfl,Nat.zero_le _,Nat.zero_le _⟩,Ext.rfl,Gh,hF,hP,⟨hD,.nil⟩,h⟩
 refine hR.elim λi hR=>hR.elim λg' hR=>hR.elim λm hR=>e37 (λacc c vs q1 e G' F' hP' q2 h'=>?_) hR
 by_cases hl:i=xs.length
 ·rw[hl]at hP' h'
  refine It.done (cx:=cxH cx kp sc cl Cc) (V:=⟨V.loc,m⟩) C.room.h G' (λb hb=>F' b (.tail _ hb)) hP' λs₁ G₁ k₁=>?_
  rw[List.drop_length]at h'
  have F:=F' D (.head _)
  refine hfin g' m acc s₁ e ((back e G₁).adopt ⟨F.fg,F.fm,FD.fk,FD.fl,FD.fc⟩ (k₁ D hDL _ q2.1) (.lst q2.2) hDs) F.fm h'.2 ⟨G₁.frm.apart.1,(Mt.set_ne _ _ hCD).trans G₁.frm.apart.2.2,FC.fk,FC.fl,FC.fc⟩ (G₁.frm.ns.imp λmm q=>q.1)
 ·have hi':=Nat.lt_of_le_of_ne q1.2.1 hl
  rw[List.drop_eq_getElem_cons hi']at h'
  refine It.item (cx:=cxH cx kp sc cl Cc) (V:=⟨V.loc,m⟩) C.room.h G' (λb hb=>F' b (.tail _ hb)) hP' (List.getElem?_eq_getElem hi') λv s₁ hgo=>?_
  refine hgo _ _ λg₂ s₂ e₂ G₂ P₂ rv hnew k₂=>?_
  have hD₂:=k₂ D hDL _ q2.1
  have hobjs:∀ b∈D::L,∃ o,s₂.heap.get? b=some o/\isD o=false:=λb hb=>(List.mem_cons.mp hb).elim (λe=>⟨_,e▸hD₂,rfl⟩) (It.objs P₂ b)
  have was:∀ b∈D::L,∃ o,s'.heap.get? b=some o:=λb hb=>(List.mem_cons.mp hb).elim (λe=>⟨_,e▸q2.1⟩) λhb=>(It.objs hP' b hb).imp λU q=>q.1
  have F₂:∀ b∈D::L,Free (cxH cx kp sc cl Cc) g₂ m b:=λb hb=>by
   have f:=F' b hb
   refine⟨?_,f.fm,f.fk,f.fl,f.fc⟩
   cases q:g₂ b with
   |none=>rfl
   |some o=>exact(hnew b o q).elim (λq'=>zA2 (f.fg.symm.trans q')) λq'=>(was b hb).elim λo' ho'=>zA2 (q'.symm.trans ho')
  refine zVl ht I hB (hcb _) G₂ (back (e.trans e₂) G₂) F₂ hDL hobjs rv hD₂ (q2.2.mono e₂) (Nat.lt_of_le_of_lt q1.2.2 (Nat.lt_of_lt_of_le hi' hz)) (F:=λacc m=>zL7 ns B' Q d xs V.loc (xs.drop (i+1)) acc m) h'.2 λs₃ g₃ m₃ acc₃ c₃ vs₃ e₃ G₃ F₃ k₃ hD₃ r₃ l₃ h₃=>?_
  cases k with
  |zero=>exact(Nat.not_succ_le_self xs.length (Nat.le_trans (Nat.le_of_eq (hN.symm.trans (q1.1.symm.trans (Nat.zero_add i)))) q1.2.1)).elim
  |succ k=>exact⟨k,Nat.lt_succ_self k,i+1,g₃,m₃,acc₃,c₃,vs₃,⟨by rw[<-q1.1,Nat.succ_add_eq_add_succ],hi',Nat.le_trans l₃ (Nat.succ_le_succ q1.2.2)⟩,e.trans (e₂.trans e₃),G₃,F₃,It.back P₂ e₃ (zL6 h₃) k₃,⟨hD₃,r₃⟩,h₃⟩
theorem zVk(C:CxOk n cx)(WO:W.Ok){elt t iter:PySem.Expr}{ifs:List PySem.Expr}{pos:Pos}{ns:CN}(ht:cTgt (zC3 (zAk sc.names)) t=some ns)(I:CompIn cx sc cl (cnN ns))
  {B':Loc->(Option DV->Mt->Prop)->Mt->Prop} (hB:zP3 W too n elt ifs sc B')
  {Q:DV->St->Prop} {d:DV} {xs:List DV} (hz:small xs.length) {it:Value} {L:List Addr} {P:Nat->Hp->Mt->Heap->Prop} (It:Iter W d xs t it L P) {D:Addr} {R:Result->Shared->Prop}
  (G₀:Good W cx g V s) (Gh:Good W (cxH cx (kpF cx s) sc cl Cc) g V s) (hF:∀ b∈D::L,Free (cxH cx (kpF cx s) sc cl Cc) g V.mu b) (hDL:D∉L) (FD:Free cx g V.mu D) (FC:Free cx g V.mu Cc) (hDs:W.h₀.objs.size<=D)
  (hP:P 0 g V.mu s.heap) (hD:s.heap.get? D=some (listOf #[] 0))
  (h:zL7 ns B' Q d xs V.loc xs [] V.mu)
  (hfin:∀ g' m acc s₁,Ext g g'->Good W cx g' ⟨V.loc,m.set D (.lst acc)⟩ s₁->m D=none->newL acc Q ⟨V.loc,m⟩->Free cx g' (m.set D (.lst acc)) Cc->(∃ mm,s₁.heap.Ns Cc mm)->R (.ok .next) s₁) :
  codeAny W.M cx.A (.compLoop (.ListComp elt [⟨t,iter,ifs,0⟩] sc pos) 0 it (.ref D) (compEnvC sc cl Cc cx.env)) R s:=
 zRt C ht I hB hz It (λe G=>G₀.back e G.sim) (λh'=>yH9 C I G₀ λb hb=>(hF b hb).fk) (λq=>(hF D (.head _)).fl q.symm) Gh hF hDL FD FC hDs hP hD h hfin
end
end
section
section
variable {W:Wd}{too:Addr}{T:Tb}{n:Nat}{cx:Cx}{X:DV->St->Prop}{V:St}{g g':Hp}{m:Mt}{s s':Shared}{E:Value->Shared->Prop}
theorem yBx(it:ItAt g m d xs I i s.heap)(q:Q (.ref I) s):wpAny W.M A (pyIter (.ref I)) Q E s:=by
 cases it with
 |lst _ _ _ it=>
  exact wpAny_pyIter_listiter it q
 |tup r e ne it=>
  exact wpAny_pyIter_tupleiter it q
 |rng _ _ it=>
  exact wpAny_pyIter_rangeiter it q
theorem zJr:Iter W d xs t (.ref I) [I] (λi g m h=>ItAt g m d xs I i h) where
 item hh G F it hx k:=zUh hh G (F _ (.head _)) it hx λv s₁ G₁ it₁ rv hk=>k v s₁ λE' Q' hq=>zV0 it₁ (hq _ s₁ Ext.rfl G₁ it₁ rv (λb o h=>.inl h) hk)
 done hh G F it k:=zUi hh G (F _ (.head _)) it λs₁ G₁ hk=>k s₁ G₁ hk
 objs it b hb:=by rw[List.mem_singleton]at hb;subst hb;exact it.obj
 back it e hg ho:=it.back e hg (ho _ (.head _))
 self it q:=yBx it q
theorem zIo(C:CxOk n cx)(CA:zAf cx.env)(WO:W.Ok)(ht:cTgt (zC3 (zAk sc.names)) t=some ns)(hsc:scOk cx.kd sc (cnN ns)=true)
  (hcl1:∀ x c,(x,c)∈cl->(x,NameKind.free)∈sc.names/\cx.env.cells.lookup x=some c) (hcl2:∀ x,(x,NameKind.free)∈sc.names->∃ c,cl.lookup x=some c)
  (hB:zP3 W too n elt ifs sc B') (hz:small xs.length) (It:Iter W d xs t it L P)
  (G:Good W cx g V s) (hF:∀ b∈L,Free cx g V.mu b) (hP:P 0 g V.mu s.heap) (hg:zB6 d xs ⟨[],V.mu⟩)
  (h:zL7 ns B' Q d xs V.loc xs [] V.mu)
  (hfin:∀(g':Hp) (m:Mt) (acc:List DV) (s₁:Shared) (D Cc:Addr),Ext g g'->Good W cx g' ⟨V.loc,m.set D (.lst acc)⟩ s₁->Q (.ref D) ⟨V.loc,m.set D (.lst acc)⟩->Free cx g' (m.set D (.lst acc)) Cc->(∃ mm,s₁.heap.Ns Cc mm)->compPost W.M cx.A E use Qf (.ref D) Cc (.ok .next) s₁) :
  wpAny W.M cx.A (newList []) (λacc s₃=>wpAny W.M cx.A (newFunctionEnv sc cx.env.globals cl [] cx.env.qual none .none (some cx.env)) (λcenv s₄=>
   codeAny W.M cx.A (.compStart (.ListComp elt [⟨t,iter,ifs,0⟩] sc pos) 0 it acc {cenv with scope:=relabel sc cx.env}) (compPost W.M cx.A E use Qf acc cenv.locals) s₄) E s₃) E s:=by
 refine e06 (λs1 s2 s3 s4 s5 s6=>?_) (zI5 hsc)
 have I:CompIn cx sc cl (cnN ns):=⟨s1,s2,s3,s4,s5,s6,hcl1,hcl2⟩
 have hObj:∀ b∈L,∃ o,s.heap.get? b=some o:=λb hb=>(It.objs hP b hb).imp λU q=>q.1
 refine wpAny_newObj_type (wpAny_newFunctionEnv (zFy s3) (by intro y hy;simp at hy) (λh₁ hns₁ hsb₁=>?_) s2)
 dsimp only at hns₁ hsb₁ ⊢
 have hC:(s.heap.push {cls:=.type "list",dict:=none,data:=.seq ([]:List Value).toArray}).objs.size=s.heap.objs.size+1:=Heap.size_push ..
 rw[hC]at hns₁ hsb₁ ⊢
 have old:∀ b o,s.heap.get? b=some o->h₁.get? b=some o:=λb o e=>hsb₁.extBut b o (Nat.ne_of_lt (Nat.lt_succ_of_lt (Heap.lt_size e))) (Heap.get?_push_of_some _ (Heap.get?_push_of_some _ e))
 have hD:h₁.get? s.heap.objs.size=some (listOf #[] 0):=hsb₁.extBut _ _ (Nat.ne_of_lt (Nat.lt_succ_self _)) (Heap.get?_push_of_some _ (Heap.get?_push_size _ rfl))
 have G₄:Good W cx g V {s with heap:=h₁,toks:=s.toks+([]:List (Str×Value)).length}:=G.grow old
 have FD:Free cx g V.mu s.heap.objs.size:=G.freeN
 have FC:Free cx g V.mu (s.heap.objs.size+1):=G.free (zC1 (Nat.le_succ _))
 have hkp:∀(b:Addr) (s₄:Shared),Free cx g V.mu b->kpF cx s₄ b=none:=λb s₄ f=>by
  unfold kpF
  rw[if_neg λq=>q.elim f.fl λq=>(List.mem_map.mp q).elim λp q=>f.fc p.1 (by rw[<-q.2];exact q.1)]
  exact f.fk
 have clm:∀ x c,(x,c)∈cl->(x,c)∈cx.env.cells:=λx c hx=>mem_of_lookup (hcl1 x c hx).2
 have hsz:=G.size
 obtain⟨s₁,hs₁⟩: ∃ s₁:Shared,s₁={s with heap:=h₁,toks:=s.toks+([]:List (Str×Value)).length}:=⟨_,rfl⟩
 rw[<-hs₁]at G₄ ⊢
 have hh:s₁.heap=h₁:=by rw[hs₁]
 rw[<-hh]at hns₁ hD old
 have Gh:Good W (cxH cx (kpF cx s₁) sc cl (s.heap.objs.size+1)) g V s₁:=
  ⟨G₄.ext,G₄.simF,⟨⟨_,hns₁,λx d U U h0=>nomatch h0⟩,λx d U U h0=>(nomatch h0),⟨FC.fg,hkp _ _ FC,FC.fm⟩,λx c hxc=>e04 (λc1 c2 c3 q9=>⟨c1,c2,λe=>FC.fc x (by rw[<-show c=s.heap.objs.size+1 from e];exact clm x c hxc),q9⟩) (G₄.frm.capart x c (clm x c hxc))⟩,Nat.le_succ_of_le hsz⟩
 have hF':∀ b∈s.heap.objs.size::L,Free (cxH cx (kpF cx s₁) sc cl (s.heap.objs.size+1)) g V.mu b:=λb hb=>by
  have f:Free cx g V.mu b:=(List.mem_cons.mp hb).elim (λe=>e▸FD) (hF b)
  have hlt:b<s.heap.objs.size+1:=(List.mem_cons.mp hb).elim (λe=>e▸Nat.lt_succ_self _) λhb=>(hObj b hb).elim λo ho=>Nat.lt_succ_of_lt (Heap.lt_size ho)
  exact⟨f.fg,f.fm,hkp _ _ f,Nat.ne_of_lt hlt,λx hx=>f.fc x (clm x b hx)⟩
 have hDL:s.heap.objs.size∉L:=λhm=>(hObj _ hm).elim λo ho=>Nat.lt_irrefl _ (Heap.lt_size ho)
 have hP₄:P 0 g V.mu s₁.heap:=It.back hP Ext.rfl hg λb hb=>(hObj b hb).elim λo ho=>(old b o ho).trans ho.symm
 have loop:=zVk (elt:=elt) (iter:=iter) (pos:=pos) (ifs:=ifs) (B':=B') (R:=compPost W.M cx.A E use Qf (.ref s.heap.objs.size) (s.heap.objs.size+1)) C WO ht I hB hz It G₄ Gh hF' hDL FD FC hsz hP₄ hD h (λg' m acc s₁ e Go hm hn Fc hns=>hfin g' m acc s₁ _ _ e Go (hn _ hm) Fc hns)
 exact codeAny_compStart_list loop (It.self (cx:=cx) hP₄ loop)
theorem zOu(CA:zAf cx.env)(hk:zCe cx.env cx.kd)(hsc:scOk cx.kd sc xs=true):∃ cl,closureFor sc cx.env=pure cl/\(∀ x c,(x,c)∈cl->(x,NameKind.free)∈sc.names/\cx.env.cells.lookup x=some c)/\∀ x,(x,NameKind.free)∈sc.names->∃ c,cl.lookup x=some c:=by
 refine e06 (λs1 U U U s5 U=>?_) (zI5 hsc)
 exact zRu λx hx=>CA x ((hk x (zFi s1 _ hx).1).2.1 (zNf s5 x hx))
theorem yCp(C:CxOk n cx)(CA:zAf cx.env)(WO:W.Ok)(ht:cTgt (zC3 (zAk sc.names)) t=some ns)(hsc:scOk cx.kd sc (cnN ns)=true)(hp:zDm iter=true)
  (hB:zP3 W too n elt ifs sc B')
  (h:EvE W too cx (eval iter cx.env) (λd V=>opt (zE0 V.mu d) λl=>zD4 d/\small l.length/\zL7 ns B' Q d l V.loc l [] V.mu) X V):EvE W too cx (eval (.ListComp elt [⟨t,iter,ifs,0⟩] sc pos) cx.env) Q X V:=λg s G=>by
 refine e13 (λcl hcl hcl1 hcl2=>?_) (zOu CA C.kinds hsc)
 refine e06 (λs1 s2 s3 s4 s5 s6=>?_) (zI5 hsc)
 rw[PySem.eval_ListComp]
 refine wpAny_comprehension_free (g:=⟨t,iter,ifs,0⟩) (gs:=[]) rfl (λx=>zEx hp _ _) hcl s2 (λx hx hl=>by rw[zC7 s1 s4 x hx,hl]) ?_
 show wpAny _ _ (eval iter cx.env) _ _ _
 refine zBl (h g s G) (λv s' g' σ' d e G' rd hd=>?_) λU U x=>x
 refine e14 (λxs hxs hr hz hd=>?_) (zAb hd)
 refine zLd C.room.h G' rd hxs hr λs₁ G₁ U F it=>?_
 refine zIo C CA WO ht hsc hcl1 hcl2 hB hz zJr G₁ (λb hb=>List.mem_singleton.mp hb▸F) it (zL6 hd) hd λg₂ m acc s₂ D Cc e₂ G₂ q FC hns=>?_
 (revert hns;refine e11 λmm hns=>?_)
 refine⟨mm,hns,λh' hs'=>?_⟩
 exact⟨g₂,_,_,e.trans e₂,G₂.upd (t:=s₂.toks) FC λb o hb he=>(hs'.2 b hb).trans he,.ref D,q⟩
theorem zTq{sc:Scope}(ok:zCa sc.names=true){x:Str}(hx:okc x=true)(h:(kinds sc.names).all (λq=>!(Nat.beq q.1 (enc x))||Nat.beq q.2 2||Nat.beq q.2 8)=true):(sc.names.any λ(n,k)=>n==x&&(k==.local||k==.cell))=false:=by
 rw[List.any_eq_false]
 rintro⟨y,k⟩ hy
 have:∀{l:List (Str×NameKind)},(y,k)∈l->(enc y,zLo k)∈kinds l:=by
  intro l
  induction l with
  |nil=>intro h;cases h
  |cons z r ih=>
   intro h
   obtain⟨z1,z2⟩:=z
   rw[zDp]
   rcases List.mem_cons.mp h with e|h
   ·cases e;exact .head _
   ·exact .tail _ (ih h)
 have h1:=List.all_eq_true.mp h _ (this hy)
 simp only[Bool.not_eq_true]
 by_cases e:y=x
 ·subst e
  simp only[zBn,Bool.not_true,Bool.false_or]at h1
  cases k<;>first|(simp[zLo]at h1;done)|(simp;done)|rfl
 ·have:(y==x)=false:=by rw[beq_eq_false_iff_ne];exact e
  rw[this];rfl
theorem yEz(C:CxOk n cx)(CA:zAf cx.env)(WO:W.Ok)(ht:cTgt (zC3 (zAk sc.names)) t=some ns)(hsc:scOk cx.kd sc (cnN ns)=true)(hp:zDm iter=true)
  (hx:zC3 cx.kd x=some (enc x)) (hl:(p.line==vp.line)=true) (hno:(kinds sc.names).all (λq=>!(Nat.beq q.1 (enc x))||Nat.beq q.2 2||Nat.beq q.2 8)=true)
  (hB:zP3 W too n elt ifs sc B')
  (h:EvE W too cx (eval iter cx.env) (λd V=>opt (zE0 V.mu d) λl=>zD4 d/\small l.length/\zL7 ns B' (λd V=>Q none ⟨put V.loc (enc x) d,V.mu⟩) d l V.loc l [] V.mu) X V):EvS W too cx (exec (.Assign [.Name x p] (.ListComp elt [⟨t,iter,ifs,0⟩] sc vp) pos) cx.env) Q X V:=λg s G=>by
 refine e13 (λcl hcl hcl1 hcl2=>?_) (zOu CA C.kinds hsc)
 refine e06 (λs1 s2 s3 s4 s5 s6=>?_) (zI5 hsc)
 refine e03 (λokx U h0=>?_) (zC8 hx)
 have hkx:=(C.kinds x okx).1 h0
 rw[arm_exec_Assign]
 refine wpAny_bind (wpAny_standAt ?_)
 have hsw:swapsWithSole [.Name x p] (.ListComp elt [⟨t,iter,ifs,0⟩] sc vp) pos.line cx.env=pure true:=by
  show(pure (cx.env.blockKind==.function&&cx.env.kindOf x==some .local&&p.line==vp.line&&!(sc.names.any λ(n,k)=>n==x&&(k==.local||k==.cell))):Sem Bool)=_
  rw[zVx C.env.kind,hkx,hl,zTq s1 okx hno]
  rfl
 rw[hsw,pure_bind]
 simp only[if_true]
 show wpAny _ _ ((comprehension (.ListComp elt [⟨t,iter,ifs,0⟩] sc vp) sc cx.env (firstIterPos [⟨t,iter,ifs,0⟩] vp) (newList []) (firstAsync [⟨t,iter,ifs,0⟩]) (firstIter [⟨t,iter,ifs,0⟩] cx.env) (some λv=>assign (.Name x p) cx.env v) >>= λU=>pure ()) >>= λU=>pure Flow.next) _ _ _
 refine wpAny_bind (wpAny_bind ?_)
 refine wpAny_comprehension_free (g:=⟨t,iter,ifs,0⟩) (gs:=[]) rfl (λx=>zEx hp _ _) hcl s2 (λx hx hl=>by rw[zC7 s1 s4 x hx,hl]) ?_
 show wpAny _ _ (eval iter cx.env) _ _ _
 refine zBl (h g s G) (λv s' g' σ' d e G' rd hd=>?_) λU U x=>x
 refine e14 (λxs hxs hr hz hd=>?_) (zAb hd)
 refine zLd C.room.h G' rd hxs hr λs₁ G₁ U F it=>?_
 refine zIo C CA WO ht hsc hcl1 hcl2 hB hz zJr G₁ (λb hb=>List.mem_singleton.mp hb▸F) it (zL6 hd) hd λg₂ m acc s₂ D Cc e₂ G₂ q FC hns=>?_
 refine by_g λkG=>?_
 (revert hns;refine e43 λmm oC es ep hoC hdC hrC=>?_)
 refine kG ?_
 show wpAny _ _ (do standAt p;bindName cx.env x _) _ _ _
 have G₃:=G₂.keep FC hoC
 have CK:=C.keep (I:=Cc) (o:=oC) FC.fk
 refine wpAny_bind (wpAny_standAt (zFg (cx:=cx.keep Cc oC) CK.env CK.kinds G₃ okx h0 (.ref D) λs₃ G₄=>?_))
 refine by_g λkG=>?_
 refine e04 (λG₅ k1 k2 k3=>?_) (G₄.unkeep FC.fk)
 refine e13 (λoC' hC' hd' U=>?_) k3.ns
 refine kG ?_
 refine⟨mm,⟨oC',es,ep,hC',hd'.trans hdC,hrC⟩,λh' hs'=>?_⟩
 refine wpAny_pure (wpAny_pure ⟨g₂,_,e.trans e₂,G₅.upd (I:=Cc) (t:=s₃.toks) ⟨k1,k2,FC.fk,FC.fl,FC.fc⟩ λb o hb he=>(hs'.2 b hb).trans he,q⟩)
end
end
section
open PySem.Builtin.ObjectAttr
theorem zR6(x:Value):refuseLoop x "__setattr__" [.type "Exception",.type "BaseException",.type "object"]=pure ():=by kernel_rfl
structure ExcF(K:Frag)(too rb fI:Addr):Prop where
 cls:∃ nm q N hdct sn sub col dd k0 k1 k2 k3 k5,K.lookup too=some (excClassObj nm q too N [.ref rb] [.ref rb,.type "Exception",.type "BaseException",.type "object"] hdct sn sub false col dd k0 k1 k2 k3 k5 "Exception.__new__")
 mro:∃ cd,clsIn K too=some cd/\cd.mro=[.ref too,.ref rb,.type "Exception",.type "BaseException",.type "object"]/\cd.hasDict=true
 seta:findIn K (.ref too) "__setattr__"=some (some (.builtin "object.__setattr__"))
 geta:findIn K (.ref too) "__getattribute__"=some (some (.builtin "BaseException.__getattribute__"))
 getr:findIn K (.ref too) "__getattr__"=some none
 told:findIn K (.ref too) "told"=some none
 init:findIn K (.ref too) "__init__"=some (some (.ref fI))
 fn:typeIn K (.ref fI)=some (.type "function")
 keep:keepIn K (.ref too)=true
section
variable {prog:Program}{w:World}{A:Around}{E:Value->Shared->Prop}{R:Result->Shared->Prop}{s:Shared}{K:Frag}{too rb fI x:Addr}
theorem ExcF.has(F:ExcF K too rb fI)(X:K.In s.heap)(h:([Value.ref too,.ref rb,.type "Exception",.type "BaseException",.type "object"]:List Value).contains b=true):Looks M s.heap (isSubtype (.ref too) b) true:=by
 refine e13 (λcd hc hm U=>?_) F.mro
 exact looks_mroIn X (by unfold mroIn;rw[hc,Option.bind_some,if_neg (by rw[hm];simp),hm,h])
theorem yCj(F:ExcF K too rb fI)(X:K.In s.heap)(hx:s.heap.get? x=some {cls:=.ref too,data:=.fields vs})
  (h:∀ h' dx tk n,h'.get? x=some {cls:=.ref too,dict:=some dx,data:=.fields vs}->h'.get? dx=some (dictOf [⟨PyData.keyHash w.params "told",.str "told" tk,v⟩] n)->s.heap.get? dx=none->(∀ b o,b≠x->s.heap.get? b=some o->h'.get? b=some o)->Q () {s with heap:=h',toks:=s.toks+2}) :
  wpAny (model prog w) A (setAttr (.ref x) "told" v) Q E s:=by
 obtain⟨hh,g,d,tk,os⟩:=s
 have X:K.In hh:=X
 have hx:hh.get? x=_:=hx
 refine e13 (λcd hc hm hdct=>?_) F.mro
 have I:InstAt hh x {cls:=.ref too,data:=.fields vs} too none:=⟨hx,rfl,rfl,trivial⟩
 refine set_plain X I F.seta ?_
 have SF:=PySem.F.store_object
 have T:Looks (model prog w) hh (typeOf (.ref x)) (.ref too):=I.type
 have sub:Looks (model prog w) hh (isInstance (.ref x) (.type "object")) true:=T.andThen (F.has (s:=⟨hh,g,d,tk,os⟩) (b:=.type "object") X (by simp))
 refine codeAny_call_builtin SF.slot.plain SF.entry (@check_slot (model prog w) _ _ ⟨hh,g,d,tk+1,os⟩ "object.__setattr__" "object" "__setattr__" (.ref x) [.str "told" tk,v] [] _ SF.kind SF.split sub (SF.args (.ref x) (.str "told" tk) v) ?_)
 have hmr:Looks (model prog w) hh (mroOf (.ref too)) cd.mro:=(looks_clsIn X hc).andThen .now
 have L3:Looks (model prog w) hh (storeTaker? none) none:=.now
 rw[osa_eq,refuse_eq]
 refine wpAny_bind (wpAny_bind (T.here (wpAny_bind (hmr.here ?_))))
 rw[hm,refuseLoop_ref,refuseLoop_ref,zR6]
 refine wpAny_pure (wpAny_bind (T.here (wpAny_bind ((looks_findIn X F.told).here (wpAny_bind (L3.here ?_))))))
 show wpAny _ _ (storeInOwnDict (.ref x) (.ref too) (.str "told" tk) "told" v false) _ _ _
 unfold storeInOwnDict
 refine wpAny_bind (wpAny_pure (wpAny_bind ?_))
 show wpAny _ _ (instanceDict x true) _ _ _
 unfold instanceDict
 refine wpAny_bind (wpAny_loadPart hx (wpAny_bind ((looks_clsIn X hc).here ?_)))
 rw[hdct]
 simp only[Bool.not_true,Bool.false_eq_true,if_false]
 rw[if_neg (show ¬ ((false||!typeHasDict (Value.ref too))=true) from Bool.false_ne_true)]
 refine wpAny_bind (wpAny_alloc ?_)
 have hx₁:(hh.push {cls:=.type "dict",data:=.dict #[]}).get? x=some {cls:=.ref too,data:=.fields vs}:=Heap.get?_push_of_some _ hx
 refine wpAny_bind (wpAny_update hx₁ (wpAny_pure ?_))
 have hne:x≠hh.objs.size:=Nat.ne_of_lt (Heap.lt_size hx)
 have hx₂:=Heap.get?_update_self (λo=>({o with dict:=some hh.objs.size}:Obj)) hx₁ rfl
 have D:((hh.push {cls:=.type "dict",data:=.dict #[]}).update x λo=>{o with dict:=some hh.objs.size}).get? hh.objs.size=some {cls:=.type "dict",data:=.dict #[]}:=by
  rw[Heap.get?_update_other _ _ hne];exact Heap.get?_push_size _ rfl
 have keep:∀ b o,b≠x->hh.get? b=some o->((hh.push {cls:=.type "dict",data:=.dict #[]}).update x λo=>{o with dict:=some hh.objs.size}).get? b=some o:=λb o hb e=>by
  rw[Heap.get?_update_other _ _ (Ne.symm hb)];exact Heap.get?_push_of_some _ e
 show wpAny _ _ (storeInDict hh.objs.size (.str "told" tk) "told" v) _ _ ⟨(hh.push {cls:=.type "dict",data:=.dict #[]}).update x λo=>{o with dict:=some hh.objs.size},g,d,tk+1,os⟩
 generalize ((hh.push {cls:=.type "dict",data:=.dict #[]}).update x λo=>{o with dict:=some hh.objs.size})=H at hx₂ D keep ⊢
 unfold storeInDict
 refine wpAny_bind (wpAny_pure (wpAny_bind ?_))
 unfold nsSet
 refine wpAny_bind (wpAny_bind (wpAny_askSetting (wpAny_pure (wpAny_bind (wpAny_mkText (wpAny_bind (wpAny_loadPart D ?_)))))))
 dsimp only
 have c0:(!(#[]:Array DictEntry).any (·.key.isStr "told")&&(#[]:Array DictEntry).any (·.refKey))=false:=by simp
 rw[aRefKeyMayBeTheName_at,c0]
 have D':=Heap.get?_update_self (Obj.putName "told" (PyData.keyHash w.params "told") (.str "told" (tk+1)) v) D (by rfl)
 have e':Obj.putName "told" (PyData.keyHash w.params "told") (.str "told" (tk+1)) v {cls:=.type "dict",data:=.dict #[]}=dictOf [⟨PyData.keyHash w.params "told",.str "told" (tk+1),v⟩] 1:=rfl
 rw[e']at D'
 refine wpAny_updatePart D ?_
 refine wpAny_bind (wpAny_lookBehind D' (pastItsLine_dict (by rw[sizeLine_eq];simp)) ?_)
 refine wpAny_pure (h _ hh.objs.size (tk+1) 1 ?_ D' (zAe hh) λb o hb e=>?_)
 ·rw[Heap.get?_update_other _ _ (Ne.symm hne)];exact hx₂
 ·rw[Heap.get?_update_other _ _ (λq=>by subst q;rw[zAe]at e;cases e)];exact keep b o hb e
theorem yCl(F:ExcF K too rb fI)(X:K.In s.heap)(hx:s.heap.get? x=some ⟨.ref too,some dx,.fields vs,sl⟩)(hd:s.heap.get? dx=some (dictOf es n))
  (hl:getL "told" es=some (some v)) (hv:handedIn v=true) (h:Q v {s with toks:=s.toks+1}):wpAny (model prog w) A (getAttr (.ref x) "told" true) Q E s:=by
 obtain⟨hh,g,d,tk,os⟩:=s
 have X:K.In hh:=X
 have hx:hh.get? x=_:=hx
 refine e13 (λcd hc hm hdct=>?_) F.mro
 have I:InstAt hh x ⟨.ref too,some dx,.fields vs,sl⟩ too (some (dictOf es n)):=⟨hx,rfl,rfl,hd⟩
 have T:Looks (model prog w) hh (typeOf (.ref x)) (.ref too):=I.type
 have L1:=looks_findIn (M:=model prog w) X F.geta
 have L2:=looks_findIn (M:=model prog w) X F.getr
 have L3:=looks_find (M:=model prog w) X I (findObj_own (K:=K) (by unfold hasDictIn;rw[hc];exact hdct) F.told rfl (v:=v) (by rw[lookIn_dict];exact hl))
 have sub:Looks (model prog w) hh (isInstance (.ref x) (.type "BaseException")) true:=T.andThen (F.has (s:=⟨hh,g,d,tk,os⟩) (b:=.type "BaseException") X (by simp))
 have FB:=PySem.F.attr_Exception
 unfold getAttr getAttrBy
 refine wpAny_bind (wpAny_mkText (wpAny_holding (wpAny_bind (T.here (wpAny_bind (L1.here ?_))))))
 show wpAny _ _ (getAttrByItsOwn (.ref x) (.str "told" tk) (.ref too) (.builtin "BaseException.__getattribute__") true true) _ _ _
 unfold getAttrByItsOwn hookBefore
 rw[if_pos (show onTheHeap (Value.ref too)=true from rfl)]
 refine wpAny_bind (L2.here (wpAny_bind (wpAny_attempt (wpAny_holding ?_))))
 show wpAny _ _ (boundAndCalled (.builtin "BaseException.__getattribute__") (.ref x) (.str "told" tk)) _ _ _
 unfold boundAndCalled
 rw[FB.ga.bind]
 refine wpAny_bind (wpAny_pure ?_)
 show wpAny _ _ (call (.builtin "BaseException.__getattribute__") [.ref x,.str "told" tk]) _ _ _
 have hk:builtinKind "BaseException.__getattribute__"=some .slot:=by decide +kernel
 have hsplit:splitId "BaseException.__getattribute__"=some ("BaseException","__getattribute__"):=by decide +kernel
 refine wpAny_call (codeAny_call_builtin FB.ga.plain PySem.F.entry_bexc_ga (@check_slot (model prog w) _ _ ⟨hh,g,d,tk+1,os⟩ "BaseException.__getattribute__" "BaseException" "__getattribute__" (.ref x) [.str "told" tk] [] _ hk hsplit sub (PySem.F.args_bexc_ga _ _) ?_))
 unfold Builtin.«object.__getattribute__»
 have e1:slotArgs "__getattribute__" 1 ⟨[.ref x,.str "told" tk],[]⟩=pure (Value.ref x,[Value.str "told" tk]):=rfl
 rw[e1,pure_bind]
 dsimp only
 have e2:attrName (.str "told" tk)=pure ("told": Str):=rfl
 rw[e2,pure_bind]
 refine wpAny_bind (T.here (wpAny_bind (L3.here ?_)))
 refine wpAny_pure ?_
 show wpAny _ _ (handedOut v) _ _ _
 rw[handedOut_of hv]
 exact wpAny_pure h
end
end
section
section
variable {prog:Program}{w:World}{A:Around}{E:Value->Shared->Prop}{R:Result->Shared->Prop}{h:Heap}{g:Array GenState}{d:Drawn}{t:Nat}{os:OsState}
variable {nm q:Str}{C N rb fI:Addr}{hdct:Bool}{sn:List Str}{sub:List Value}{col:Option Bool}{dd:Option Addr}{k0 k1 k2 k3 k5:Option Value}
noncomputable abbrev zHg(rb:Addr):List Value:=[.ref rb,.type "Exception",.type "BaseException",.type "object"]
theorem zV6(hC:h.get? C=some (excClassObj nm q C N [.ref rb] (zHg rb) hdct sn sub false col dd k0 k1 k2 k3 k5 "Exception.__new__"))
  (hq:Q () ⟨h,g,d,t,os⟩):wpAny M A (checkBuiltinCall "Exception.__new__" ⟨.ref C::rest,[]⟩) Q E ⟨h,g,d,t,os⟩:=by
 have Fn:=PySem.F.excBase_Exception
 have hcont:(Value.ref C::zHg rb).contains (.type "Exception")=true:=by simp
 have hstar:=Fn.noStar
 simp only[checkBuiltinCall,Fn.newKind,Fn.newSplit,Fn.newRow]
 repeat (first|refine wpAny_loadPart_at hC ?_|(refine wpAny_isSubtype_exc hC ?_;rw[hcont])|refine wpAny_staticBase_exc hC ?_|refine wpAny_madeBy_exc hC ?_|simp only[bne_self_eq_false,Bool.false_eq_true,if_false]|wp_step)
 exact hq
theorem yCk(hC:h.get? C=some (excClassObj nm q C N [.ref rb] (zHg rb) hdct sn sub false col dd k0 k1 k2 k3 k5 "Exception.__new__"))
  (hq:R (.ok (.ret (.ref (h.objs.size+1)))) ⟨(h.push {cls:=.type "tuple",data:=.seq rest.toArray}).push
   {cls:=.ref C,data:=.fields #[.ref h.objs.size,.none,.none,.none,.bool false,.none]},g,d,t,os⟩) (hrest:rest.length<=sizeLine) :
  codeAny (model prog w) A (.builtin "Exception.__new__" ⟨.ref C::rest,[]⟩) R ⟨h,g,d,t,os⟩:=by
 have Fn:=PySem.F.excBase_Exception
 have hends:=Fn.ends
 have hcB:(Value.ref C::zHg rb).contains (.type "Exception")=true:=by simp
 have hcA:(Value.ref C::zHg rb).contains (.type "AttributeError")=false:=by simp
 have hcN:(Value.ref C::zHg rb).contains (.type "NameError")=false:=by simp
 refine codeAny_builtinAt Fn.entry ?_
 unfold Builtin.«BaseException.__new__»
 refine PySem.wpAt_bind ?_
 show PySem.wpAt _ _ _ (stack >>= _) _ _ _
 refine PySem.wpAt_bind (PySem.wpAt_stack λp below=>PySem.wpAt_of_wpAny ?_)
 wp_walk
 refine PySem.wpAt_of_wpAny ?_
 rw[Fn.owner]
 repeat (first|with_reducible refine wpAny_madeHere_exc Fn.canon hC ?_|with_reducible refine wpAny_loadPart_at hC ?_|(with_reducible refine wpAny_isSubtype_exc hC ?_;first|rw[hcB]|rw[hcA]|rw[hcN])|wp_step)
 show R _ _
 rw[Heap.size_push]
 exact hq
variable {K:Frag}{too:Addr}
theorem zLk(F:ExcF K too rb fI)(X:K.In h)
  (hq:∀ h' e,Heap.MadeExcOf h h' e (.ref too) rest->
   wpAny (model prog w) A (call (.ref fI) (.ref e::rest)) (λr s'=>r=.none/\Q (.done (.ret (.ref e))) s') E ⟨h',g,d,t,os⟩) (hrest:rest.length<=sizeLine) :
  wpAny (model prog w) A (Builtin.«type.__call__» ⟨.ref too::rest,[]⟩) Q E ⟨h,g,d,t,os⟩:=by
 refine by_g λkG=>?_
 obtain⟨nm,q,N,hdct,sn,sub,col,dd,k0,k1,k2,k3,k5,hK⟩:=F.cls
 have hC:=X _ _ hK
 have Fn:=PySem.F.excBase_Exception
 refine kG ?_
 repeat (first|with_reducible refine wpAny_loadPart_at hC ?_|with_reducible refine wpAny_madeBy_exc hC ?_|wp_step)
 refine codeAny_call_builtin_code (Code.quiet_builtin _ Fn.quiet) (zV6 hC ?_)
 refine yCk hC ?_ hrest
 show wpAny _ _ _ _ _ _
 have keep:∀ b o,h.get? b=some o->((h.push {cls:=.type "tuple",data:=.seq rest.toArray}).push {cls:=.ref too,data:=.fields #[.ref h.objs.size,.none,.none,.none,.bool false,.none]}).get? b=some o:=λb o e=>Heap.get?_push_of_some _ (Heap.get?_push_of_some _ e)
 have hC₁:=keep _ _ hC
 have X₁:K.In ((h.push {cls:=.type "tuple",data:=.seq rest.toArray}).push {cls:=.ref too,data:=.fields #[.ref h.objs.size,.none,.none,.none,.bool false,.none]}):=X.keeps keep
 have hget:((h.push {cls:=.type "tuple",data:=.seq rest.toArray}).push
   {cls:=.ref too,data:=.fields #[.ref h.objs.size,.none,.none,.none,.bool false,.none]}).get? (h.objs.size+1)=some
   {cls:=.ref too,data:=.fields #[.ref h.objs.size,.none,.none,.none,.bool false,.none]}:=by heap_get
 have hcC:(Value.ref too::zHg rb).contains (.ref too)=true:=by simp
 unfold isInstance
 repeat (first|with_reducible refine wpAny_loadPart_at hget ?_|(with_reducible refine wpAny_isSubtype_exc hC₁ ?_;rw[hcC])|wp_step)
 show wpAny _ _ (typeLookup (.ref too) _) _ _ _
 refine(looks_findIn (M:=model prog w) X₁ F.init).here ?_
 refine wpAny_holding (wpAny_bind ?_)
 refine(bind_fn (M:=model prog w) X₁ (.ref (h.objs.size+1)) F.fn).here ?_
 refine wpAny_bind (wpAny_mono (hq _ (h.objs.size+1) ⟨keep,Heap.get?_none_of_le (Nat.le_succ _),h.objs.size,hget,Heap.get?_none_of_le (Nat.le_refl _),?_⟩) (λr s' hr=>?_) λU U x=>x)
 ·exact Heap.get?_push_of_some _ (Heap.get?_push_at rfl rfl)
 ·refine by_g λkG=>?_
  obtain⟨rfl,hQ⟩:=hr
  refine kG ?_
  wp_walk
  exact hQ
theorem zYr(F:ExcF K too rb fI)(X:K.In h)
  (hq:∀ h' e,Heap.MadeExcOf h h' e (.ref too) rest->
   wpAny (model prog w) (A.under (.builtin "type.__call__" ⟨.ref too::rest,[]⟩)) (call (.ref fI) (.ref e::rest)) (λr s'=>r=.none/\Q (.ref e) s') E ⟨h',g,d,t,os⟩) (hrest:rest.length<=sizeLine) :
  wpAny (model prog w) A (call (.ref too) rest) Q E ⟨h,g,d,t,os⟩:=by
 refine by_g λkG=>?_
 obtain⟨nm,q,N,hdct,sn,sub,col,dd,k0,k1,k2,k3,k5,hK⟩:=F.cls
 have hC:=X _ _ hK
 have f1:=tc_lookup
 have f2:=tc_bind (.ref too)
 have hT:(⟨h,g,d,t,os⟩: Shared).TypeIs (.ref too) "type":=⟨_,hC,rfl⟩
 refine kG ?_
 refine wpAny_call (codeAny_of_tree ?_)
 show wpAny _ _ (callAny (.ref too) _) _ _ _
 repeat (any_goals (first|assumption|with_reducible refine wpAny_loadPart_at hC ?_|wp_step))
 refine⟨rfl,?_⟩
 refine codeAny_call_builtin_at (Code.quiet_builtin _ (by decide +kernel)) entry_typeCall (wpAny_check_type_call_sub hC (zLk F X (λh' e hm=>?_) hrest))
 exact hq h' e hm
end
end
section
section
variable {W:Wd}{too:Addr}{g kp:Hp}{m:Mt}{s:Shared}{A:Around}{E:Value->Shared->Prop}
def FrK(kp:Hp)(l:List Env):Prop:=∀ env∈l,env.scope.kind≠.module/\∃ L o,env.frame=some L/\kp L=some o/\isD o=true
theorem FrK.funs(S:Sim W g kp m s):∀{l:List Env},FrK kp l->s.heap.FunFrames {s.heap with objs:=#[]} l
 |[],_=>trivial
 |env::r,h=>by
  refine e02 (λh1 q9=>e23 (λL o h2 h3 h4=>?_) q9) (h env (.head _))
  refine e13 (λo' ho' hd U=>?_) ((S.kept L o h3).2.ns)
  refine⟨h1,⟨L,o',h2,?_,ho',λvs q=>?_⟩,FrK.funs S λe he=>h e (.tail _ he)⟩
  ·cases e:Heap.get? {s.heap with objs:=#[]} L with
   |none=>
    rfl
   |some o=>
    exact absurd (Heap.lt_size e) (Nat.not_lt_zero _)
  ·rw[hd]at q;unfold isD at h4;rw[q]at h4;cases h4
theorem FrK.mem(h:FrK kp l)(hb:b∈l.filterMap (·.frame)):∃ o,kp b=some o/\isD o=true:=by
 refine e12 (λenv he hf=>?_) (List.mem_filterMap.mp hb)
 refine e02 (λU q9=>e23 (λL o h2 h3 h4=>?_) q9) (h env he)
 rw[h2]at hf;cases hf
 exact⟨o,h3,h4⟩
theorem zRq(hfr:A.frames=some (env::outer))(K:FrK kp (env::outer))(hf:env.frame=some L)(S:Sim W g kp m s)
  (he:s.heap.get? ea=some ⟨.ref too,some dx,.fields vs,sl⟩) (off:g ea=none/\kp ea=none/\m ea=none) (offd:g dx=none/\kp dx=none/\m dx=none) (hne:dx≠ea) (hdx:s.heap.get? dx=some od) (hsz:1<vs.size)
  (h:∀ h' T ts,Sim W g kp m {s with heap:=h'}->h'.get? ea=some ⟨.ref too,some dx,.fields (vs.setIfInBounds 1 (.ref T)),sl⟩->h'.get? dx=some od->(g T=none/\kp T=none/\m T=none)->T≠ea->T≠dx->
   (∃ oT,h'.get? T=some oT/\oT.data=.fields ts/\ts[3]?=some .none)->Q () {s with heap:=h'}) :
  wpAny W.M A (do let a <-frameOf env;let pl <-entryPlaceOf L hn;let b <-EntryCells.newEntry head a .none (rawInt L) .none pl;setField (.ref ea) 1 b) (λU s'=>wpAny W.M A (setFlight (.ref ea) none) Q E s') E s:=by
 have hFn:∀ b∈(env::outer).filterMap (·.frame),∃ o,kp b=some o/\isD o=true:=λb hb=>K.mem hb
 have notF:∀ b,kp b=none->b∉(env::outer).filterMap (·.frame):=λb hb hm=>by refine e12 (λo ho U=>?_) (hFn b hm);rw[hb]at ho;cases ho
 refine wpAny_bind (wpAny_frameOf_fun hfr (K.funs S) hf λh₁ hs₁=>?_)
 refine wpAny_bind (wpAny_entryPlaceOf λpl hpl=>?_)
 unfold EntryCells.newEntry newFields
 refine wpAny_bind (wpAny_newObj_type ?_ (hpl.sizeOk5 _ _ _ _ _))
 have he₁:h₁.get? ea=some ⟨.ref too,some dx,.fields vs,sl⟩:=(hs₁.2.1 ea (notF ea off.2.1)).trans he
 have hd₁:h₁.get? dx=some od:=(hs₁.2.1 dx (notF dx offd.2.1)).trans hdx
 generalize hTo:({cls:=.type "traceback",dict:=none,data:=.fields ([head,.ref L,.none,rawInt L,.none]++(if pl.isEmpty then List.replicate 6 Value.none else pl)).toArray}:Obj)=oT
 have hTd:oT.data=.fields ([head,.ref L,.none,rawInt L,.none]++(if pl.isEmpty then List.replicate 6 Value.none else pl)).toArray:=by rw[<-hTo]
 have hTf:oT.isFreed=false:=by rw[<-hTo];rfl
 have hTs:oT={cls:=oT.cls,dict:=oT.dict,data:=oT.data,slots:=oT.slots}:=rfl
 have he₂:=Heap.get?_push_of_some (h:=h₁) oT he₁
 have hd₂:=Heap.get?_push_of_some (h:=h₁) oT hd₁
 have hT₂:(h₁.push oT).get? h₁.objs.size=some oT:=Heap.get?_push_size h₁ hTf
 have hszs:h₁.objs.size=s.heap.objs.size:=hs₁.1
 have hTe:h₁.objs.size≠ea:=Nat.ne_of_gt (Heap.lt_size he₁)
 have hTdx:h₁.objs.size≠dx:=Nat.ne_of_gt (Heap.lt_size hd₁)
 refine wpAny_setField he₂ rfl hsz ?_
 have he₃:=Heap.get?_update_self (Obj.mapFields (·.setIfInBounds 1 (Value.ref h₁.objs.size))) he₂ rfl
 have hd₃:=(Heap.get?_update_other (h₁.push oT) (Obj.mapFields (·.setIfInBounds 1 (Value.ref h₁.objs.size))) (Ne.symm hne)).trans hd₂
 have hT₃:=(Heap.get?_update_other (h₁.push oT) (Obj.mapFields (·.setIfInBounds 1 (Value.ref h₁.objs.size))) (Ne.symm hTe)).trans hT₂
 unfold setFlight
 refine wpAny_bind (wpAny_field he₃ rfl (x:=.ref h₁.objs.size) (by simp[hsz]) ?_)
 rw[if_pos (show(Value.ref h₁.objs.size != Value.none)=true from by simp)]
 refine wpAny_setField hT₃ hTd (by simp only[List.size_toArray,List.length_append,List.length_cons,List.length_nil]<;>omega) ?_
 have keep:∀ b o,b≠ea->h₁.get? b=some o->(((h₁.push oT).update ea (Obj.mapFields (·.setIfInBounds 1 (Value.ref h₁.objs.size)))).update h₁.objs.size (Obj.mapFields (·.setIfInBounds 3 ((none:Option Addr).elim Value.none λf=>rawInt f)))).get? b=some o:=λb o hbe hb=>by
  have hbT:h₁.objs.size≠b:=Nat.ne_of_gt (Heap.lt_size hb)
  rw[Heap.get?_update_other _ _ hbT,Heap.get?_update_other _ _ (Ne.symm hbe)]
  exact Heap.get?_push_of_some _ hb
 have keepS:∀ b o,b≠ea->kp b=none->s.heap.get? b=some o->h₁.get? b=some o:=λb o hbe hk hb=>(hs₁.2.1 b (notF b hk)).trans hb
 have hTn:s.heap.get? h₁.objs.size=none:=by rw[hszs];exact zAe _
 refine h _ h₁.objs.size _ ⟨S.base,λb o hb=>?_,λb o hb=>?_,λb o hb=>?_,S.mabove,S.gens,S.os⟩ ?_ (keep dx od hne hd₁) ⟨S.gnone hTn,S.knone hTn,S.mnone hTn⟩ hTe hTdx ⟨_,Heap.get?_update_self _ hT₃ (Obj.isFreed_of_fields (Obj.data_mapFields hTd _)),Obj.data_mapFields hTd _,?_⟩
 ·have hbe:b≠ea:=λq=>by subst q;rw[off.1]at hb;cases hb
  refine keep b o hbe ?_
  have hbk:kp b=none:=by
   cases q:kp b with
   |none=>
    rfl
   |some o'=>
    have:=(S.kept b o' q).1;rw[hb]at this;cases this
  exact keepS b o hbe hbk (S.frz b o hb)
 ·have hbe:b≠ea:=λq=>by subst q;rw[off.2.1]at hb;cases hb
  refine e02 (λk1 k2=>?_) (S.kept b o hb)
  refine⟨k1,?_⟩
  by_cases hm:b∈(env::outer).filterMap (·.frame)
  ·refine e12 (λo₂ ho₂ hdd=>?_) (hFn b hm)
   rw[hb]at ho₂;cases ho₂
   rcases k2 with q|⟨_,sl',q⟩
   ·refine e11 (λsl₂ q₂=>?_) (hs₁.2.2 b _ q)
    exact .inr ⟨hdd,sl₂,keep b _ hbe q₂⟩
   ·refine e11 (λsl₂ q₂=>?_) (hs₁.2.2 b _ q)
    exact .inr ⟨hdd,sl₂,keep b _ hbe q₂⟩
  ·rcases k2 with q|⟨hdd,sl',q⟩
   ·exact .inl (keep b _ hbe ((hs₁.2.1 b hm).trans q))
   ·exact .inr ⟨hdd,sl',keep b _ hbe ((hs₁.2.1 b hm).trans q)⟩
 ·refine e03 (λk1 k2 q9=>e12 (λob k3 k4=>?_) q9) (S.muts b o hb)
  have hbe:b≠ea:=λq=>by subst q;rw[off.2.2]at hb;cases hb
  exact⟨k1,k2,ob,keep b ob hbe (keepS b ob hbe k2 k3),k4⟩
 ·rw[Heap.get?_update_other _ _ hTe];exact he₃
 ·first|(simp;done)|(rcases hpl with rfl|⟨_,_,_,_,_,_,_,rfl⟩<;>simp)
theorem zMw(hfr:A.frames=some (env::outer))(K:FrK kp (env::outer))(hf:env.frame=some L)(S:Sim W g kp m s)(x:Exc g kp m too ea d s)
  (h:∀ s',Sim W g kp m s'->Exc g kp m too ea d s'->Q () s'):wpAny W.M A (noteFrame (.ref ea) env) (λU s₂=>wpAny W.M A (setFlight (.ref ea) none) Q E s₂) E s:=by
 refine by_g λkG=>?_
 obtain⟨off,dx,vs,sl,es,n,o1,o2,o3,o4,o5,o6,o7⟩:=x
 have fin:∀(s₀:Shared) (head:Value) (hn:Bool),Sim W g kp m s₀->s₀.heap.get? ea=some ⟨.ref too,some dx,.fields vs,sl⟩->s₀.heap.get? dx=some (dictOf es n)->
   wpAny W.M A (do let a <-frameOf env;let pl <-entryPlaceOf L hn;let b <-EntryCells.newEntry head a .none (rawInt L) .none pl;setField (.ref ea) 1 b) (λU s'=>wpAny W.M A (setFlight (.ref ea) none) Q E s') E s₀:=λs₀ head hn S₀ p1 p2=>
  zRq hfr K hf S₀ p1 off o4 o5 p2 o6 λh' T ts S' q1 q2 q3 q4 q5 q=>q.elim λoT q=>h _ S' ⟨off,dx,_,sl,es,n,q1,q2,o3,o4,o5,by simpa using o6,.inr ⟨T,oT,ts,by simp[o6],q3,q4,q5,q.1,q.2.1,q.2.2⟩⟩
 refine kG ?_
 unfold noteFrame
 simp only[hf]
 rcases o7 with o7|⟨T,oT,ts,t1,⟨t2,t3,t4⟩,t5,t6,t7,t8,t9⟩
 ·refine wpAny_bind (wpAny_field o1 rfl o7 ?_)
  rw[if_neg (by decide)]
  exact fin s _ _ S o1 o2
 ·refine wpAny_bind (wpAny_field o1 rfl t1 ?_)
  rw[if_pos (show(Value.ref T != Value.none)=true from by simp)]
  refine wpAny_bind (wpAny_field t7 t8 t9 ?_)
  rw[if_neg (show ¬ ((Value.none==rawInt L)=true) from by simp[rawInt])]
  refine wpAny_bind (wpAny_setField t7 t8 (Array.getElem?_eq_some_iff.mp t9).1 ?_)
  have other:∀ b o,b≠T->s.heap.get? b=some o->(s.heap.update T (Obj.mapFields (·.setIfInBounds 3 Value.none))).get? b=some o:=λb o hb e=>(Heap.get?_update_other _ _ (Ne.symm hb)).trans e
  refine fin _ _ _ ⟨S.base,λb o hb=>other b o (λq=>by subst q;rw[t2]at hb;cases hb) (S.frz b o hb),λb o hb=>?_,λb o hb=>?_,S.mabove,S.gens,S.os⟩ (other _ _ (Ne.symm t5) o1) (other _ _ (Ne.symm t6) o2)
  ·refine e02 (λk1 k2=>?_) (S.kept b o hb)
   exact⟨k1,k2.other λo' e=>other b o' (λq=>by subst q;rw[t3]at hb;cases hb) e⟩
  ·refine by_g λkG=>?_
   refine e03 (λk1 k2 q9=>e12 (λob k3 k4=>?_) q9) (S.muts b o hb)
   refine kG ?_
   exact⟨k1,k2,ob,other b ob (λq=>by subst q;rw[t4]at hb;cases hb) k3,k4⟩
theorem zRf(hfr:A.frames=some (env::outer))(K:FrK kp (env::outer))(hf:env.frame=some L)(S:Sim W g kp m s)(x:Exc g kp m too ea d s)
  (h:∀ s',Sim W g kp m s'->Exc g kp m too ea d s'->Q () s'):wpAny W.M A (leaving env (.ref ea)) Q E s:=by
 unfold leaving
 exact wpAny_bind (zMw hfr K hf S x h)
theorem zOp(S:Sim W g kp m s)(x:Exc g kp m too ea d s)(h:∀ s',Sim W g kp m s'->Exc g kp m too ea d s'->Q () s'):wpAny W.M A (setFlight (.ref ea) none) Q E s:=by
 obtain⟨off,dx,vs,sl,es,n,o1,o2,o3,o4,o5,o6,o7⟩:=x
 unfold setFlight
 rcases o7 with o7|⟨T,oT,ts,t1,⟨t2,t3,t4⟩,t5,t6,t7,t8,t9⟩
 ·refine wpAny_bind (wpAny_field o1 rfl o7 ?_)
  rw[if_neg (by decide)]
  exact wpAny_pure (h s S ⟨off,dx,vs,sl,es,n,o1,o2,o3,o4,o5,o6,.inl o7⟩)
 ·refine wpAny_bind (wpAny_field o1 rfl t1 ?_)
  rw[if_pos (show(Value.ref T != Value.none)=true from by simp)]
  have hsz:=(Array.getElem?_eq_some_iff.mp t9).1
  refine wpAny_setField t7 t8 hsz ?_
  have other:∀ b o,b≠T->s.heap.get? b=some o->(s.heap.update T (Obj.mapFields (·.setIfInBounds 3 Value.none))).get? b=some o:=λb o hb e=>(Heap.get?_update_other _ _ (Ne.symm hb)).trans e
  have hT:=Heap.get?_update_self (Obj.mapFields (·.setIfInBounds 3 Value.none)) t7 (Obj.isFreed_of_fields (Obj.data_mapFields t8 _))
  refine h _ ⟨S.base,λb o hb=>other b o (λq=>by subst q;rw[t2]at hb;cases hb) (S.frz b o hb),λb o hb=>?_,λb o hb=>?_,S.mabove,S.gens,S.os⟩ ⟨off,dx,vs,sl,es,n,other _ _ (Ne.symm t5) o1,other _ _ (Ne.symm t6) o2,o3,o4,o5,o6,.inr ⟨T,_,_,t1,⟨t2,t3,t4⟩,t5,t6,hT,Obj.data_mapFields t8 _,by simp[hsz]⟩⟩
  ·refine e02 (λk1 k2=>?_) (S.kept b o hb)
   exact⟨k1,k2.other λo' e=>other b o' (λq=>by subst q;rw[t3]at hb;cases hb) e⟩
  ·refine e03 (λk1 k2 q9=>e12 (λob k3 k4=>?_) q9) (S.muts b o hb)
   exact⟨k1,k2,ob,other b ob (λq=>by subst q;rw[t4]at hb;cases hb) k3,k4⟩
end
end
section
structure FnK(W:Wd)(f:Addr)(fd:FuncData)(body:List Stmt):Prop where
 at_:∃ o,W.K.lookup f=some o/\o.data=.func fd
 body:fd.body=.stmts body
 code:codeIn W.K fd.code fd.qualname=true
 clo:fd.closure=[]
 co:fd.scope.isCoroutine=false
 gen:fd.scope.isGenerator=false
 kind:fd.scope.kind=.function
 gl:fd.globals=mainGlobals
 bi:fd.builtins=builtinsNs
 names:zCa fd.scope.names=true
 dis:zBd ((kinds fd.scope.names).map (·.1))=true
 nofree:∀ x∈fd.scope.names,x.2≠.free
theorem zDt:∀(l:List (Str×NameKind)) (n:Nat) (acc:List (Str×Addr)),(cellsFrom n l acc).map (·.1)=((l.filter λx=>x.2==.cell).map (·.1)).reverse++acc.map (·.1)
 |[],n,acc=>by simp[cellsFrom]
 |(x,k)::r,n,acc=>by
  unfold cellsFrom
  rw[List.filter_cons]
  cases h:k==NameKind.cell with
  |true=>
   simp only[if_true];rw[zDt r];simp
  |false=>
   simp only[Bool.false_eq_true,if_false];rw[zDt r]
theorem zRh:∀{l:List (Str×NameKind)},zCa l=true->zBd ((kinds l).map (·.1))=true->(l.map (·.1)).Nodup:=by
 intro l ok hd
 have nd:=zBw hd
 have e:(kinds l).map (·.1)=(l.map (·.1)).map enc:=by
  clear ok hd nd
  induction l with
  |nil=>rfl
  |cons x r ih=>obtain⟨a,b⟩:=x;rw[zDp,List.map_cons,ih];rfl
 rw[e]at nd
 exact List.Pairwise.of_map enc (λa b hab e=>hab (by rw[e])) nd
theorem zG1{α:Type}:∀{l:List (Str×α)} {x:Str} {c:α},(l.map (·.1)).Nodup->(x,c)∈l->l.lookup x=some c
 |[],_,_,_,h=>by cases h
 |(y,d)::r,x,c,nd,h=>by
  rw[List.map_cons,List.nodup_cons]at nd
  rw[List.lookup_cons]
  rcases List.mem_cons.mp h with e|h'
  ·cases e;simp
  ·have:(x==y)=false:=by
    rw[beq_eq_false_iff_ne];intro e;subst e
    exact nd.1 (List.mem_map.mpr ⟨_,h',rfl⟩)
   rw[this];exact zG1 nd.2 h'
theorem zC6{α:Type}:∀{l:List (Str×α)} {x:Str},x∈l.map (·.1)->∃ c,l.lookup x=some c
 |[],_,h=>by cases h
 |(y,d)::r,x,h=>by
  rw[List.lookup_cons]
  cases e:x==y with
  |true=>exact⟨d,rfl⟩
  |false=>
   rw[List.map_cons]at h
   rcases List.mem_cons.mp h with q|h
   ·rw[beq_eq_false_iff_ne]at e;exact absurd q e
   ·exact zC6 h
theorem zZ7{kindOf:Str->Option NameKind}:∀{ns:List Str} {vs:List Value} {m:Str->Option Value} {x:Str} {v:Value},ns.Nodup->(x,v)∈ns.zip vs->kindOf x=some .local->bindL kindOf (ns.zip vs) m x=some v:=by
 have other:∀(ns:List Str) (vs:List Value) (m:Str->Option Value) (x:Str),x∉ns->bindL kindOf (ns.zip vs) m x=m x:=by
  intro ns
  induction ns with
  |nil=>intro vs m x _;simp[bindL]
  |cons n ns ih=>
   intro vs m x hx
   cases vs with
   |nil=>simp[bindL]
   |cons v vs=>
    simp only[List.zip_cons_cons,bindL]
    rw[ih vs _ x (λh=>hx (.tail _ h))]
    split
    ·show(if x=n then some v else m x)=m x;rw[if_neg (λe=>hx (by rw[e];exact .head _))]
    ·rfl
 intro ns
 induction ns with
 |nil=>intro vs m x v _ h;simp at h
 |cons n ns ih=>
  intro vs m x v nd h hk
  rw[List.nodup_cons]at nd
  cases vs with
  |nil=>simp at h
  |cons w vs=>
   simp only[List.zip_cons_cons]at h ⊢
   simp only[bindL]
   rcases List.mem_cons.mp h with e|h
   ·cases e
    rw[other _ _ _ _ nd.1,if_pos hk];simp
   ·exact ih nd.2 h hk
theorem zZ8{kindOf:Str->Option NameKind}:∀{ns:List Str} {vs:List Value} {m:Str->Option Value} {x:Str} {v:Value},ns.Nodup->(x,v)∈ns.zip vs->kindOf x≠some .local->PySem.bindC kindOf (ns.zip vs) m x=some v:=by
 have other:∀(ns:List Str) (vs:List Value) (m:Str->Option Value) (x:Str),x∉ns->PySem.bindC kindOf (ns.zip vs) m x=m x:=by
  intro ns
  induction ns with
  |nil=>intro vs m x _;simp[PySem.bindC]
  |cons n ns ih=>
   intro vs m x hx
   cases vs with
   |nil=>simp[PySem.bindC]
   |cons v vs=>
    simp only[List.zip_cons_cons,PySem.bindC]
    rw[ih vs _ x (λh=>hx (.tail _ h))]
    split
    ·rfl
    ·show(if x=n then some v else m x)=m x;rw[if_neg (λe=>hx (by rw[e];exact .head _))]
 intro ns
 induction ns with
 |nil=>intro vs m x v _ h;simp at h
 |cons n ns ih=>
  intro vs m x v nd h hk
  rw[List.nodup_cons]at nd
  cases vs with
  |nil=>simp at h
  |cons w vs=>
   simp only[List.zip_cons_cons]at h ⊢
   simp only[PySem.bindC]
   rcases List.mem_cons.mp h with e|h
   ·cases e
    rw[other _ _ _ _ nd.1,if_neg hk];simp
   ·exact ih nd.2 h hk
theorem zNr{g:Hp}:∀{ns:List Str} {ds:List DV} {vs:List Value} {x:Str} {d:DV},(∀ y∈ns,okc y=true)->okc x=true->RepL g ds vs->look ((ns.map enc).zip ds) (enc x)=some d->∃ v,(x,v)∈ns.zip vs/\Rep g d v
 |[],_,_,_,_,_,_,_,h=>by simp[look]at h
 |_::_,_,_,_,_,_,_,.nil,h=>by simp[look]at h
 |n::ns,d'::ds,v::vs,x,d,hn,hx,.cons h1 r,h=>by
  simp only[List.map_cons,List.zip_cons_cons,look]at h
  by_cases e:enc n=enc x
  ·rw[e,zBn]at h
   cases h
   have:n=x:=zBz (hn n (.head _)) hx e
   subst this
   exact⟨v,.head _,h1⟩
  ·rw[zA9 e]at h
   refine e12 (λw a b=>?_) (zNr (λy hy=>hn y (.tail _ hy)) hx r h)
   exact⟨w,.tail _ a,b⟩
section
variable {W:Wd}{too:Addr}{n:Nat}{X:DV->Mt->Prop}{Q:DV->Mt->Prop}
theorem Sim.grow{g kp:Hp}{m:Mt}{s:Shared}(S:Sim W g kp m s){h':Heap}{tk:Nat}(k:∀ b o,s.heap.get? b=some o->h'.get? b=some o):Sim W g kp m {s with heap:=h',toks:=tk} where
 base:=S.base
 frz b o h:=k b o (S.frz b o h)
 kept b o h:=⟨(S.kept b o h).1,(S.kept b o h).2.other λo' e=>k b o' e⟩
 muts b o h:=let ⟨a,b',ob,c,d⟩:=S.muts b o h;⟨a,b',ob,k _ _ c,d⟩
 mabove:=S.mabove
 gens:=S.gens
 os:=S.os
theorem yDa{f:Addr}{fd:FuncData}{body:List Stmt}(WO:W.Ok)(FK:FnK W f fd body){ns:List Str}{ds dfl:List DV}{dvs:List Value}{m:Mt}(hns:ns.length=ds.length+dfl.length)(hin:∀ x∈ns,okc x=true/\∃ k,fd.scope.names.lookup x=some k/\(k=.local\/k=.cell))(nd:ns.Nodup)
  (hd:RepL W.h₀.get? dfl dvs)
  (hb:∀(s:Shared) (vs:List Value),W.K.In s.heap->vs.length=ds.length->BindsTo s fd ⟨vs,[]⟩ (ns.zip (vs++dvs)))
  (hbody:∀ cx:Cx,CxOk n cx->StOk cx->zAf cx.env->cx.kd=kinds fd.scope.names->
   EvS W too cx (execs body cx.env) (λr V=>∃ m' d',Fz V.mu (r.getD .none) m' d'/\Q d' m') (λd V=>X d V.mu) ⟨(ns.map enc).zip (ds++dfl),m⟩):zA4 W too (n+1) f ds m Q X:=by
 intro A g kp s vs room frames hsize S r
 have hK:W.K.In s.heap:=WO.kin.keeps S.ext
 refine e12 (λo ho hdata=>?_) FK.at_
 have r2:RepL g (ds++dfl) (vs++dvs):=r.append (hd.mono S.base)
 have knodup:=zRh FK.names FK.dis
 (revert room;refine e03 λroom1 room2 room3=>?_)
 refine codeAny_call_function (by omega) (hK _ _ ho) hdata FK.co FK.gen FK.body (codeRec_of hK FK.code) (hb s vs hK r.length.symm _ _ _ _ ?_)
 rw[FK.clo]
 refine wpAny_newFunctionEnv_cells FK.kind (λx hx=>?_) λenv he s' x=>?_
 ·refine e02 (λhxok q9=>e12 (λk hk hkk=>?_) q9) (hin x.1 (List.of_mem_zip (by exact hx)).1)
  rcases hkk with rfl|rfl
  ·exact .inl hk
  ·refine .inr ⟨hk,?_⟩
   have:x.1∈(cellsFrom (s.heap.objs.size+1) fd.scope.names []).map (·.1):=by
    rw[zDt]
    simp only[List.map_nil,List.append_nil,List.mem_reverse,List.mem_map,List.mem_filter]
    exact⟨(x.1,.cell),⟨zBa hk,rfl⟩,rfl⟩
   refine e11 (λc hc=>?_) (zC6 this)
   rw[hc];rfl
 have hkind:∀ y,env.kindOf y=fd.scope.names.lookup y:=λy=>by rw[he];rfl
 have hloc:env.locals=s.heap.objs.size:=by rw[he];rfl
 have hframe:env.frame=some env.locals:=by rw[he];rfl
 have hcells:env.cells=cellsFrom (s.heap.objs.size+1) fd.scope.names []:=by rw[he];rfl
 have hskind:env.scope.kind=.function:=by rw[he];exact FK.kind
 refine e22 (λh' tk hs' keep=>?_) x.done
 subst hs'
 have hnoL:s.heap.get? env.locals=none:=by rw[hloc];exact zAe _
 have hcK:(env.cells.map (·.1)).Nodup:=by
  rw[hcells,zDt]
  simp only[List.map_nil,List.append_nil]
  rw[List.Nodup,List.pairwise_reverse]
  exact(knodup.sublist (List.Sublist.map _ List.filter_sublist)).imp λh e=>h e.symm
 have hcN:∀ y c,(y,c)∈env.cells->s.heap.get? c=none:=λy c hyc=>zC1 (by have:=x.above y c hyc;rw[hloc]at this;exact Nat.le_of_lt this)
 have cellAt:zAf env:=λy hy=>by
  have hy':fd.scope.names.lookup y=some .cell:=by
   rw[hkind]at hy
   rcases hy with q|q
   ·exact q
   ·exact absurd rfl (FK.nofree _ (zBa q))
  refine zC6 ?_
  rw[hcells,zDt]
  simp only[List.map_nil,List.append_nil,List.mem_reverse,List.mem_map,List.mem_filter]
  exact⟨(y,.cell),⟨zBa hy',rfl⟩,rfl⟩
 have hkds:zCe env (kinds fd.scope.names):=λy ok=>by
  have lk:=zJq ok FK.names
  rw[hkind]
  refine⟨λe=>?_,λe=>?_,λe=>?_⟩
  all_goals
   rw[lk]at e
   cases hl:fd.scope.names.lookup y with
   |none=>rw[hl]at e;cases e
   |some k=>rw[hl]at e;cases k<;>first|rfl|(cases e;done)|exact .inl rfl|exact .inr rfl
 have hndc:∀ y c,(y,c)∈env.cells->env.cells.lookup y=some c:=λy c h=>zG1 hcK h
 refine⟨WO.nolim.keeps λb o e=>keep b o (S.ext b o e),codeAny_func ?_⟩
 generalize hcx:({A:=A.deeper env,env:=env,kd:=kinds fd.scope.names,kp:=kp,g₀:=g}:Cx)=cx
 have c1:cx.A=A.deeper env:=by rw[<-hcx]
 have c2:cx.env=env:=by rw[<-hcx]
 have c3:cx.kd=kinds fd.scope.names:=by rw[<-hcx]
 have c4:cx.kp=kp:=by rw[<-hcx]
 have c5:cx.g₀=g:=by rw[<-hcx]
 have Sg:Sim W g kp m {s with heap:=h',toks:=tk}:=S.grow keep
 have G:Good W cx g ⟨(ns.map enc).zip (ds++dfl),m⟩ {s with heap:=h',toks:=tk}:=by
  refine⟨by rw[c5];exact Ext.rfl,by rw[c4];exact Sg,⟨⟨_,by rw[c2];exact x.toInCall.ns,λy d ok hl h0=>?_⟩,λy d ok hl h1=>?_,⟨by rw[c2];exact S.gnone hnoL,by rw[c2,c4];exact S.knone hnoL,by rw[c2];exact S.mnone hnoL⟩,λy c hyc=>?_⟩,by rw[c2,hloc];exact hsize⟩
  ·rw[c3]at h0
   refine e12 (λv hv rv=>?_) (zNr (λz hz=>(hin z hz).1) ok r2 hl)
   exact⟨v,zZ7 nd hv ((hkds y ok).1 h0),rv⟩
  ·rw[c3]at h1
   refine e12 (λv hv rv=>?_) (zNr (λz hz=>(hin z hz).1) ok r2 hl)
   have hkc:=(hkds y ok).2.1 h1
   refine e11 (λc hc=>?_) (cellAt y hkc)
   refine⟨c,v,by rw[c2];exact hc,?_,rv⟩
   have:=x.cell y c hc
   rwa [zZ8 nd hv (by rcases hkc with q|q<;>rw[q]<;>simp)]at this
  ·rw[c2]at hyc
   have hn:=hcN y c hyc
   refine⟨S.gnone hn,S.mnone hn,?_,_,x.cell y c (hndc y c hyc)⟩
   rw[c2];have:=x.above y c hyc;exact Nat.ne_of_gt this
 (revert frames;refine e12 λl hl hfr=>?_)
 have hA:cx.A.frames=some (env::l):=by rw[c1];show A.frames.map _=_;rw[hl];rfl
 have C:CxOk n cx:=by
  refine⟨?_,?_,by rw[c2,c3];exact hkds,⟨env::l,hA,λe he=>?_⟩⟩
  ·rw[c2]
   refine⟨λq=>?_,hskind,?_,?_⟩
   ·rw[hkind]at q
    exact(zFi FK.names _ (zBa q)).2 rfl
   ·have:env.globals=fd.globals:=by rw[he];rfl
    rw[this,FK.gl]
   ·have:env.builtins=fd.builtins:=by rw[he];rfl
    rw[this,FK.bi]
  ·rw[c1]
   refine⟨room1,?_,?_⟩
   ·show A.depth+1+2 * n+4<=recursionLimit;exact n54 room2
   ·show A.units+3+8 * n+80<=cLine;omega
  ·rcases List.mem_cons.mp he with rfl|he
   ·exact⟨by rw[hskind];simp,_,hframe,.inl (by rw[c2])⟩
   ·refine e02 (λh1 q9=>e23 (λL o h2 h3 h4=>?_) q9) (hfr e he)
    exact⟨h1,L,h2,.inr ⟨o,by rw[c4];exact h3,h4⟩⟩
 have SO:StOk cx:=by
  refine⟨λy q=>?_,λy q=>?_,λy c hyc=>?_,⟨l,by rw[c2];exact hA,by rw[c2];exact hframe⟩,by rw[c2];exact x.apart⟩
  ·rw[c2,hkind]at q;exact FK.nofree _ (zBa q) rfl
  ·rw[c2]at q ⊢;exact cellAt y (.inl q)
  ·rw[c2]at hyc;rw[c4];exact S.knone (hcN y c hyc)
 have main:=hbody cx C SO (by rw[c2];exact cellAt) c3 g _ G
 rw[c1,c2]at main
 refine wpAny_mono main (λfl s'' p=>?_) λe s'' hx=>?_
 ·cases fl with
  |next=>
   (revert p;refine e23 λg' σ' e G' q9=>e22 (λm' d' hf q=>?_) q9)
   refine e13 (λg'' e' G'' rd=>?_) (zLg (l:=σ'.loc) hf G' (.none:Rep g' .none Value.none))
   exact⟨g'',m',d',e.trans e',by rw[<-c4];exact G''.sim,rd,q⟩
  |ret v=>
   (revert p;refine e34 λg' σ' d e G' r q9=>e22 (λm' d' hf q=>?_) q9)
   refine e13 (λg'' e' G'' rd=>?_) (zLg (l:=σ'.loc) hf G' r)
   exact⟨g'',m',d',e.trans e',by rw[<-c4];exact G''.sim,rd,q⟩
  |brk=>exact p.elim
  |cont=>exact p.elim
 ·obtain⟨ea,g',σ',d,rfl,G',xx,q⟩:=hx
  refine e12 (λl' hl' hfr'=>?_) (G'.frames C)
  rw[hA]at hl'
  cases hl'
  have K:FrK (kpF cx s'') (env::l):=hfr'
  refine zRf (too:=too) (d:=d) (by rw[<-c1];exact hA) K hframe G'.simF xx λs₃ S₃ x₃=>?_
  have Gb:=G'.back Ext.rfl S₃
  refine⟨ea,g',σ'.mu,d,rfl,?_,by rw[<-c4];exact Gb.sim,x₃.off' λb hb=>?_,q⟩
  ·have:=G'.ext;rw[c5]at this;exact this
  ·cases hq:kp b with
   |none=>rfl
   |some o=>
    refine e12 (λo' ho' U=>?_) (zLb G' (by rw[c4];exact hq))
    rw[ho']at hb;cases hb
end
end
section
section
variable {W:Wd}{too rb fI:Addr}{n:Nat}{cx:Cx}{X:DV->St->Prop}{V:St}{g:Hp}{m:Mt}{s:Shared}{A:Around}{E:Value->Shared->Prop}
structure InitF(W:Wd)(fI:Addr)(fd:FuncData):Prop where
 fn:∃ p1 p2 p3 p4,FnK W fI fd [.Assign [.Attribute (.Name "self" p1) "told" p2] (.Name "told" p3) p4]
 nocell:zJl fd.scope.names=true
 l1:fd.scope.names.lookup ("self": Str)=some .local
 l2:fd.scope.names.lookup ("told": Str)=some .local
 binds:∀(s:Shared) (a b:Value),W.K.In s.heap->BindsTo s fd ⟨[a,b],[]⟩ [("self",a),("told",b)]
theorem zYq(WO:W.Ok)(F:ExcF W.K too rb fI)(FI:InitF W fI fd)(hK:∀ b o,W.h₀.get? b=some o->s.heap.get? b=some o)(hroom:A.depth+1<recursionLimit)
  (hq:∀ h' tk ea t dx n tk',(∀ b o,s.heap.get? b=some o->h'.get? b=some o)->s.heap.get? ea=none->s.heap.get? dx=none->ea≠dx->h'.get? ea=some ⟨.ref too,some dx,.fields #[.ref t,.none,.none,.none,.bool false,.none],#[]⟩->
   h'.get? dx=some (dictOf [⟨PyData.keyHash W.w.params "told",.str "told" tk',v⟩] n)->Q (.ref ea) {s with heap:=h',toks:=tk}) :
  wpAny W.M A (call (.ref too) [v]) Q E s:=by
 obtain⟨hh,gg,dd,tk,os⟩:=s
 refine e41 (λp1 p2 p3 p4 FK=>?_) FI.fn
 have X:W.K.In hh:=WO.kin.keeps hK
 refine zYr F X (λh₁ ea Mk=>?_) (by rw[sizeLine_eq];simp)
 refine e13 (λt hea htn ht=>?_) Mk.there
 have X₁:W.K.In h₁:=X.keeps Mk.keeps
 refine e12 (λo ho hdata=>?_) FK.at_
 refine wpAny_call (codeAny_call_def (binds:=[("self",.ref ea),("told",v)]) hroom (X₁ _ _ ho) hdata (WO.nolim.keeps λb o e=>Mk.keeps b o (hK b o e)) (codeRec_of X₁ FK.code) FK.body (FI.binds _ _ _ X₁) (zFy FI.nocell) (λx hx=>?_) (λh₂ hns hk₂=>?_) FK.co FK.gen FK.kind)
 ·simp only[List.mem_cons,List.not_mem_nil,or_false]at hx
  rcases hx with rfl|rfl
  ·exact FI.l1
  ·exact FI.l2
 ·generalize henv:callEnv fd h₁.objs.size fI=env at hns ⊢
  have hsk:env.scope.kind=.function:=by rw[<-henv];exact FK.kind
  have hloc:env.locals=h₁.objs.size:=by rw[<-henv];rfl
  have k1:env.kindOf "self"=some .local:=by rw[<-henv];exact FI.l1
  have k2:env.kindOf "told"=some .local:=by rw[<-henv];exact FI.l2
  have hns':h₂.Ns env.locals (λx=>[(("self": Str),Value.ref ea),(("told": Str),v)].reverse.lookup x):=by rw[hloc];exact hns
  refine wpAny_execs_cons ?_
  rw[arm_exec_Assign]
  refine wpAny_bind (wpAny_standAt ?_)
  have hsw:swapsWithSole [.Attribute (.Name "self" p1) "told" p2] (.Name "told" p3) p4.line env=pure false:=rfl
  have hst:swappedStores [.Attribute (.Name "self" p1) "told" p2] (.Name "told" p3) env=pure none:=zEf rfl env
  rw[hsw,pure_bind]
  simp only[Bool.false_eq_true,if_false]
  refine wpAny_bind (wpAny_Name (wpAny_loadName_local hsk k2 hns' (v:=v) rfl ?_) (by decide))
  rw[hst,pure_bind]
  refine wpAny_bind ?_
  show wpAny _ _ (do
   let ov <-holding [v] (eval (.Name "self" p1) env)
   standAt p2.atName
   holding [v,ov] (setAttr ov "told" v)
   release [v,ov] []) _ _ _
  refine wpAny_bind (wpAny_holding (wpAny_Name (wpAny_loadName_local hsk k1 hns' (v:=.ref ea) rfl ?_) (by decide)))
  have hea₂:=hk₂ _ _ hea
  refine wpAny_bind (wpAny_standAt (wpAny_bind (wpAny_holding (yCj F (X₁.keeps hk₂) hea₂ λh₃ dx tk' n' a1 a2 a3 a4=>zKr (wpAny_pure (wpAny_execs_nil ?_))))))
  refine⟨rfl,?_⟩
  have hold:∀ b o,hh.get? b=some o->h₃.get? b=some o:=λb o e=>a4 b o (λq=>by subst q;rw[Mk.new]at e;cases e) (hk₂ b o (Mk.keeps b o e))
  have hdxn:hh.get? dx=none:=by
   cases q:hh.get? dx with
   |none=>
    rfl
   |some o'=>
    have:=hk₂ _ _ (Mk.keeps _ _ q);rw[a3]at this;cases this
  exact hq h₃ _ ea t dx n' tk' hold Mk.new hdxn (λq=>by subst q;rw[hea₂]at a3;cases a3) a1 a2
theorem yB3(WO:W.Ok)(F:ExcF W.K too rb fI)(FI:InitF W fI fd)(C:CxOk n cx)(he:noStar [e]=true)(hc:∀ Q:DV->St->Prop,Q (.cls too) V->EvE W too cx (eval (.Name c np) cx.env) Q X V)(h:EvE W too cx (eval e cx.env) (λd V=>X d V) no V):EvS W too cx (exec (.Raise (some (.Call (.Name c np) [e] [] cp)) none pos) cx.env) Q X V:=λg s G=>by
 refine by_g λkG=>?_
 obtain⟨nm,q,N,hdct,sn,sub,col,dd,k0,k1,k2,k3,k5,hK⟩:=F.cls
 have hcB:(Value.ref too::zHg rb).contains (.type "BaseException")=true:=by simp
 refine kG ?_
 rw[arm_exec_Raise]
 refine wpAny_bind (wpAny_standAt ?_)
 show wpAny _ _ (raiseStmt cx.env (some (do let v <-eval (.Call (.Name c np) [e] [] cp) cx.env;standAt pos;pure v)) none) _ _ _
 unfold raiseStmt
 have hcall:eval (.Call (.Name c np) [e] [] cp) cx.env=(do callWith cp (<-eval (.Name c np) cx.env) [] (backTo cp (starEach [e] cx.env)) (backToKw cp (keywordEach [] cx.env))):=rfl
 rw[hcall]
 refine wpAny_bind (wpAny_bind (wpAny_bind (wpAny_mono (hc (λd σ'=>d=.cls too/\σ'=V) ⟨rfl,rfl⟩ g s G) (λv s₁ hX=>?_) λU U x=>x)))
 refine by_g λkG=>?_
 (revert hX;refine e35 λg₁ σ₁ d₁ e₁ G₁ r₁ hd₁ hσ=>?_)
 refine kG ?_
 subst hd₁;subst hσ
 obtain rfl:v=.ref too:=zAw r₁
 refine callWith_of (P:=λh=>W.K.In h) (by rw[zCb he];rfl) (keeps_K F.keep) ?_
 refine zGy (zCb he) ?_
 rw[(zCz he).1]
 show wpAny _ _ (spliced [(false,eval e cx.env)]) _ _ _
 unfold spliced
 refine wpAny_bind (zBl (h g₁ s₁ G₁) (λw s₂ g₂ σ₂ d e₂ G₂ r₂ hd=>?_) λU U x=>(zRo x).elim)
 refine wpAny_bind (wpAny_pure (wpAny_bind (wpAny_holding (wpAny_pure (wpAny_pure ?_)))))
 refine⟨WO.kin.keeps G₂.sim.ext,?_⟩
 have hroom:cx.A.depth+1<recursionLimit:=by have:=C.room.2.1;omega
 refine zYq WO F FI G₂.sim.ext hroom (λh' tk ea t dx n' tk' hold hea hdx hne a1 a2=>?_)
 refine wpAny_bind (wpAny_standAt (wpAny_pure ?_))
 have G₃:Good W cx g₂ σ₂ {s₂ with heap:=h',toks:=tk}:=G₂.grow hold
 have hC:h'.get? too=_:=(WO.kin.keeps G₃.sim.ext) _ _ hK
 have f1:=G₂.free hea
 have f2:=G₂.free hdx
 have kpn:∀ b (s₄:Shared),Free cx g₂ σ₂.mu b->kpF cx s₄ b=none:=λb s₄ f=>by
  unfold kpF
  rw[if_neg (by
   rintro(q|q)
   ·exact f.fl q
   ·refine by_g λkG=>?_
    obtain⟨⟨x,c⟩,hc,rfl⟩:=List.mem_map.mp q;exact f.fc x hc)]
  exact f.fk
 have hE:EX W too cx X (.ref ea) {s₂ with heap:=h',toks:=tk}:=by
  refine⟨ea,g₂,σ₂,d,rfl,G₃,⟨⟨f1.fg,kpn _ _ f1,f1.fm⟩,dx,_,_,_,_,a1,a2,?_,⟨f2.fg,kpn _ _ f2,f2.fm⟩,Ne.symm hne,by simp,.inl rfl⟩,hd⟩
  exact .cons (by decide) r₂ .nil
 have hC':h'.get? too=some (excClassObj nm q too N [.ref rb] (zHg rb) hdct sn sub false col dd k0 k1 k2 k3 k5 "Exception.__new__"):=hC
 refine by_g λkG=>?_
 obtain⟨hp,gg,dd',tk₂,os⟩:=s₂
 refine kG ?_
 show wpAny _ _ _ _ _ ⟨h',gg,dd',tk,os⟩
 repeat (first|with_reducible refine wpAny_loadPart_at a1 ?_|with_reducible refine wpAny_loadPart_at hC' ?_|(with_reducible refine wpAny_isSubtype_exc hC' ?_;rw[hcB])|wp_step)
 exact wpAny_raiseNew_none C.room.h hE
end
end
section
section
variable {W:Wd}{too rb fI:Addr}{n:Nat}{cx:Cx}{X:DV->St->Prop}{V:St}{g:Hp}{m:Mt}{s:Shared}{A:Around}{E:Value->Shared->Prop}
theorem zOs{K:Frag}{prog:Program}(F:ExcF K too rb fI)(X:K.In s.heap){ea:Addr}{od:Option Addr}{dt:Data}{sl:Array (Option Value)}(he:s.heap.get? ea=some ⟨.ref too,od,dt,sl⟩){Q:Bool->Shared->Prop}(q:Q true s):wpAny (model prog w) A (excMatches (.ref ea) (.ref too)) Q E s:=by
 refine by_g λkG=>?_
 obtain⟨nm,qn,N,hdct,sn,sub,col,dd,k0,k1,k2,k3,k5,hK⟩:=F.cls
 obtain⟨hh,gg,dd',tk,os⟩:=s
 have hC:hh.get? too=some (excClassObj nm qn too N [.ref rb] (zHg rb) hdct sn sub false col dd k0 k1 k2 k3 k5 "Exception.__new__"):=X _ _ hK
 have he:hh.get? ea=_:=he
 have hcB:(Value.ref too::zHg rb).contains (.type "BaseException")=true:=by simp
 have hcC:(Value.ref too::zHg rb).contains (.ref too)=true:=by simp
 have f0:=tc_notTuple
 refine kG ?_
 unfold excMatches
 repeat (any_goals (first|assumption|with_reducible refine wpAny_loadPart_at he ?_|with_reducible refine wpAny_loadPart_at hC ?_|(with_reducible refine wpAny_isSubtype_exc hC ?_;first|rw[hcB]|rw[hcC])|wp_step))
theorem Good.forget(G:Good W cx g V s)(hx:okc x=true)(hl:look V.loc (enc x)=none)(hmm:s.heap.Ns cx.env.locals mm)(hn:s'.heap.Ns cx.env.locals (λy=>if y=x then u else mm y))
  (hs:Heap.SameBut cx.env.locals s.heap s'.heap) (hg:s'.gens=s.gens) (ho:s'.os=s.os):Good W cx g V s':=by
 refine e12 (λm₀ hns hv=>?_) G.frm.ns
 rw[<-zGg hns hmm]at hn
 have ap:=G.frm.apart
 refine⟨G.ext,?_,⟨⟨_,hn,λy d' oky hy h0y=>e12 (λw h1 h2=>⟨w,(if_neg λe=>zA2 (hl.symm.trans (e▸hy))).trans h1,h2⟩) (hv y d' oky hy h0y)⟩,
  λy d' oky hy h1y=>e23 (λc w h1 h2 h3=>⟨c,w,h1,h2.sameBut hs (G.frm.capart y c (mem_of_lookup h1)).2.2.1,h3⟩) (G.frm.cells y d' oky hy h1y),ap,
  λy c hyc=>e04 (λc1 c2 c3 q9=>q9.elim λw c4=>⟨c1,c2,c3,w,c4.sameBut hs c3⟩) (G.frm.capart y c hyc)⟩,G.above⟩
 exact G.sim.step Ext.rfl (λU U h=>.inl h) (λb o h hgk U=>(hs.2 b (λe=>hgk.elim (λq=>q (e▸ap.1)) λq=>q (e▸ap.2.1))).trans h)
  (λb o h=>e03 (λa U q9=>e12 (λoj c d=>⟨a,.inr λe=>Option.some_ne_none _ (h.symm.trans e),oj,(hs.2 b (λe=>Option.some_ne_none _ (h.symm.trans (e▸ap.2.2)))).trans c,d⟩) q9) (G.sim.muts b o h)) hg ho G.size
theorem Good.less(G:Good W cx g V s)(h:∀ y d,look l y=some d->look V.loc y=some d):Good W cx g ⟨l,V.mu⟩ s:=by
 have:=Good.turn (kd:=cx.kd) (l:=l) G (λx d U hl h0=>⟨h _ _ hl,h0⟩) (λx d ok hl h1=>G.frm.cells x d ok (h _ _ hl) h1)
 exact this
noncomputable def Cx.frm(cx:Cx)(g:Hp):Cx:=⟨cx.A,cx.env,cx.kd,cx.kp,g⟩
set_option tactic.hygienic true in
theorem zSh(WO:W.Ok)(F:ExcF W.K too rb fI)(C:CxOk n cx){tp ep ap sp:Pos}(okt:okc t=true)(oke:okc ev=true)(kt:zAn cx.kd (enc t)=0)(ke:zAn cx.kd (enc ev)=0)(hdbg:(ev==("__debug__": Str))=false)
  {ea dx:Addr} {d:DV} {l:Loc} {vs:Array Value} {sl:Array (Option Value)} {es:List DictEntry} {nn:Nat} (G:Good W cx g ⟨put l (enc ev) (.ref ea),m⟩ s) (o1:s.heap.get? ea=some ⟨.ref too,some dx,.fields vs,sl⟩) (o2:s.heap.get? dx=some (dictOf es nn)) (o3:RepE g [enc "told"] [d] es)
  {K:Flow->Shared->Prop} (k:∀ s',Good W cx g ⟨put (put l (enc ev) (.ref ea)) (enc t) d,m⟩ s'->K .next s') :
  wpAny W.M A (execs [.Assign [.Name t tp] (.Attribute (.Name ev ep) "told" ap) sp] cx.env) K E s:=by
 refine wpAny_execs_cons ?_
 rw[arm_exec_Assign]
 refine wpAny_bind (wpAny_standAt ?_)
 rw[show swapsWithSole [.Name t tp] (.Attribute (.Name ev ep) "told" ap) sp.line cx.env=pure false from rfl,pure_bind,if_neg Bool.false_ne_true]
 refine e12 (λw hw rw'=>?_) (zHl (x:="told") (by decide) o3 (d:=d) ((if_pos (Nat.beq_refl (enc "told")):(if Nat.beq (enc "told") (enc "told")=true then some d else none)=some d)))
 have hat:eval (.Attribute (.Name ev ep) "told" ap) cx.env=(do
  let ov <-attributeBase (.Name ev ep) "told" cx.env (eval (.Name ev ep) cx.env)
  standAt ap.atName
  let r <-holding [ov] (getAttr ov "told" true)
  letTemporaryGo (.Name ev ep) ov r
  pure r):=rfl
 rw[hat,zOz rfl]
 have evself:∀(A':Around) (E':Value->Shared->Prop) (Q':Value->Shared->Prop),Q' (.ref ea) s->wpAny W.M A' (eval (.Name ev ep) cx.env) Q' E' s:=λA' E' Q' q'=>by
  refine e12 (λmm hns hva=>e12 (λv' h1 h2=>?_) (hva ev (.ref ea) oke (zAu _ _ _) ke)) G.frm.ns
  rw[show v'=.ref ea from zAw h2]at h1
  exact wpAny_Name (wpAny_loadName_local C.env.kind ((C.kinds ev oke).1 ke) hns h1 q') hdbg
 refine wpAny_bind (wpAny_bind (evself _ _ _ (wpAny_bind (wpAny_standAt (wpAny_bind (wpAny_holding (yCl F (WO.kin.keeps G.sim.ext) o1 o2 hw (zJh rw') (wpAny_bind (wpAny_letTemporaryGo (wpAny_pure ?_))))))))))
 rw[show swappedStores [.Name t tp] (.Attribute (.Name ev ep) "told" ap) cx.env=pure none from rfl,pure_bind]
 refine wpAny_bind ?_
 show wpAny _ _ (do standAt tp;bindName cx.env t w) _ _ _
 refine wpAny_bind (wpAny_standAt (wpAny_bindName (zD6 C.env C.kinds (G.toks (s.toks+1)) okt kt rw' λs₇ G₇ k₇=>?_)))
 exact wpAny_pure (wpAny_execs_nil (k s₇ G₇))
theorem zQr(C:CxOk n cx){t ev:Str}{hp:Pos}(oke:okc ev=true)(ke:zAn cx.kd (enc ev)=0)(hd2:enc t≠enc ev){ea:Addr}{l:Loc}(hlk:look l (enc ev)=none)(G:Good W cx g ⟨put (put l (enc ev) (.ref ea)) (enc t) d,m⟩ s)
  {K:Unit->Shared->Prop} (k:∀ s',Good W cx g ⟨put l (enc t) d,m⟩ s'->K () s'):wpAny W.M A (do bindName cx.env ev .none;unbindBehindTheSuite cx.env ev hp) K E s:=by
 refine wpAny_bind (wpAny_bindName (zD6 C.env C.kinds G oke ke .none λs₈ G₈ k₈=>?_))
 refine e12 (λmm hns hva=>e12 (λv' h1 h2=>?_) (hva ev .none oke (zAu _ _ _) ke)) G₈.frm.ns
 unfold unbindBehindTheSuite
 refine wpAny_onRaise (wpAny_unbindName_local ((C.kinds ev oke).1 ke) hns h1 (fnOk C.env.kind) λh₉ u hn₉ hs₉=>k _ ?_)
 have hfin:Good W cx g ⟨put l (enc t) d,m⟩ s₈:=by
  refine G₈.less λy d' hy=>?_
  have hye:enc ev≠y:=λe=>by
   rw[<-e,zAg _ _ hd2,hlk]at hy;exact zA2 hy
  rw[zAg _ _ hye]
  by_cases e:enc t=y
  ·rw[<-e,zAu]at hy ⊢;exact hy
  ·rw[zAg _ _ e,zAg _ _ hye]
   rw[zAg _ _ e]at hy;exact hy
 exact hfin.forget (s':={s₈ with heap:=h₉}) oke ((zAg _ _ hd2).trans hlk) hns hn₉ hs₉ rfl rfl
theorem yEw(WO:W.Ok)(F:ExcF W.K too rb fI)(C:CxOk n cx)(SO:StOk cx)(hx:zC3 cx.kd x=some (enc x))(ht:zC3 cx.kd t=some (enc t))(hev:zC3 cx.kd ev=some (enc ev))
  (hd2:enc t≠enc ev) (hdbg:(ev==("__debug__": Str))=false) (hv:zEa v=false)
  (hc:∀(A':Around) (E:Value->Shared->Prop) (g:Hp) (V:St) (s:Shared) (Q:Value->Shared->Prop),Good W cx g V s->Q (.ref too) s->wpAny W.M A' (eval (.Name c cp) cx.env) Q E s)
  (h:EvE W too cx (eval v cx.env) (λd V=>Q none ⟨put V.loc (enc x) d,V.mu⟩) (λd V=>optN (look V.loc (enc ev)) (λU=>False) (Q none ⟨put V.loc (enc t) d,V.mu⟩)) V) :
  ∀ s,Good W cx cx.g₀ V s->wpAny W.M cx.A (exec (.Try [.Assign [.Name x xp] v vp] [.ExceptHandler (some (.Name c cp)) (some ev) [.Assign [.Name t tp] (.Attribute (.Name ev ep) "told" ap) sp] hp] [] [] pos) cx.env) (PostS W cx cx.g₀ Q) (EX W too cx X) s:=λs G=>by
 refine e03 (λokx U kx=>?_) (zC8 hx)
 refine e03 (λokt U kt=>?_) (zC8 ht)
 refine e03 (λoke U ke=>?_) (zC8 hev)
 refine e12 (λl hA hfr=>?_) SO.top
 have body:EvS W too cx (execs [.Assign [.Name x xp] v vp] cx.env) (λf V=>optN f (λU=>False) (Q none V)) (λd V=>optN (look V.loc (enc ev)) (λU=>False) (Q none ⟨put V.loc (enc t) d,V.mu⟩)) V:=by
  refine zSo (yF0 hv (zEf rfl _) (h.mono λd V q=>?_) rfl)
  have ht':cTgt (zC3 cx.kd) (.Name x xp)=some (.one (enc x)):=by show ob none (zC3 cx.kd x) _=_;rw[hx];rfl
  intro g s w G r
  exact zE5 C.room.h (zKi C.env C.kinds) G ht' r rfl λs' G'=>G'.postG (zZq q)
 refine wpAny_Try_except (wpAny_mono (body cx.g₀ s G) (λf s₁ p=>?_) λe s₁ hx₁=>?_)
 ·cases f with
  |next=>exact e23 (λg' σ' e G' q=>wpAny_execs_nil ⟨g',σ',e,G',q⟩) p
  |ret w=>exact e34 (λU U U U U U q=>q.elim) p
  |brk=>exact p.elim
  |cont=>exact p.elim
 ·refine e44 (λea g₁ σ₁ d e1 G₁ x₁ q=>?_) hx₁
  rw[e1]
  refine e02 (λhlk q=>?_) (yBk q)
  have K:FrK (kpF cx s₁) (cx.env::l):=e12 (λl' hl' hfr'=>Option.some.inj (hA.symm.trans hl')▸hfr') (G₁.frames C)
  refine zMw (too:=too) (d:=d) hA K hfr G₁.simF x₁ λs₃ S₃ x₃=>?_
  refine wpAny_handleBy_cons (codeAny_handlers_test ?_) (by intro q;cases q)
  refine hc _ _ g₁ σ₁ s₃ _ (G₁.back Ext.rfl S₃) ?_
  refine x₃.el λdx vs sl es nn o1 o2 o3 o4 o5 o6 o7=>zOs F (WO.kin.keeps S₃.ext) o1 ?_
  rw[if_pos rfl]
  refine codeAny_handlers_suite_as (zOp (too:=too) (d:=d) S₃ x₃ λs₄ S₄ x₄=>?_)
  refine x₄.el λdx vs sl es nn o1 o2 o3 o4 o5 o6 o7=>?_
  have notL:∀ b,kpF cx s₁ b=none->b≠cx.env.locals:=λb hb e=>(G₁.own (.inl rfl)).2.2.elim λo ho=>zA2 (hb.symm.trans (e▸(zDo cx s₁).trans ho))
  refine zD6 C.env C.kinds (G₁.back Ext.rfl S₄) oke ke (.ref ea) λs₅ G₅ k₅=>?_
  refine zSh WO F C okt oke kt ke hdbg G₅ ((k₅ _ (notL _ x₄.off.2.1)).trans o1) ((k₅ _ (notL _ o4.2.1)).trans o2) o3 λs₇ G₇=>?_
  exact zQr C oke ke hd2 hlk G₇ λs₉ G₉=>⟨g₁,_,G₁.ext,G₉,q⟩
theorem yI4(WO:W.Ok)(F:ExcF W.K too rb fI)(C:CxOk n cx)(SO:StOk cx)(hx:zC3 cx.kd x=some (enc x))(ht:zC3 cx.kd t=some (enc t))(hev:zC3 cx.kd ev=some (enc ev))
  (hd2:enc t≠enc ev) (hdbg:(ev==("__debug__": Str))=false) (hv:zEa v=false)
  (hc:∀(g₀:Hp) (A':Around) (E:Value->Shared->Prop) (g:Hp) (V:St) (s:Shared) (Q:Value->Shared->Prop),Good W (cx.frm g₀) g V s->Q (.ref too) s->wpAny W.M A' (eval (.Name c cp) cx.env) Q E s)
  (h:∀ g₀,EvE W too (cx.frm g₀) (eval v cx.env) (λd V=>Q none ⟨put V.loc (enc x) d,V.mu⟩) (λd V=>optN (look V.loc (enc ev)) (λU=>False) (Q none ⟨put V.loc (enc t) d,V.mu⟩)) V) :
  EvS W too cx (exec (.Try [.Assign [.Name x xp] v vp] [.ExceptHandler (some (.Name c cp)) (some ev) [.Assign [.Name t tp] (.Attribute (.Name ev ep) "told" ap) sp] hp] [] [] pos) cx.env) Q X V:=λg s G=>
 wpAny_mono (yEw (cx:=cx.frm g) (X:=X) (Q:=Q) WO F ⟨C.env,C.room,C.kinds,C.frames⟩ ⟨SO.nofree,SO.cellAt,SO.own,SO.top,SO.nodup⟩ hx ht hev hd2 hdbg hv (hc g) (h g) s ⟨Ext.rfl,G.sim,G.frm,G.above⟩)
  (λf s' p=>by
   cases f with
   |next=>exact e23 (λg' σ' e G' q=>⟨g',σ',e,⟨G.ext.trans e,G'.sim,G'.frm,G'.above⟩,q⟩) p
   |ret w=>exact e34 (λg' σ' d e G' r q=>⟨g',σ',d,e,⟨G.ext.trans e,G'.sim,G'.frm,G'.above⟩,r,q⟩) p
   |brk=>exact p.elim
   |cont=>exact p.elim)
  λe s' h=>h.elim λea h=>h.elim λg' h=>h.elim λσ' h=>h.elim λd h=>⟨ea,g',σ',d,h.1,⟨G.ext.trans h.2.1.ext,h.2.1.sim,h.2.1.frm,h.2.1.above⟩,h.2.2⟩
end
end
section
structure Base(W:Wd)(too rb fI:Addr)(fd:FuncData)(T:Tb):Prop where
 wo:W.Ok
 exc:ExcF W.K too rb fI
 ini:InitF W fI fd
 tb:TbOk W T
 gl:GlOk W T.gl
 too_:look T.gl (enc "TooLarge")=some (.cls too)
 kinds:∀ x C,look T.gl x=some (.cls C)->T.kf C=T.kf C
section
variable {W:Wd}{too rb fI:Addr}{fd:FuncData}{T:Tb}{n:Nat}{cx:Cx}{X:DV->St->Prop}{V:St}{g g':Hp}{m:Mt}{s s':Shared}{E:Value->Shared->Prop}
theorem EvT.mono:∀{es:List PySem.Expr} {Q Q':Bool->St->Prop} {V:St},EvT W too cx es Q X V->(∀ d V,Q d V->Q' d V)->EvT W too cx es Q' X V
 |[],_,_,_,h,k=>k _ _ h
 |e::r,_,_,_,h,k=>EvG.mono h λt V q=>by
   cases t with
   |true=>
    exact EvT.mono q k
   |false=>
    exact k _ _ q
def zJd(W:Wd)(too:Addr)(n:Nat):Prop:=∀(cx:Cx) (X:DV->St->Prop) (V:St),CxOk n cx->zAf cx.env->∀{elt t a b:PySem.Expr} {z:Str} {pos np cp:Pos} {ns:CN} {sc:Scope},cTgt (zC3 (zAk sc.names)) t=some ns->scOk cx.kd sc (cnN ns)=true->zUk ns=true->noStar [a,b]=true->enc z=nZip->okc z=true->zAn cx.kd (enc z)=2->
  ∀{B':Loc->(Option DV->Mt->Prop)->Mt->Prop},zP3 W too n elt [] sc B'->
  ∀{Q:DV->St->Prop},EvE W too cx (eval a cx.env) (λd V=>EvE W too cx (eval b cx.env) (λe V=>opt (tupD d) λl=>opt (tupD e) λr=>small l.length/\small r.length/\zEc (λU=>True) (λx K m=>opt (bindC V.loc m ns x) λloc=>B' loc K m) V.loc Q ((l.zip r).map λp=>.tup [p.1,p.2]) [] V.mu) X V) X V->EvE W too cx (eval (.ListComp elt [⟨t,.Call (.Name z np) [a,b] [] cp,[],0⟩] sc pos) cx.env) Q X V
variable (W too rb fI fd T n) in
structure Ih(k:Nat):Prop where
 e:∀{cx:Cx} {e:PySem.Expr} {Q X V},CxOk n cx->zAf cx.env->wpE W too T n (cE k cx.kd e) Q X V->EvE W too cx (eval e cx.env) Q X V
 es:∀{cx:Cx} {es:List PySem.Expr} {pos:Pos} {Q X V},CxOk n cx->zAf cx.env->noStar es=true->wpEs W too T n (cEs k cx.kd es) Q X V->EvL W too cx (spliced (backTo pos (starEach es cx.env))) Q X V
 bo:∀{cx:Cx} {es:List PySem.Expr} {pos:Pos} {op:BoolOp} {Q X V},CxOk n cx->zAf cx.env->wpE W too T n (zOy k cx.kd (match op with|.And=>true|.Or=>false) es) Q X V->EvE W too cx (boolOp pos op (evalEach es cx.env)) Q X V
 c:∀{cx:Cx} {ops:List CmpOp} {es:List PySem.Expr} {r:CCs} {d Q X V},CxOk n cx->zAf cx.env->cCmp k cx.kd ops es=some r->wpC W too T n d r Q X V->EvC W too cx d ops es Q X V
 t:∀{cx:Cx} {e:PySem.Expr} {Q X V},CxOk n cx->zAf cx.env->wpT W too T n (cE k cx.kd e) Q X V->EvG W too cx (isTrue e cx.env (eval e cx.env)) Q X V
 tb:∀{cx:Cx} {es:List PySem.Expr} {pos:Pos} {op:BoolOp} {whole:Sem Value} {Q X V},CxOk n cx->zAf cx.env->wpT W too T n (zOy k cx.kd (match op with|.And=>true|.Or=>false) es) Q X V->EvG W too cx (isTrue (.BoolOp op es pos) cx.env whole) Q X V
 ts:∀{cx:Cx} {es:List PySem.Expr} {Q X V},CxOk n cx->zAf cx.env->wpTs W too T n (cEs k cx.kd es) Q X V->EvT W too cx es Q X V
theorem zD7{α:Type}{o:Option α}{K K':α->Prop}(h:opt o K)(k:∀ a,K a->K' a):opt o K':=by
 cases o with
 |none=>exact h
 |some a=>exact k a h
theorem yCb:Ih W too T n 0 where
 e _ _ h:=h.elim
 es _ _ _ h:=h.elim
 bo _ _ h:=h.elim
 c _ _ h _:=by cases h
 t _ _ h:=h.elim
 tb _ _ h:=h.elim
 ts _ _ h:=h.elim
variable {k:Nat}
theorem yIy(I:Ih W too T n k)(C:CxOk n cx)(CA:zAf cx.env)(hs:noStar es=true)(h:wpEs W too T n (cEs (k+1) cx.kd es) Q X V):EvL W too cx (spliced (backTo pos (starEach es cx.env))) Q X V:=by
 cases es with
 |nil=>
  exact zG7 h
 |cons e r=>
  exact zDc hs ((I.e C CA h).mono λd V q=>I.es C CA (zCz (env:=cx.env) (pos:=pos) hs).2 q)
theorem yIw(I:Ih W too T n k)(C:CxOk n cx)(CA:zAf cx.env)(h:wpTs W too T n (cEs (k+1) cx.kd es) Q X V):EvT W too cx es Q X V:=by
 cases es with
 |nil=>
  exact h
 |cons e r=>
  refine(I.t C CA h).mono λt V q=>?_
  cases t with
  |true=>
   exact I.ts C CA q
  |false=>
   exact q
theorem yIz(I:Ih W too T n k){pos:Pos}{op:BoolOp}{Q:DV->St->Prop}(C:CxOk n cx)(CA:zAf cx.env)(h:wpE W too T n (zOy (k+1) cx.kd (match op with|.And=>true|.Or=>false) es) Q X V):EvE W too cx (boolOp pos op (evalEach es cx.env)) Q X V:=by
 cases es with
 |nil=>
  exact h.elim
 |cons e r=>
  cases r with
  |nil=>
   exact I.e C CA h
  |cons e2 r=>
   cases op with
   |And=>
    refine yH7 ((I.e C CA h).mono λd V q=>zD7 q λt q=>?_)
    cases t with
    |true=>exact I.bo (op:=.And) (es:=e2::r) C CA q
    |false=>exact q
   |Or=>
    refine yJ2 ((I.e C CA h).mono λd V q=>zD7 q λt q=>?_)
    cases t with
    |true=>exact q
    |false=>exact I.bo (op:=.Or) (es:=e2::r) C CA q
theorem yIx(I:Ih W too T n k)(C:CxOk n cx)(CA:zAf cx.env)(h:wpT W too T n (zOy (k+1) cx.kd (match op with|.And=>true|.Or=>false) es) Q X V):EvG W too cx (isTrue (.BoolOp op es pos) cx.env whole) Q X V:=by
 cases es with
 |nil=>
  exact h.elim
 |cons e r=>
  cases r with
  |nil=>
   cases op with
   |And=>
    refine zZp ((I.t C CA h).mono λt V q=>?_)
    cases t with
    |true=>
     exact zQs q
    |false=>
     exact q
   |Or=>
    refine yEj ((I.t C CA h).mono λt V q=>?_)
    cases t with
    |true=>
     exact q
    |false=>
     exact zSi q
  |cons e2 r=>
   cases op with
   |And=>
    refine zZp ((I.t C CA h).mono λt V q=>?_)
    cases t with
    |true=>
     exact I.tb (op:=.And) (es:=e2::r) C CA q
    |false=>
     exact q
   |Or=>
    refine yEj ((I.t C CA h).mono λt V q=>?_)
    cases t with
    |true=>
     exact q
    |false=>
     exact I.tb (op:=.Or) (es:=e2::r) C CA q
theorem zFe(h:wpE W too T n (if c=true then a else .bad) Q X V):c=true/\wpE W too T n a Q X V:=by
 cases c with
 |true=>
  exact⟨rfl,h⟩
 |false=>
  exact h.elim
theorem zNj(I:Ih W too T n k){elt:PySem.Expr}{ifs:List PySem.Expr}{kd:List (Nat×Nat)}{cx':Cx}(C:CxOk n cx')(hk:cx'.kd=kd)(CA:zAf cx'.env){loc:Loc}{K:Option DV->Mt->Prop}{m:Mt}
  (h:wpTs W too T n (cEs k kd ifs) (λok σ₁=>sel ok (wpE W too T n (cE k kd elt) (λy σ₂=>∃ m' y',Fz σ₂.mu y m' y'/\K (some y') m') no σ₁) (K none σ₁.mu)) no ⟨loc,m⟩) :
  EvT W too cx' ifs (λok σ₁=>sel ok (EvE W too cx' (eval elt cx'.env) (λy σ₂=>∃ m' y',Fz σ₂.mu y m' y'/\K (some y') m') no σ₁) (K none σ₁.mu)) no ⟨loc,m⟩:=by
 subst hk
 refine(I.ts C CA h).mono λok σ₁ q=>?_
 cases ok with
 |true=>
  exact I.e C CA q
 |false=>
  exact q
theorem zQc(h:zZ1 e=some q):∃ p,e=.Call q.1 q.2.1 q.2.2 p:=by
 cases e with
 |Call f es ks p=>cases h;exact⟨_,rfl⟩
 |_=>exact zA2 h
theorem yEh(h:unE e=some q):∃ p,e=.UnaryOp q.1 q.2 p:=by
 cases e with
 |UnaryOp op a p=>cases h;exact⟨_,rfl⟩
 |_=>exact zA2 h
theorem zGd(h:zS4 e=some q):∃ p,e=.Attribute q.1 q.2 p:=by
 cases e with
 |Attribute a b p=>cases h;exact⟨p,rfl⟩
 |_=>exact zA2 h
theorem zXk(h:yFt c=true):c=.none:=by
 cases c with
 |none=>rfl
 |_=>exact Bool.noConfusion h
theorem yBn(h:negO c=true):c=.USub:=by
 cases c with
 |USub=>rfl
 |_=>exact Bool.noConfusion h
theorem zRj(h:zUo e=true):∃ p q,e=.Constant .none p q:=
 e12 (λc hc h=>(zIn hc).imp λp q=>q.imp λq e=>by rw[e,zXk h]) (zAm h)
theorem zCg(h:zGr l=true):l=[]:=by
 cases l with
 |nil=>rfl
 |cons _ _=>exact Bool.noConfusion h
theorem yC1(h:isOp op=some b):op=isC b:=by
 cases op with
 |Is=>cases h;rfl
 |IsNot=>cases h;rfl
 |_=>exact zA2 h
theorem zUm(h:isOf ops es=some b):∃ p q,ops=[isC b]/\es=[.Constant .none p q]:=
 e12 (λop h1 h=>e12 (λe h2 h=>e02 (λh3 h4=>(zRj h3).imp λp q=>q.imp λq e=>⟨by rw[zDx h1,yC1 h4],by rw[zDx h2,e]⟩) (zBm h)) (zA1 h)) (zA1 h)
theorem yC2(h:isM1 e=true):∃ p q r,e=.UnaryOp .USub (.Constant (.int 1) p q) r:=
 e12 (λu hu h=>e02 (λh1 h=>e12 (λi hi h2=>e21 (λp q hq=>e11 (λr hr=>⟨p,q,r,by rw[hr,yBn h1,hq,of_decide_eq_true h2]⟩) (yEh hu)) (zLe hi)) (zAm h)) ((Bool.and_eq_true _ _).mp h)) (zAm h)
theorem zPz{g:List Comprehension}{q:PySem.Expr×PySem.Expr×List PySem.Expr}(h:zYj g=some q):g=[⟨q.1,q.2.1,q.2.2,0⟩]:=by
 refine e12 (λc h1 h=>e02 (λh2 h=>?_) (zBm h)) (zA1 h)
 cases c with
 |mk x y z a=>rw[zDx h1,<-Option.some.inj h,show a=0 from of_decide_eq_true h2]
theorem zWc(h:zS8 e=some r):∃ p q,e=.Call (.Name r.1 p) [r.2.1,r.2.2] [] q:=by
 refine e12 (λc hc h=>e02 (λh1 h=>e12 (λy h2 h=>e12 (λp h3 h=>?_) (zA1 h)) (zA1 h)) (zBm h)) (zA1 h)
 rw[<-Option.some.inj h]
 exact(zCj h2).imp λp' hp=>(zQc hc).imp λq hq=>by rw[hq,hp,zCg h1,zKd h3]
theorem zEt(h:wpE W too T n (ob .bad o f) Q X V):∃ a,o=some a/\wpE W too T n (f a) Q X V:=by
 cases o with
 |none=>
  exact h.elim
 |some a=>
  exact⟨a,rfl,h⟩
theorem yHh{o:Option Bool}{f:Bool->CE}{c:Bool}{r:Option CCs}{g:CCs->CE}{Q:DV->St->Prop}(h:wpE W too T n (ob (if c=true then .bad else ob .bad r g) o f) Q X V):(∃ b,o=some b/\wpE W too T n (f b) Q X V)\/(c=false/\∃ a,r=some a/\wpE W too T n (g a) Q X V):=by
 cases o with
 |some b=>
  exact .inl ⟨b,rfl,h⟩
 |none=>
  cases c with
  |true=>
   exact h.elim
  |false=>
   exact .inr ⟨rfl,zEt h⟩
theorem zWd(h:zS9 kd xs it ifs=some q):ifs=[]/\∃ z np cp,it=.Call (.Name z np) [q.1,q.2] [] cp/\enc z=nZip/\okc z=true/\zAn kd (enc z)=2/\zUk xs=true/\noStar [q.1,q.2]=true:=by
 have an:∀{a b:Bool},(a&&b)=true->a=true/\b=true:=λ{a b} h=>(Bool.and_eq_true a b).mp h
 refine e02 (λhi h=>e12 (λr hz h=>e02 (λhc h=>?_) (zBm h)) (zA1 h)) (zBm h)
 rw[<-Option.some.inj h]
 exact e21 (λnp cp e=>e02 (λhc h5=>e02 (λhc h4=>e02 (λhc h3=>e02 (λh1 h2=>⟨zCg hi,r.1,np,cp,e,Nat.eq_of_beq_eq_true h1,h2,Nat.eq_of_beq_eq_true h3,h4,h5⟩) (an hc)) (an hc)) (an hc)) (an hc)) (zWc hz)
theorem zYs(hr:cCmp k kd ops es=some r)
  (h:EvE W too cx (eval e cx.env) (λb V=>opt (cCOp op) λo=>opt (cmpV V.mu o d b) λt=>sel t (EvC W too cx b ops es Q X V) (Q false V)) X V):EvC W too cx d (op::ops) (e::es) Q X V:=by
 cases k with
 |zero=>exact zA2 hr
 |succ k=>cases ops with
  |nil=>exact zA2 hr
  |cons op' ops=>cases es with
   |nil=>exact zA2 hr
   |cons e' es=>exact h
theorem ih_c(I:Ih W too T n k){es:List PySem.Expr}{r:CCs}{d:DV}{Q:Bool->St->Prop}(C:CxOk n cx)(CA:zAf cx.env)(hc:cCmp (k+1) cx.kd ops es=some r)(h:wpC W too T n d r Q X V):EvC W too cx d ops es Q X V:=by
 cases ops with
 |nil=>
  cases hc
 |cons op ops=>
  cases es with
  |nil=>
   cases hc
  |cons e es=>
   refine e12 (λo ho hc=>?_) (zA1 hc)
   rcases zOn hc with⟨hn,hc⟩|hc
   ·refine e02 (λn1 n2=>?_) ((Bool.and_eq_true _ _).mp hn)
    rw[zCg n1,zCg n2]
    rw[<-Option.some.inj hc]at h
    exact(I.e C CA h).mono λb V q=>by rw[ho];exact q
   ·refine e12 (λr' hr hc=>?_) (zA1 hc)
    rw[<-Option.some.inj hc]at h
    refine zYs hr ((I.e C CA h).mono λb V q=>?_)
    rw[ho]
    refine(zD7 q λt q=>?_:opt (cmpV V.mu o d b) _)
    cases t with
    |true=>exact I.c C CA hr q
    |false=>exact q
theorem yCc(B:Base W too rb fI fd T)(Z:zJd W too n)(I:Ih W too T n k){elt:PySem.Expr}{gens:List Comprehension}{sc:Scope}{pos:Pos}(C:CxOk n cx)(CA:zAf cx.env)(h:wpE W too T n (cE (k+1) cx.kd (.ListComp elt gens sc pos)) Q X V):EvE W too cx (eval (.ListComp elt gens sc pos) cx.env) Q X V:=by
 refine e12 (λg hg h=>e12 (λns ht h=>e02 (λhs h=>e02 (λhs hp=>?_) ((Bool.and_eq_true _ _).mp hs)) (zFe h)) (zEt h)) (zEt h)
 rw[zPz hg]
 cases hq:zS9 cx.kd ns g.2.1 g.2.2 with
 |none=>
  rw[hq]at h
  exact yCp C CA B.wo ht hs hp (B':=λloc K m=>wpTs W too T n (cEs k (zAk sc.names) g.2.2) (λok σ₁=>sel ok (wpE W too T n (cE k (zAk sc.names) elt) (λy σ₂=>∃ m' y',Fz σ₂.mu y m' y'/\K (some y') m') no σ₁) (K none σ₁.mu)) no ⟨loc,m⟩)
   (λcx' C' hk CA' loc K m h=>zNj I C' hk CA' h) (I.e C CA h)
 |some q=>
  rw[hq]at h
  refine e02 (λe1 q9=>e34 (λz np cp e2 h1 h2 q9=>e03 (λh3 h4 h5=>?_) q9) q9) (zWd hq)
  rw[e1,e2]
  exact Z cx X V C CA ht hs h4 h5 h1 h2 h3 (B':=λloc K m=>wpE W too T n (cE k (zAk sc.names) elt) (λy σ₂=>∃ m' y',Fz σ₂.mu y m' y'/\K (some y') m') no ⟨loc,m⟩)
   (λcx' C' hk CA' loc K m h=>by rw[<-hk]at h;exact I.e C' CA' h) ((I.e C CA h).mono λd V q=>I.e C CA q)
theorem zZc(h:zZd e=some q):e=.Attribute q.1 q.2.1 q.2.2:=by
 cases e with
 |Attribute _ _ _=>cases h;rfl
 |_=>exact zA2 h
theorem zSt(h:zJf e=some q):∃ p,e=.Slice q.1 q.2.1 q.2.2 p:=by
 cases e with
 |Slice _ _ _ p=>cases h;exact⟨p,rfl⟩
 |_=>exact zA2 h
theorem zOb(h:wpE W too T n (optB o f b) Q X V):(∃ a,o=some a/\wpE W too T n (f a) Q X V)\/(o=none/\wpE W too T n b Q X V):=by
 cases o with
 |none=>exact .inr ⟨rfl,h⟩
 |some a=>exact .inl ⟨a,rfl,h⟩
theorem zUx(I:Ih W too T n k)(C:CxOk n cx)(CA:zAf cx.env)(q:wpE W too T n (optB l (cE k cx.kd) (.cst .none)) Q X V):EvE W too cx (evalPart l cx.env) Q X V:=by
 cases l with
 |none=>exact zV8 q
 |some l=>exact zV8 (I.e C CA q)
theorem yGk(I:Ih W too T n k)(C:CxOk n cx)(CA:zAf cx.env)(h:wpE W too T n (cE (k+1) cx.kd (.Subscript o i p)) Q X V):EvE W too cx (eval (.Subscript o i p) cx.env) Q X V:=by
 rcases zOb h with⟨q,hq,h⟩|⟨hi,h⟩
 ·refine(zSt hq).elim λp ep=>?_
  rw[ep]
  rcases zOb h with⟨s,hs',h⟩|⟨hs,h⟩
  ·refine e02 (λhs h=>e02 (λhs h3=>e02 (λh1 h2=>?_) ((Bool.and_eq_true _ _).mp hs)) ((Bool.and_eq_true _ _).mp hs)) (zFe h)
   refine e31 (λp q r e=>?_) (yC2 h1)
   rw[hs',e,Option.isNone_iff_eq_none.mp h2,Option.isNone_iff_eq_none.mp h3]
   exact yGy (I.e C CA h)
  ·rw[hs]
   exact yGx ((I.e C CA h).mono λd V q=>(zUx I C CA q).mono λd V q=>zUx I C CA q)
 ·exact yGw hi ((I.e C CA h).mono λd V q=>I.e C CA q)
theorem yCd(B:Base W too rb fI fd T)(I:Ih W too T n k)(C:CxOk n cx)(CA:zAf cx.env){f:PySem.Expr}{ks:List Keyword}{pos:Pos}{Q:DV->St->Prop}(h:wpE W too T n (cE (k+1) cx.kd (.Call f es ks pos)) Q X V):EvE W too cx (eval (.Call f es ks pos) cx.env) Q X V:=by
 have an:∀{a b:Bool},(a&&b)=true->a=true/\b=true:=λ{a b} h=>(Bool.and_eq_true a b).mp h
 refine e02 (λhk h=>?_) (zFe h)
 rw[zCg hk]
 rcases zOb h with⟨q,hq,h⟩|⟨hf,h⟩
 ·rw[zZc hq]
  refine e02 (λhs h=>e02 (λhs h5=>e02 (λhs h4=>e02 (λhs h3=>e02 (λh1 h2=>?_) (an hs)) (an hs)) (an hs)) (an hs)) (zFe h)
  exact yCo B.wo B.tb C h1 h2 h3 h4 h5 ((I.e C CA h).mono λd V q=>zD7 q λc q=>I.es C CA h2 q)
 ·refine e02 (λhs h=>?_) (zFe h)
  exact yCq B.wo B.tb C hf hs ((I.e C CA h).mono λd V q=>I.es C CA hs q)
theorem ih_e(B:Base W too rb fI fd T)(Z:zJd W too n)(I:Ih W too T n k){e:PySem.Expr}(C:CxOk n cx)(CA:zAf cx.env)(h:wpE W too T n (cE (k+1) cx.kd e) Q X V):EvE W too cx (eval e cx.env) Q X V:=by
 cases e with
 |Constant c p q=>
  exact zYt h
 |Name x p=>
  exact yCn C.env B.wo C.kinds B.gl h
 |Tuple es p q=>
  refine e02 (λhs h=>?_) (zFe h)
  exact yGv (I.es C CA hs h)
 |List es p=>
  refine e02 (λhs h=>?_) (zFe h)
  exact yH1 (I.es C CA hs h)
 |Dict ks vs p=>
  refine e12 (λl hl h=>?_) (zEt h)
  refine e02 (λhs h=>?_) (zFe h)
  rw[Bool.and_eq_true]at hs
  exact yH4 hl hs.1 hs.2 h
 |BinOp a op b p=>
  refine e12 (λo ho h=>?_) (zEt h)
  exact yH6 ho ((I.e C CA h).mono λd V q=>I.e C CA q)
 |UnaryOp op a p=>
  cases op with
  |USub=>
   refine e12 (λi hi h=>?_) (zEt h)
   obtain⟨p,q,rfl⟩:=zLe hi
   exact yH0 h
  |Not=>
   exact yGz (I.e C CA h)
  |_=>
   exact h.elim
 |IfExp t a b p=>
  refine yH2 ((I.t C CA h).mono λt V q=>?_)
  cases t with
  |true=>
   exact I.e C CA q
  |false=>
   exact I.e C CA q
 |BoolOp op es pos=>
  have:=I.bo (pos:=pos) C CA h
  exact this
 |Compare a ops es p=>
  rcases yHh h with⟨b,hb,h⟩|⟨hm,r,hr,h⟩
  ·obtain⟨p,q,rfl,rfl⟩:=zUm hb
   cases b with
   |true=>
    exact yH3 (b:=true) (I.e C CA h)
   |false=>
    exact yH3 (b:=false) (I.e C CA h)
  ·exact yH5 B.wo C.room.u hm ((I.e C CA h).mono λd V q=>I.c C CA hr q)
 |Call f es ks pos=>exact yCd B I C CA h
 |Attribute o m p=>
  refine e02 (λhs h=>?_) (zFe h)
  rw[Bool.and_eq_true]at hs
  exact yCr B.wo B.tb hs.1 hs.2 (I.e C CA h)
 |Subscript o i p=>exact yGk I C CA h
 |ListComp elt gens sc pos=>
  exact yCc B Z I C CA h
 |_=>
  exact h.elim
noncomputable def zGm:CE->Bool
 |.notE _=>false
 |.andE _ _=>false
 |.orE _ _=>false
 |.cmp _ _=>false
 |.ite _ _ _=>false
 |.isN _ _=>false
 |_=>true
theorem yAi(hc:zGm c=true)(h:wpT W too T n c Q X V):wpE W too T n c (λd V=>opt (zCh d) λt=>Q t V) X V:=by
 cases c<;>first|exact h|exact h.elim|(cases hc;done)
theorem zJ4(h:wpT W too T n (if c=true then a else .bad) Q X V):c=true/\wpT W too T n a Q X V:=by
 cases c with
 |true=>
  exact⟨rfl,h⟩
 |false=>
  exact h.elim
theorem zF5(h:wpT W too T n (ob .bad o f) Q X V):∃ a,o=some a/\wpT W too T n (f a) Q X V:=by
 cases o with
 |none=>
  exact h.elim
 |some a=>
  exact⟨a,rfl,h⟩
theorem yDi{f:Bool->CE}{c:Bool}{g:CCs->CE}(h:wpT W too T n (ob (if c=true then .bad else ob .bad r g) o f) Q X V):(∃ b,o=some b/\wpT W too T n (f b) Q X V)\/(c=false/\∃ a,r=some a/\wpT W too T n (g a) Q X V):=by
 cases o with
 |some b=>
  exact .inl ⟨b,rfl,h⟩
 |none=>
  cases c with
  |true=>
   exact h.elim
  |false=>
   exact .inr ⟨rfl,zF5 h⟩
theorem zWk(B:Base W too rb fI fd T)(Z:zJd W too n)(I:Ih W too T n k)(C:CxOk n cx)(CA:zAf cx.env)(h:wpT W too T n (cE (k+1) cx.kd e) Q X V)(hn:zGm (cE (k+1) cx.kd e)=true)(he:isTrue e cx.env (eval e cx.env)=(do let v <-eval e cx.env;standAt e.pos;holding [v] (truthy v))):EvG W too cx (isTrue e cx.env (eval e cx.env)) Q X V:=zWj he (ih_e B Z I C CA (yAi hn h))
theorem iff(h:zGm a=true):zGm (if c=true then a else .bad)=true:=by cases c with|true=>exact h|false=>rfl
theorem ih_t(B:Base W too rb fI fd T)(Z:zJd W too n)(I:Ih W too T n k){e:PySem.Expr}(C:CxOk n cx)(CA:zAf cx.env)(h:wpT W too T n (cE (k+1) cx.kd e) Q X V):EvG W too cx (isTrue e cx.env (eval e cx.env)) Q X V:=by
 cases e with
 |Constant c p q=>
  exfalso
  cases c with
  |str x=>
   replace h:wpT W too T n (if okc x=true then .cst (.str (enc x))else .bad) Q X V:=h
   refine e02 (λU h=>?_) (zJ4 h);exact h
  |_=>
   exact h
 |Name x p=>
  refine zWk B Z I C CA h ?_ rfl
  refine iff ?_
  show zGm (match zAn cx.kd (enc x)with|0=>CE.var (enc x)|1=>.var (enc x)|2=>.glob (enc x)|_=>.bad)=true
  match zAn cx.kd (enc x)with
  |0=>rfl
  |1=>rfl
  |2=>rfl
  |_+3=>rfl
 |Tuple es p q=>
  refine e02 (λU h=>?_) (zJ4 h);exact h.elim
 |List es p=>
  refine e02 (λU h=>?_) (zJ4 h);exact h.elim
 |Dict ks vs p=>
  refine e12 (λl hl h=>?_) (zF5 h)
  refine e02 (λU h=>?_) (zJ4 h);exact h.elim
 |BinOp a op b p=>
  refine e12 (λl hl h=>?_) (zF5 h);exact h.elim
 |UnaryOp op a p=>
  cases op with
  |USub=>
   refine e12 (λl hl h=>?_) (zF5 h);exact h.elim
  |Not=>
   exact yEk (I.t C CA h)
  |_=>
   exact h.elim
 |IfExp t a b p=>
  refine yEl ((I.t C CA h).mono λt V q=>?_)
  cases t with
  |true=>
   exact I.t C CA q
  |false=>
   exact I.t C CA q
 |BoolOp op es pos=>
  exact I.tb C CA h
 |Compare a ops es p=>
  rcases yDi h with⟨b,hb,h⟩|⟨hm,r,hr,h⟩
  ·obtain⟨p,q,rfl,rfl⟩:=zUm hb
   cases b with
   |true=>
    exact yEm (b:=true) (I.e C CA h)
   |false=>
    exact yEm (b:=false) (I.e C CA h)
  ·exact yEn B.wo C.room.u hm ((I.e C CA h).mono λd V q=>I.c C CA hr q)
 |Call f es ks pos=>
  refine zWk B Z I C CA h (iff ?_) rfl
  cases zZd f with
  |none=>exact iff rfl
  |some q=>exact iff rfl
 |Attribute o m p=>
  exact zWk B Z I C CA h (iff rfl) rfl
 |Subscript o i p=>
  refine zWk B Z I C CA h (?_:zGm (optB (zJf i) _ _)=true) rfl
  cases zJf i with
  |none=>rfl
  |some q=>cases q with
   |mk a q=>cases q with
    |mk b c=>cases c with
     |none=>rfl
     |some s=>exact iff rfl
 |ListComp elt gens sc pos=>
  refine e12 (λg U h=>e12 (λns U h=>e02 (λU h=>?_) (zJ4 h)) (zF5 h)) (zF5 h)
  generalize zS9 cx.kd ns g.2.1 g.2.2=o at h
  cases o<;>exact h.elim
 |_=>
  exact h.elim
theorem yA0(B:Base W too rb fI fd T)(Z:zJd W too n):∀ k,Ih W too T n k
 |0=>yCb
 |k+1=>by
  have I:=yA0 B Z k
  exact⟨λC CA h=>ih_e B Z I C CA h,λC CA hs h=>yIy I C CA hs h,λC CA h=>yIz I C CA h,λC CA hc h=>ih_c I C CA hc h,λC CA h=>ih_t B Z I C CA h,λC CA h=>yIx I C CA h,λC CA h=>yIw I C CA h⟩
end
end
section
section
variable {W:Wd}{too rb fI:Addr}{fd:FuncData}{T:Tb}{n:Nat}{cx:Cx}{X:DV->St->Prop}{V:St}{g g':Hp}{m:Mt}{s s':Shared}{E:Value->Shared->Prop}{k:Nat}
variable (W too rb fI fd T n) in
structure IhS(k:Nat):Prop where
 s:∀{cx:Cx} {a:Stmt} {Q X V},CxOk n cx->StOk cx->zAf cx.env->wpS W too T n (cS k cx.kd a) Q X V->EvS W too cx (exec a cx.env) Q X V
 ss:∀{cx:Cx} {a:List Stmt} {Q X V},CxOk n cx->StOk cx->zAf cx.env->wpSs W too T n (cSs k cx.kd a) Q X V->EvS W too cx (execs a cx.env) Q X V
theorem yGj(I:IhS W too T n k)(C:CxOk n cx)(SO:StOk cx)(CA:zAf cx.env)(h:wpSs W too T n (cSs (k+1) cx.kd a) Q X V):EvS W too cx (execs a cx.env) Q X V:=by
 cases a with
 |nil=>
  exact zZq h
 |cons a r=>
  refine zSo ((I.s C SO CA h).mono λf V q=>?_)
  cases f with
  |none=>
   exact I.ss C SO CA q
  |some d=>
   exact q
theorem zJa(hf:vs.all (foldedForSure 8)=true)(env:Env):swappedStores [.Tuple ts k p] (.Tuple vs k' p') env=pure none:=by
 unfold swappedStores
 show(if _ then pure none else if _ then pure none else _)=_
 split
 ·rfl
 split
 ·rfl
 dsimp only
 split
 ·rfl
 first|rfl|rw[if_pos hf]
theorem zM9(I:Ih W too T n k)(C:CxOk n cx)(CA:zAf cx.env)(hc:zEa v=false)(hs:swappedStores [t] v cx.env=pure none)(ht:assignEach [t] cx.env=[(false,assign t cx.env)])
  (ha:∀ d V,wpA W too T n ct d (λV=>Q none V) X V->∀ g s w,Good W cx g V s->Rep g d w->wpAny W.M cx.A (assign t cx.env w) (PostG W cx g λU V=>Q none V) (EX W too cx X) s)
  (h:wpS W too T n (.asg ct (cE k cx.kd v)) Q X V):EvS W too cx (exec (.Assign [t] v pos) cx.env) Q X V:=by
 exact yF0 hc hs ((I.e C CA h).mono λd V q=>ha d V q) ht
theorem zKf(v:PySem.Expr)(env:Env):swappedStores [.Tuple [.Attribute o₁ x₁ p₁,.Attribute o₂ x₂ p₂,.Attribute o₃ x₃ p₃] k pos] v env=pure none:=by
 cases hv:zQq v with
 |none=>exact zMe hv env
 |some vs=>
  refine e21 (λk p e=>?_) (zFp hv)
  rw[e]
  unfold swappedStores
  show(if _ then pure none else if _ then pure none else _)=_
  split
  ·rfl
  split
  ·rfl
  rfl
theorem zEu(h:wpS W too T n (if c=true then a else .bad) Q X V):c=true/\wpS W too T n a Q X V:=by
 cases c with
 |true=>
  exact⟨rfl,h⟩
 |false=>
  exact h.elim
theorem zQf(h:wpS W too T n (if c=true then .bad else a) Q X V):c=false/\wpS W too T n a Q X V:=by
 cases c with
 |false=>
  exact⟨rfl,h⟩
 |true=>
  exact h.elim
theorem zBx(h:wpS W too T n (ob .bad o f) Q X V):∃ a,o=some a/\wpS W too T n (f a) Q X V:=by
 cases o with
 |none=>
  exact h.elim
 |some a=>
  exact⟨a,rfl,h⟩
theorem zS5(h:zW4 ts=some q):∃ p₁ p₂ p₃,ts=[.Attribute q.1.1 q.1.2 p₁,.Attribute q.2.1.1 q.2.1.2 p₂,.Attribute q.2.2.1 q.2.2.2 p₃]:=by
 refine e12 (λr h0 h=>e12 (λx h1 h=>e12 (λy h2 h=>e12 (λz h3 h=>?_) (zA1 h)) (zA1 h)) (zA1 h)) (zA1 h)
 rw[<-Option.some.inj h]
 exact(zGd h1).imp λp₁ e1=>(zGd h2).imp λp₂ e2=>(zGd h3).imp λp₃ e3=>by rw[zMc h0,<-e1,<-e2,<-e3]
theorem zJg{o:DV}{K K':St->Prop}(h:zF9 T o x d K V)(k:∀ V,K V->K' V):zF9 T o x d K' V:=
 zD7 h λa h=>zD7 h λr h=>by
  refine e02 (λh1 h=>e02 (λh2 h=>?_) (zE8 h)) (zE8 h)
  rw[h1,h2];exact k _ h
theorem zMv(h:wpS W too T n (optB o f b) Q X V):(∃ a,o=some a/\wpS W too T n (f a) Q X V)\/(o=none/\wpS W too T n b Q X V):=by
 cases o with
 |none=>exact .inr ⟨rfl,h⟩
 |some a=>exact .inl ⟨a,rfl,h⟩
theorem zXp(h:yFv e=some q):e=.Name q.1 q.2:=by
 cases e with
 |Name _ _=>cases h;rfl
 |_=>exact zA2 h
theorem zZw(h:lcP e=some q):e=.ListComp q.1 q.2.1 q.2.2.1 q.2.2.2:=by
 cases e with
 |ListComp _ _ _ _=>cases h;rfl
 |_=>exact zA2 h
theorem yAp(h:subE e=some q):∃ p,e=.Subscript q.1 q.2 p:=by
 cases e with
 |Subscript a b p=>cases h;exact⟨p,rfl⟩
 |_=>exact zA2 h
theorem a3{a b c:Bool}{P:Prop}(h:(a&&b&&c)=true)(k:a=true->b=true->c=true->P):P:=by
 cases a<;>cases b<;>cases c<;>first|exact Bool.noConfusion h|exact k rfl rfl rfl
theorem zZf(B:Base W too rb fI fd T)(J:∀ k,Ih W too T n k)(C:CxOk n cx)(CA:zAf cx.env)(hx:zC3 cx.kd x=some (enc x))(hl:(p.line==vp.line)=true)(hno:(kinds sc.names).all (λq=>!(Nat.beq q.1 (enc x))||Nat.beq q.2 2||Nat.beq q.2 8)=true)
  (hz:ob false (zYj gens) (λg=>(zS8 g.2.1).isNone)=true) (h:wpE W too T n (cE k cx.kd (.ListComp elt gens sc vp)) (λd V=>Q none ⟨put V.loc (enc x) d,V.mu⟩) X V):EvS W too cx (exec (.Assign [.Name x p] (.ListComp elt gens sc vp) pos) cx.env) Q X V:=by
 cases k with
 |zero=>exact h.elim
 |succ k=>
  refine e12 (λg hg h=>e12 (λns ht h=>e02 (λhs h=>e02 (λhs hp=>?_) ((Bool.and_eq_true _ _).mp hs)) (zFe h)) (zEt h)) (zEt h)
  rw[hg]at hz
  have hn:zS9 cx.kd ns g.2.1 g.2.2=none:=by
   show(if zGr g.2.2=true then ob none (zS8 g.2.1) _ else none)=none
   rw[Option.isNone_iff_eq_none.mp hz]
   cases zGr g.2.2<;>rfl
  rw[hn]at h
  rw[zPz hg]
  exact yEz C CA B.wo ht hs hp hx hl hno (B':=λloc K m=>wpTs W too T n (cEs k (zAk sc.names) g.2.2) (λok σ₁=>sel ok (wpE W too T n (cE k (zAk sc.names) elt) (λy σ₂=>∃ m' y',Fz σ₂.mu y m' y'/\K (some y') m') no σ₁) (K none σ₁.mu)) no ⟨loc,m⟩)
   (λcx' C' hk CA' loc K m h=>zNj (J k) C' hk CA' h) ((J k).e C CA h)
theorem zNo(I:Ih W too T n k)(C:CxOk n cx)(SO:StOk cx)(CA:zAf cx.env)(hc:zEa v=false)(hs:swappedStores [.Tuple ts k₀ p] v cx.env=pure none)(h:wpS W too T n (asgN cx.kd (cE k cx.kd v) ts) Q X V):EvS W too cx (exec (.Assign [.Tuple ts k₀ p] v pos) cx.env) Q X V:=by
 refine e12 (λl hl h=>e02 (λhd h=>?_) (zEu h)) (zBx h)
 refine zM9 I C CA hc hs rfl (λd V q=>?_) h
 exact zW7 C.room.h (zKh C.env SO C.kinds) (ns:=.tup l) (by show ob none (zEs (cSto cx.kd) ts) _=_;rw[hl];exact if_pos hd) q
theorem yDj(B:Base W too rb fI fd T)(I:Ih W too T n k){v:PySem.Expr}{k₀:Nat}{p pos:Pos}{Q:Option DV->St->Prop}(C:CxOk n cx)(SO:StOk cx)(CA:zAf cx.env)(hc:zEa v=false)(h:wpS W too T n (yHg k cx.kd ts v) Q X V):EvS W too cx (exec (.Assign [.Tuple ts k₀ p] v pos) cx.env) Q X V:=by
 rcases zMv h with⟨q,ha,h⟩|⟨_,h⟩
 ·refine e02 (λhx h=>a3 hx λx1 x2 x3=>e31 (λp₁ p₂ p₃ e=>?_) (zS5 ha)) (zEu h)
  rw[e]
  refine zM9 I C CA hc (zKf _ _) rfl (λd V q=>?_) h
  exact yDt B.wo B.tb C.room.h x1 x2 x3 (zD7 q λl q=>zD7 q λr q=>(I.e C CA q).mono λov V q=>zJg q λV q=>(I.e C CA q).mono λov V q=>zJg q λV q=>I.e C CA q)
 ·rcases zMv h with⟨vs,hv,h⟩|⟨hv,h⟩
  ·refine e21 (λk₁ p₁ e=>?_) (zFp hv)
   rw[e]at h hc ⊢
   cases hf:vs.all (foldedForSure 8)with
   |true=>
    rw[hf]at h;exact zNo I C SO CA hc (zJa hf _) h
   |false=>
    rw[hf]at h
    exact e12 (λl hl h=>yEx C.room.h C.env C.kinds hl hf (I.e C CA h)) (zBx h)
  ·exact zNo I C SO CA hc (zMe hv _) h
theorem yCa(B:Base W too rb fI fd T)(J:∀ k,Ih W too T n k){t v:PySem.Expr}{pos:Pos}{Q:Option DV->St->Prop}(C:CxOk n cx)(SO:StOk cx)(CA:zAf cx.env)(h:wpS W too T n (cAsg k cx.kd t v) Q X V):EvS W too cx (exec (.Assign [t] v pos) cx.env) Q X V:=by
 have I:=J k
 unfold cAsg at h
 cases hc:zEa v with
 |true=>
  rw[hc]at h
  refine e12 (λx ex h=>e12 (λq eq h=>e12 (λy hy h=>e02 (λhs h=>a3 hs λh1 h2 h3=>?_) (zEu h)) (zBx h)) (zBx h)) (zBx h)
  have ey:=(zC8 hy).2.1
  rw[ey]at h h2 hy
  rw[zZw eq]at h
  rw[zXp ex,zZw eq]
  exact zZf B J C CA hy h1 h2 h3 h
 |false=>
  rw[hc]at h
  rcases zMv h with⟨x,hx,h⟩|⟨_,h⟩
  ·refine e12 (λy hy h=>e11 (λp e=>?_) (zCj hx)) (zBx h)
   rw[e]
   refine zM9 I C CA hc (zEf rfl _) rfl (λd V q=>?_) h
   exact zW7 C.room.h (zKh C.env SO C.kinds) (ns:=.one y) (by show ob none (cSto cx.kd x) _=_;rw[hy];rfl) q
  rcases zMv h with⟨ts,ht,h⟩|⟨_,h⟩
  ·refine e21 (λk p e=>?_) (zFp ht)
   rw[e]
   exact yDj B I C SO CA hc h
  rcases zMv h with⟨q,hq,h⟩|⟨_,h⟩
  ·refine e02 (λhx h=>e11 (λp e=>?_) (zGd hq)) (zEu h)
   rw[e]
   refine zM9 I C CA hc (zEf rfl _) rfl (λd V q=>?_) h
   exact zQj B.wo B.tb hx (I.e C CA q)
  ·refine e12 (λq hq h=>e02 (λU h=>e11 (λp e=>?_) (yAp hq)) (zQf h)) (zBx h)
   rw[e]
   refine zM9 I C CA hc (zEf rfl _) rfl (λd V q=>?_) h
   exact yJe C.room.u ((I.e C CA q).mono λd V q=>I.e C CA q)
theorem zNe(B:Base W too rb fI fd T)(C:CxOk n cx)(hk:zAn cx.kd (enc "TooLarge")=2)(G:Good W cx g V s)(q:Q (.ref too) s):wpAny W.M A' (eval (.Name "TooLarge" pos) cx.env) Q E s:=by
 refine e02 (λhd' q9=>e12 (λv r hv=>?_) q9) (B.gl "TooLarge" (.cls too) (by decide) B.too_)
 have hg:s.heap.Ns cx.env.globals W.mg:=by rw[C.env.gl];exact B.wo.ng.keeps G.sim.ext
 have hb:s.heap.Ns cx.env.builtins W.mb:=by rw[C.env.bi];exact B.wo.nb.keeps G.sim.ext
 rw[show v=.ref too from zAw r]at hv
 refine Calls.Name_function_global C.env.kind ((C.kinds "TooLarge" (by decide)).2.2 hk) ?_ hd'
 exact hv.elim (λhv=>Calls.loadGlobal_global hg hv q) λhv=>Calls.loadGlobal_builtin hg hv.1 hb hv.2 q
theorem zFl(h:Nat.beq (enc x) (enc "TooLarge")=true)(hx:okc x=true):x="TooLarge":=zBz hx (by decide) (Nat.eq_of_beq_eq_true h)
theorem yBy(h:Nat.beq (enc x) (enc "told")=true)(hx:okc x=true):x="told":=zBz hx (by decide) (Nat.eq_of_beq_eq_true h)
theorem zR8(h:zTc x c=some q):c=none/\∃ p r,x=some (.Call (.Name q.1 p) [q.2] [] r):=by
 cases x with
 |none=>exact zA2 h
 |some x=>cases c with
  |some _=>exact zA2 h
  |none=>
   refine e12 (λf hc h=>e02 (λh1 h=>e12 (λy h2 h=>e12 (λe h3 h=>⟨rfl,?_⟩) (zA1 h)) (zA1 h)) (zBm h)) (zA1 h)
   rw[<-Option.some.inj h]
   exact(zCj h2).imp λp hp=>(zQc hc).imp λr hr=>by rw[hr,hp,zCg h1,zDx h3]
theorem yDl{s:Stmt}{q:List PySem.Expr×PySem.Expr}(h:asgE s=some q):∃ p,s=.Assign q.1 q.2 p:=by
 cases s with
 |Assign ts v p=>cases h;exact⟨p,rfl⟩
 |_=>exact zA2 h
theorem zQh{l:List Stmt}{q:Str×PySem.Expr}(h:yDk l=some q):∃ p r,l=[.Assign [.Name q.1 p] q.2 r]:=by
 refine e12 (λs hs h=>e12 (λa h0 h=>e12 (λt h1 h=>e12 (λx h2 h=>?_) (zA1 h)) (zA1 h)) (zA1 h)) (zA1 h)
 rw[<-Option.some.inj h]
 exact(zCj h2).imp λp hp=>(yDl h0).imp λr hr=>by rw[zDx hs,hr,<-hp,<-zDx h1]
theorem zW3(h:yAb e=some q):∃ p r,e=.Attribute (.Name q.1 p) q.2 r:=by
 refine e12 (λo h1 h=>e12 (λx h2 h=>?_) (zA1 h)) (zA1 h)
 rw[<-Option.some.inj h]
 exact(zCj h2).imp λp hp=>(zGd h1).imp λr hr=>by rw[hr,hp]
noncomputable def hnd(q:Str×Str×Str×Str×Str)(p₁ p₂ p₃ p₄ p₅ p₆:Pos):ExceptHandler:=.ExceptHandler (some (.Name q.1 p₁)) (some q.2.1) [.Assign [.Name q.2.2.1 p₂] (.Attribute (.Name q.2.2.2.1 p₃) q.2.2.2.2 p₄) p₅] p₆
theorem zYg{l:List ExceptHandler}{P:Prop}(h:yGm l=some q)(k:∀ p₁ p₂ p₃ p₄ p₅ p₆,l=[hnd q p₁ p₂ p₃ p₄ p₅ p₆]->P):P:=by
 refine(zA1 h).elim λx h=>?_
 cases x with
 |ExceptHandler c ev b p₆=>
  refine e02 (λhs h=>e12 (λc' h1 h=>e12 (λc₂ h2 h=>e12 (λev' h3 h=>e12 (λa h4 h=>e12 (λr h5 h=>?_) (zA1 h)) (zA1 h)) (zA1 h)) (zA1 h)) (zA1 h)) h
  refine e11 (λp₁ e1=>e21 (λp₂ p₅ e2=>e21 (λp₃ p₄ e3=>k p₁ p₂ p₃ p₄ p₅ p₆ ?_) (zW3 h5)) (zQh h4)) (zCj h2)
  rw[<-Option.some.inj h,zDx hs,h1,h3,e1,e2,e3];rfl
theorem a5{a b c d e:Bool}{P:Prop}(h:(a&&b&&c&&d&&e)=true)(k:a=true->b=true->c=true->d=true->e=true->P):P:=
 e02 (λh h5=>e02 (λh h4=>a3 h λh1 h2 h3=>k h1 h2 h3 h4 h5) ((Bool.and_eq_true _ _).mp h)) ((Bool.and_eq_true _ _).mp h)
theorem a10{a b c d e f g h i j:Bool}{P:Prop}(H:(a&&b&&c&&d&&e&&f&&g&&h&&i&&j)=true)(k:a=true->b=true->c=true->d=true->e=true->f=true->g=true->h=true->i=true->j=true->P):P:=by
 cases j with
 |false=>exact Bool.noConfusion ((Bool.and_false _).symm.trans H)
 |true=>cases i with
  |false=>exact Bool.noConfusion (((congrArg (·&&true) (Bool.and_false _)).symm.trans H))
  |true=>
   have an:∀{a b:Bool},(a&&b)=true->a=true/\b=true:=λ{a b} h=>(Bool.and_eq_true a b).mp h
   have H:=(an (an H).1).1
   exact a5 (an (an (an H).1).1).1 λh1 h2 h3 h4 h5=>k h1 h2 h3 h4 h5 (an (an (an H).1).1).2 (an (an H).1).2 (an H).2 rfl rfl
theorem yC9(B:Base W too rb fI fd T)(J:∀ k,Ih W too T n k){b:List Stmt}{hs:List ExceptHandler}{pos:Pos}{q:Nat×PySem.Expr×Nat×Nat}(C:CxOk n cx)(SO:StOk cx)(CA:zAf cx.env)(hq:yEi cx.kd b hs=some q)(h:wpS W too T n (.tryT q.1 (cE k cx.kd q.2.1) q.2.2.1 q.2.2.2) Q X V):EvS W too cx (exec (.Try b hs [] [] pos) cx.env) Q X V:=by
 refine e12 (λa hb hq=>e12 (λr hh hq=>e12 (λx' hx hq=>e12 (λt' ht hq=>e12 (λev₁ hev hq=>e02 (λhc hq=>?_) (zBm hq)) (zA1 hq)) (zA1 hq)) (zA1 hq)) (zA1 hq)) (zA1 hq)
 rw[<-Option.some.inj hq]at h
 refine a10 hc λh1 h2 h3 h4 h5 h6 h7 h8 h9 h10=>?_
 refine e21 (λxp sp e1=>zYg hh λp₁ p₂ p₃ p₄ p₅ p₆ e2=>?_) (zQh hb)
 rw[e1,e2]
 replace h9:=(Bool.not_eq_true' _).mp h9
 have ex:=(zC8 hx).2.1
 rw[ex]at hx h h8
 have et:=(zC8 ht).2.1
 rw[et]at ht h h8
 have oke:=(zC8 hev).1
 have ee:=(zC8 hev).2.1
 rw[ee]at hev h h5 h8 h10
 have he':r.2.2.2.1=r.2.1:=zBz h4 oke (Nat.eq_of_beq_eq_true h5)
 have hdbg:(r.2.1==("__debug__": Str))=false:=beq_eq_false_iff_ne.mpr λe=>by rw[e,zBn]at h10;exact Bool.noConfusion h10
 have nd:=(List.nodup_cons.mp (List.nodup_cons.mp (zBw h8)).2).1
 unfold hnd
 rw[he',yBy h7 h6,zFl h1 h2]
 exact yI4 B.wo B.exc C SO hx ht hev (λe=>nd (List.mem_singleton.mpr e)) hdbg h9 (λg₀ A' E g V s Q G q=>zNe (cx:=cx.frm g₀) B ⟨C.env,C.room,C.kinds,C.frames⟩ (zFl h1 h2▸Nat.eq_of_beq_eq_true h3) G q)
  (λg₀=>(J k).e (cx:=cx.frm g₀) ⟨C.env,C.room,C.kinds,C.frames⟩ CA h)
theorem zUw(B:Base W too rb fI fd T)(J:∀ k,Ih W too T n k){c:Str}{e:PySem.Expr}{Q:Option DV->St->Prop}(C:CxOk n cx)(CA:zAf cx.env)(hc:(Nat.beq (enc c) (enc "TooLarge")&&okc c&&Nat.beq (zAn cx.kd (enc c)) 2&&!(zPv e))=true)(h:wpS W too T n (.raiseT (cE k cx.kd e)) Q X V):EvS W too cx (exec (.Raise (some (.Call (.Name c p) [e] [] r)) none pos) cx.env) Q X V:=by
 refine e02 (λhc h4=>a3 hc λh1 h2 h3=>?_) ((Bool.and_eq_true _ _).mp hc)
 rw[zFl h1 h2]at h3 ⊢
 exact yB3 B.wo B.exc B.ini C ((Bool.and_eq_true _ _).mpr ⟨h4,rfl⟩) (λQ q g s G=>zNe B C (Nat.eq_of_beq_eq_true h3) G (G.post (.cls _) q)) ((J k).e C CA h)
theorem yIv(B:Base W too rb fI fd T)(J:∀ k,Ih W too T n k)(S:IhS W too T n k)(C:CxOk n cx)(SO:StOk cx)(CA:zAf cx.env)(h:wpS W too T n (cS (k+1) cx.kd a) Q X V):EvS W too cx (exec a cx.env) Q X V:=by
 have I:=J k
 cases a with
 |Assign ts v p=>
  refine e12 (λt ht h=>?_) (zBx h)
  rw[zDx ht]
  exact yCa B J C SO CA h
 |Expr v p=>
  refine e02 (λhc h=>?_) (zQf h)
  exact yEy C.env hc (I.e C CA h)
 |Return v p=>
  exact e12 (λv e h=>by rw[e];exact yI5 (I.e C CA h)) (zBx h)
 |If t a b p=>
  refine s_if ((I.t C CA h).mono λt V q=>?_)
  cases t with
  |true=>
   exact S.ss C SO CA q
  |false=>
   exact S.ss C SO CA q
 |While t b els pos=>
  refine e02 (λhn h₁=>?_) (zEu h)
  rw[zCg hn]
  exact yB2 C (Tt:=λQ V=>wpT W too T n (cE k cx.kd t) Q no V) (B:=λQ V=>wpSs W too T n (cSs k cx.kd b) Q no V) (λQ V q=>I.t C CA q) (λQ V q=>S.ss C SO CA q) h₁
 |For t it b els pos=>
  refine e02 (λhn h₁=>?_) (zEu h)
  refine e02 (λn1 n2=>e12 (λns ht h₁=>?_) (zBx h₁)) ((Bool.and_eq_true _ _).mp hn)
  rw[zCg n1]
  exact yI6 C SO ht n2 (B:=λQ V=>wpSs W too T n (cSs k cx.kd b) Q no V) (λI o C' SO' Q V q=>S.ss (cx:=cx.keep I o) C' SO' CA q) (I.e C CA h₁)
 |Raise x c p=>
  refine e12 (λq hq h₁=>?_) (zBx h)
  refine e02 (λhc h₁=>?_) (zEu h₁)
  refine e02 (λe1 e2=>e21 (λp r e2=>?_) e2) (zR8 hq)
  rw[e1,e2]
  exact zUw B J C CA hc h₁
 |Try b hs els fin p=>
  refine e02 (λhn h₁=>?_) (zEu h)
  refine e02 (λn1 n2=>e12 (λq hq h₁=>?_) (zBx h₁)) ((Bool.and_eq_true _ _).mp hn)
  rw[zCg n1,zCg n2]
  exact yC9 B J C SO CA hq h₁
 |_=>
  exact h.elim
theorem zOm(B:Base W too rb fI fd T)(Z:zJd W too n):∀ k,IhS W too T n k
 |0=>⟨λU U U h=>h.elim,λU U U h=>h.elim⟩
 |k+1=>⟨λC SO CA h=>yIv B (yA0 B Z) (zOm B Z k) C SO CA h,λC SO CA h=>yGj (zOm B Z k) C SO CA h⟩
theorem zWf(B:Base W too rb fI fd T)(Z:zJd W too n)(C:CxOk n cx)(SO:StOk cx)(CA:zAf cx.env)(hc:cSs k cx.kd body=c)(h:wpSs W too T n c Q X V):EvS W too cx (execs body cx.env) Q X V:=
 (zOm B Z k).ss C SO CA (hc▸h)
end
end
section
section
variable {prog:Program}{w:World}{A:Around}{E:Value->Shared->Prop}{s:Shared}
theorem zGn{it t:Addr}{i:Nat}{items:Array Value}{x:Value}{Q:Value->Shared->Prop}(hit:s.heap.IsTupleIter it t i)(ht:s.heap.IsTuple t items)(hx:items[i]?=some x)
  (hQ:∀ h',h'.IsTupleIter it t (i+1)->Heap.SameBut it s.heap h'->Q x {s with heap:=h'}):wpAny (model prog w) A (Builtin.SmallTypes.nextOf (.ref it)) Q E s:=by
 refine e13 (λo ho hc hd=>?_) (id hit)
 (revert ht;refine e13 λol hol U q9=>e11 (λnl hdl=>?_) q9)
 unfold Builtin.SmallTypes.nextOf
 refine wpAny_bind (wpAny_callSpecial?_slot (name:=Str.ofString "__next__") hit.typeIs F.slot_tuple_iterator_next
  (wpAny_call_entry F.slot_tuple_iterator_next hit.typeIs F.entry_tuple_iterator_next ?_ (F.args_tuple_iterator_next_1 _)))
 show wpAny _ _ (field (.ref it) 0 >>= _) _ _ s
 refine wpAny_bind (wpAny_field ho hd (x:=.ref t) rfl ?_)
 show wpAny _ _ (if(Value.ref t==Value.none)=true then _ else _) _ _ s
 rw[if_neg (show ¬ ((Value.ref t==Value.none)=true) from Bool.false_ne_true)]
 show wpAny _ _ (field (.ref it) 1 >>= _) _ _ s
 refine wpAny_bind (wpAny_field ho hd (x:=.int i 0) rfl ?_)
 show wpAny _ _ (seqItems? (.ref t) >>= _) _ _ s
 refine wpAny_bind (wpAny_seqItems hol hdl ?_)
 simp only[Int.toNat_natCast,hx]
 refine wpAny_bind (wpAny_setField ho hd (by simp) (wpAny_pure ⟨x,rfl,wpAny_pure (hQ _ ?_ (Heap.SameBut.update ..))⟩))
 exact⟨_,Heap.get?_update_self _ ho (Obj.isFreed_of_fields (Obj.data_mapFields hd _)),(Obj.cls_mapFields ..).trans hc,by rw[Obj.data_mapFields hd];simp[rawInt]⟩
theorem zMx{it t:Addr}{i:Nat}{items:Array Value}{Q:Value->Shared->Prop}(hh:A.handled=none)(hit:s.heap.IsTupleIter it t i)(ht:s.heap.IsTuple t items)(hx:items[i]?=none)
  (hE:∀ h' e,Heap.ExtBut it s.heap h'->(∃ o,h'.get? e=some o/\o.cls=.type "StopIteration")->E (.ref e) {s with heap:=h'}):wpAny (model prog w) A (Builtin.SmallTypes.nextOf (.ref it)) Q E s:=by
 refine e13 (λo ho hc hd=>?_) (id hit)
 (revert ht;refine e13 λol hol U q9=>e11 (λnl hdl=>?_) q9)
 unfold Builtin.SmallTypes.nextOf
 refine wpAny_bind (wpAny_callSpecial?_slot (name:=Str.ofString "__next__") hit.typeIs F.slot_tuple_iterator_next
  (wpAny_call_entry F.slot_tuple_iterator_next hit.typeIs F.entry_tuple_iterator_next ?_ (F.args_tuple_iterator_next_1 _)))
 show wpAny _ _ (field (.ref it) 0 >>= _) _ _ s
 refine wpAny_bind (wpAny_field ho hd (x:=.ref t) rfl ?_)
 show wpAny _ _ (if(Value.ref t==Value.none)=true then _ else _) _ _ s
 rw[if_neg (show ¬ ((Value.ref t==Value.none)=true) from Bool.false_ne_true)]
 show wpAny _ _ (field (.ref it) 1 >>= _) _ _ s
 refine wpAny_bind (wpAny_field ho hd (x:=.int i 0) rfl ?_)
 show wpAny _ _ (seqItems? (.ref t) >>= _) _ _ s
 refine wpAny_bind (wpAny_seqItems hol hdl ?_)
 simp only[Int.toNat_natCast,hx]
 refine wpAny_bind (wpAny_rule (wpAny_bind (wpAny_setField ho hd (by simp) ?_)))
 show wpAny _ _ (newExc (.type "StopIteration") [] >>= _) _ _ _
 refine wpAny_bind ?_
 simp only[newExc,newTuple]
 refine wpAny_bind (wpAny_newObj_type ?_ (by size_fits))
 refine wpAny_bind (m:=firstArgMember _ _) (wpAny_of_eq (a:=Value.none) (by first|rfl|(simp only[firstArgMember];rfl)) ?_)
 refine wpAny_newObj_type ?_ (by size_fits)
 simp only[raiseNew]
 refine wpAny_bind (wpAny_handled ?_)
 first|rw[show A.in1.handled=none from hh]|rw[hh]
 refine wpAny_bind (wpAny_pure (wpAny_throw ?_))
 exact hE _ _ (((Heap.SameBut.update ..).extBut.push _).push _) ⟨_,Heap.get?_push_size _ rfl,rfl⟩
structure ZA(z TI TO i1 i2 t1 t2:Addr):Prop where
 nd:[z,TI,TO,i1,i2].Nodup
 n1:t1∉[z,TI,TO,i1,i2]
 n2:t2∉[z,TI,TO,i1,i2]
structure ZF(z TI TO i1 i2 t1 t2:Addr):Prop where
 TIz:TI≠z
 TOz:TO≠z
 i1z:i1≠z
 i2z:i2≠z
 TITO:TI≠TO
 TIi1:TI≠i1
 TIi2:TI≠i2
 TOi1:TO≠i1
 TOi2:TO≠i2
 i12:i1≠i2
 t1z:t1≠z
 t1TO:t1≠TO
 t1i1:t1≠i1
 t1i2:t1≠i2
 t2z:t2≠z
 t2TO:t2≠TO
 t2i1:t2≠i1
 t2i2:t2≠i2
variable {z TI TO i1 i2 t1 t2:Addr}
theorem ZA.f(h:ZA z TI TO i1 i2 t1 t2):ZF z TI TO i1 i2 t1 t2:=by
 refine by_g λkG=>?_
 obtain⟨nd,n1,n2⟩:=h
 simp only[List.nodup_cons,List.mem_cons,List.not_mem_nil,or_false,not_or]at nd n1 n2
 obtain⟨⟨a1,a2,a3,a4⟩,⟨b1,b2,b3⟩,⟨c1,c2⟩,d1,_⟩:=nd
 (revert n1;refine e05 λp1 p2 p3 p4 p5=>?_)
 (revert n2;refine e05 λq1 q2 q3 q4 q5=>?_)
 refine kG ?_
 exact⟨Ne.symm a1,Ne.symm a2,Ne.symm a3,Ne.symm a4,b1,b2,b3,c1,c2,d1,p1,p3,p4,p5,q1,q3,q4,q5⟩
structure ZAt(h:Heap)(z TI TO i1 i2 t1 t2:Addr)(xs ys:Array Value)(f0:Value)(i j:Nat):Prop where
 zip:IsZip h z TI TO f0
 TI:IsPair h TI (.ref i1) (.ref i2)
 TO:∃ a b,IsPair h TO a b
 i1:h.IsTupleIter i1 t1 i
 i2:h.IsTupleIter i2 t2 j
 t1:h.IsTuple t1 xs
 t2:h.IsTuple t2 ys
theorem yE2{xs ys:Array Value}{k:Nat}{x y:Value}{Q:Value->Shared->Prop}(D:ZF z TI TO i1 i2 t1 t2)(Z:ZAt s.heap z TI TO i1 i2 t1 t2 xs ys .none k k)(hx:xs[k]?=some x)(hy:ys[k]?=some y)
  (hQ:∀ h',ZAt h' z TI TO i1 i2 t1 t2 xs ys (rawInt s.heap.objs.size) (k+1) (k+1)->IsPair h' s.heap.objs.size x y->(∀ c o,c∉[z,TI,TO,i1,i2]->s.heap.get? c=some o->h'.get? c=some o)->Q (.ref s.heap.objs.size) {s with heap:=h'}) :
  wpAny (model prog w) A (Builtin.«zip.__next__» ⟨[.ref z],[]⟩) (λfin s'=>∃ v,fin=.done (.ret v)/\Q v s') E s:=by
 obtain⟨hz,hTI,⟨a,b,hTO⟩,h1,h2,hl1,hl2⟩:=Z
 show wpAny _ _ (field (.ref z) 2 >>= _) _ _ _
 refine wpAny_bind (wpAny_field hz rfl (x:=.bool false) rfl ?_)
 show wpAny _ _ (field (.ref z) 3 >>= _) _ _ _
 refine wpAny_bind (wpAny_field hz rfl (x:=.ref TI) rfl ?_)
 refine wpAny_bind (wpAny_seqItems hTI rfl ?_)
 show wpAny _ _ (Builtin.SmallTypes.ownedTupleIsFree (.ref z) >>= _) _ _ _
 refine wpAny_bind ?_
 unfold Builtin.SmallTypes.ownedTupleIsFree
 refine wpAny_bind (wpAny_field hz rfl (x:=.none) rfl (wpAny_pure ?_))
 simp only[if_true]
 refine wpAny_bind (wpAny_rule ?_)
 refine wpAny_bind (wpAny_field hz rfl (x:=.ref TO) rfl ?_)
 refine wpAny_bind (wpAny_setField_rec hz (by simp) λh₁ hz₁ hs₁=>?_)
 replace hz₁:IsZip h₁ z TI TO .ellipsis:=hz₁
 refine wpAny_bind ?_
 simp only[List.zipIdx_cons,List.zipIdx_nil,List.forIn_cons,List.forIn_nil]
 refine wpAny_bind (wpAny_bind (wpAny_onRaise ?_))
 show wpAny _ _ (Builtin.SmallTypes.nextOf (.ref i1) >>= _) _ _ _
 refine wpAny_bind (zGn (h1.extBut hs₁.extBut D.i1z) (hl1.extBut hs₁.extBut D.t1z) hx λh₂ h1₂ hs₂=>wpAny_pure ?_)
 have hTO₂:IsPair h₂ TO a b:=hs₂.extBut _ _ D.TOi1 (hs₁.extBut _ _ D.TOz hTO)
 refine wpAny_bind (wpAny_seqItems hTO₂ rfl ?_)
 refine wpAny_bind (wpAny_updateSeq_pair hTO₂ λh₃ hTO₃ hs₃=>?_)
 replace hTO₃:IsPair h₃ TO x b:=hTO₃
 refine wpAny_bind (wpAny_letGo (wpAny_pure ?_))
 refine wpAny_bind (wpAny_bind (wpAny_onRaise ?_))
 show wpAny _ _ (Builtin.SmallTypes.nextOf (.ref i2) >>= _) _ _ _
 refine wpAny_bind (zGn (((h2.extBut hs₁.extBut D.i2z).extBut hs₂.extBut D.i12.symm).extBut hs₃.extBut D.TOi2.symm)
  (((hl2.extBut hs₁.extBut D.t2z).extBut hs₂.extBut D.t2i1).extBut hs₃.extBut D.t2TO) hy λh₄ h2₄ hs₄=>wpAny_pure ?_)
 have hTO₄:IsPair h₄ TO x b:=hs₄.extBut _ _ D.TOi2 hTO₃
 refine wpAny_bind (wpAny_seqItems hTO₄ rfl ?_)
 refine wpAny_bind (wpAny_updateSeq_pair hTO₄ λh₅ hTO₅ hs₅=>?_)
 replace hTO₅:IsPair h₅ TO x y:=hTO₅
 refine wpAny_bind (wpAny_letGo (wpAny_pure (wpAny_pure ?_)))
 refine wpAny_bind (wpAny_seqItems hTO₅ rfl ?_)
 refine wpAny_bind (wpAny_newTuple ?_)
 have keep:∀ c o,c≠z->c≠TO->c≠i1->c≠i2->s.heap.get? c=some o->h₅.get? c=some o:=λc o c1 c2 c3 c4 e=>
  hs₅.extBut _ _ c2 (hs₄.extBut _ _ c4 (hs₃.extBut _ _ c2 (hs₂.extBut _ _ c3 (hs₁.extBut _ _ c1 e))))
 have hz₅:IsZip h₅ z TI TO .ellipsis:=hs₅.extBut _ _ D.TOz.symm (hs₄.extBut _ _ D.i2z.symm (hs₃.extBut _ _ D.TOz.symm (hs₂.extBut _ _ D.i1z.symm hz₁)))
 have hsz:h₅.objs.size=s.heap.objs.size:=by rw[hs₅.1,hs₄.1,hs₃.1,hs₂.1,hs₁.1]
 have h1₅:h₅.IsTupleIter i1 t1 (k+1):=((h1₂.extBut hs₃.extBut D.TOi1.symm).extBut hs₄.extBut D.i12).extBut hs₅.extBut D.TOi1.symm
 have h2₅:h₅.IsTupleIter i2 t2 (k+1):=h2₄.extBut hs₅.extBut D.TOi2.symm
 have hzlt:z<h₅.objs.size:=Heap.lt_size hz₅
 show wpAny _ _ (Builtin.SmallTypes.ownedTupleHandOut (.ref z) (.ref h₅.objs.size) >>= _) _ _ _
 refine wpAny_bind ?_
 unfold Builtin.SmallTypes.ownedTupleHandOut
 have hz₆:IsZip (h₅.push {cls:=.type "tuple",data:=.seq #[x,y]}) z TI TO .ellipsis:=Heap.get?_push_of_some _ hz₅
 refine wpAny_bind (wpAny_setField_rec hz₆ (by simp) λh₇ hz₇ hs₇=>?_)
 replace hz₇:IsZip h₇ z TI TO (rawInt h₅.objs.size):=hz₇
 refine wpAny_setField_rec hz₇ (by simp) λh₈ hz₈ hs₈=>?_
 replace hz₈:IsZip h₈ z TI TO (rawInt h₅.objs.size):=hz₈
 have up:∀ c o,c≠z->h₅.get? c=some o->h₈.get? c=some o:=λc o c1 e=>hs₈.extBut _ _ c1 (hs₇.extBut _ _ c1 (Heap.get?_push_of_some _ e))
 have hT₈:IsPair h₈ h₅.objs.size x y:=hs₈.extBut _ _ (Nat.ne_of_gt hzlt) (hs₇.extBut _ _ (Nat.ne_of_gt hzlt) (Heap.get?_push_size _ rfl))
 rw[hsz]at hz₈ hT₈
 refine wpAny_pure ⟨_,rfl,?_⟩
 show Q (.ref h₅.objs.size) _
 rw[hsz]
 refine hQ h₈ ⟨hz₈,up _ _ D.TIz (keep _ _ D.TIz D.TITO D.TIi1 D.TIi2 hTI),⟨_,_,up _ _ D.TOz hTO₅⟩,?_,?_,?_,?_⟩ hT₈ λc o hc e=>?_
 ·(revert h1₅;refine e12 λo ho r=>?_);exact⟨o,up _ _ D.i1z ho,r⟩
 ·(revert h2₅;refine e12 λo ho r=>?_);exact⟨o,up _ _ D.i2z ho,r⟩
 ·(revert hl1;refine e12 λo ho r=>?_);exact⟨o,up _ _ D.t1z (keep _ _ D.t1z D.t1TO D.t1i1 D.t1i2 ho),r⟩
 ·(revert hl2;refine e12 λo ho r=>?_);exact⟨o,up _ _ D.t2z (keep _ _ D.t2z D.t2TO D.t2i1 D.t2i2 ho),r⟩
 ·simp only[List.mem_cons,List.not_mem_nil,or_false,not_or]at hc
  exact up c o hc.1 (keep c o hc.1 hc.2.2.1 hc.2.2.2.1 hc.2.2.2.2 e)
theorem yHv{xs ys:Array Value}{k:Nat}{Q:Fin->Shared->Prop}(hh:A.handled=none)(D:ZF z TI TO i1 i2 t1 t2)(Z:ZAt s.heap z TI TO i1 i2 t1 t2 xs ys .none k k)(hend:xs[k]?=none\/ys[k]?=none)
  (hE:∀ h' e,(∀ c o,c∉[z,TI,TO,i1,i2]->s.heap.get? c=some o->h'.get? c=some o)->(∃ o,h'.get? e=some o/\o.cls=.type "StopIteration")->E (.ref e) {s with heap:=h'}) :
  wpAny (model prog w) A (Builtin.«zip.__next__» ⟨[.ref z],[]⟩) Q E s:=by
 obtain⟨hz,hTI,⟨a,b,hTO⟩,h1,h2,hl1,hl2⟩:=Z
 have nin:∀{c:Addr},c∉[z,TI,TO,i1,i2]->c≠z/\c≠TO/\c≠i1/\c≠i2:=λhc=>by
  simp only[List.mem_cons,List.not_mem_nil,or_false,not_or]at hc
  exact⟨hc.1,hc.2.2.1,hc.2.2.2.1,hc.2.2.2.2⟩
 show wpAny _ _ (field (.ref z) 2 >>= _) _ _ _
 refine wpAny_bind (wpAny_field hz rfl (x:=.bool false) rfl ?_)
 show wpAny _ _ (field (.ref z) 3 >>= _) _ _ _
 refine wpAny_bind (wpAny_field hz rfl (x:=.ref TI) rfl ?_)
 refine wpAny_bind (wpAny_seqItems hTI rfl ?_)
 show wpAny _ _ (Builtin.SmallTypes.ownedTupleIsFree (.ref z) >>= _) _ _ _
 refine wpAny_bind ?_
 unfold Builtin.SmallTypes.ownedTupleIsFree
 refine wpAny_bind (wpAny_field hz rfl (x:=.none) rfl (wpAny_pure ?_))
 simp only[if_true]
 refine wpAny_bind (wpAny_rule ?_)
 refine wpAny_bind (wpAny_field hz rfl (x:=.ref TO) rfl ?_)
 refine wpAny_bind (wpAny_setField_rec hz (by simp) λh₁ hz₁ hs₁=>?_)
 replace hz₁:IsZip h₁ z TI TO .ellipsis:=hz₁
 refine wpAny_bind ?_
 simp only[List.zipIdx_cons,List.zipIdx_nil,List.forIn_cons,List.forIn_nil]
 refine wpAny_bind (wpAny_bind (wpAny_onRaise ?_))
 show wpAny _ _ (Builtin.SmallTypes.nextOf (.ref i1) >>= _) _ _ _
 cases hx:xs[k]? with
 |none=>
  refine wpAny_bind (zMx hh (h1.extBut hs₁.extBut D.i1z) (hl1.extBut hs₁.extBut D.t1z) hx λh₂ e hs₂ he=>?_)
  (revert he;refine e12 λoe hoe hce=>?_)
  have hz₂:IsZip h₂ z TI TO .ellipsis:=hs₂ _ _ D.i1z.symm hz₁
  have hez:e≠z:=λx=>by subst x;rw[hz₂]at hoe;cases hoe;simp at hce
  exact wpAny_setField_rec hz₂ (by simp) λh₃ U hs₃=>hE h₃ e (λc o hc x=>hs₃.extBut _ _ (nin hc).1 (hs₂ _ _ (nin hc).2.2.1 (hs₁.extBut _ _ (nin hc).1 x))) ⟨oe,hs₃.extBut _ _ hez hoe,hce⟩
 |some x=>
  have hy:ys[k]?=none:=by rcases hend with h|h;rw[hx]at h;cases h;exact h
  refine wpAny_bind (zGn (h1.extBut hs₁.extBut D.i1z) (hl1.extBut hs₁.extBut D.t1z) hx λh₂ h1₂ hs₂=>wpAny_pure ?_)
  have hTO₂:IsPair h₂ TO a b:=hs₂.extBut _ _ D.TOi1 (hs₁.extBut _ _ D.TOz hTO)
  refine wpAny_bind (wpAny_seqItems hTO₂ rfl ?_)
  refine wpAny_bind (wpAny_updateSeq_pair hTO₂ λh₃ hTO₃ hs₃=>?_)
  refine wpAny_bind (wpAny_letGo (wpAny_pure ?_))
  refine wpAny_bind (wpAny_bind (wpAny_onRaise ?_))
  show wpAny _ _ (Builtin.SmallTypes.nextOf (.ref i2) >>= _) _ _ _
  refine wpAny_bind (zMx hh (((h2.extBut hs₁.extBut D.i2z).extBut hs₂.extBut D.i12.symm).extBut hs₃.extBut D.TOi2.symm)
   (((hl2.extBut hs₁.extBut D.t2z).extBut hs₂.extBut D.t2i1).extBut hs₃.extBut D.t2TO) hy λh₄ e hs₄ he=>?_)
  (revert he;refine e12 λoe hoe hce=>?_)
  have hz₄:IsZip h₄ z TI TO .ellipsis:=hs₄ _ _ D.i2z.symm (hs₃.extBut _ _ D.TOz.symm (hs₂.extBut _ _ D.i1z.symm hz₁))
  have hez:e≠z:=λx=>by subst x;rw[hz₄]at hoe;cases hoe;simp at hce
  exact wpAny_setField_rec hz₄ (by simp) λh₅ U hs₅=>hE h₅ e (λc o hc x=>hs₅.extBut _ _ (nin hc).1 (hs₄ _ _ (nin hc).2.2.2 (hs₃.extBut _ _ (nin hc).2.1 (hs₂.extBut _ _ (nin hc).2.2.1 (hs₁.extBut _ _ (nin hc).1 x))))) ⟨oe,hs₅.extBut _ _ hez hoe,hce⟩
theorem yAe{xs ys:Array Value}{k:Nat}{x y:Value}{Q:Option Value->Shared->Prop}(D:ZF z TI TO i1 i2 t1 t2)(Z:ZAt s.heap z TI TO i1 i2 t1 t2 xs ys .none k k)(hx:xs[k]?=some x)(hy:ys[k]?=some y)
  (hQ:∀ h',ZAt h' z TI TO i1 i2 t1 t2 xs ys (rawInt s.heap.objs.size) (k+1) (k+1)->IsPair h' s.heap.objs.size x y->(∀ c o,c∉[z,TI,TO,i1,i2]->s.heap.get? c=some o->h'.get? c=some o)->Q (some (.ref s.heap.objs.size)) {s with heap:=h'}) :
  wpAny (model prog w) A (pyNext (.ref z)) Q E s:=by
 have hT:s.TypeIs (.ref z) "zip":=⟨_,Z.zip,rfl⟩
 unfold pyNext
 exact wpAny_bind (wpAny_attempt (wpAny_callSpecial?_slot (name:=Str.ofString "__next__") hT F.slot_zip_next
  (wpAny_call_entry F.slot_zip_next hT F.entry_zip_next (yE2 D Z hx hy λh' a1 a2 a3=>wpAny_pure (hQ h' a1 a2 a3)) (F.args_zip_next_1 _))))
theorem yE0{xs ys:Array Value}{k:Nat}{Q:Option Value->Shared->Prop}(hh:A.handled=none)(D:ZF z TI TO i1 i2 t1 t2)(Z:ZAt s.heap z TI TO i1 i2 t1 t2 xs ys .none k k)(hend:xs[k]?=none\/ys[k]?=none)
  (hQ:∀ h',(∀ c o,c∉[z,TI,TO,i1,i2]->s.heap.get? c=some o->h'.get? c=some o)->Q none {s with heap:=h'}):wpAny (model prog w) A (pyNext (.ref z)) Q E s:=by
 have hT:s.TypeIs (.ref z) "zip":=⟨_,Z.zip,rfl⟩
 unfold pyNext
 refine wpAny_bind (wpAny_attempt (wpAny_callSpecial?_slot (name:=Str.ofString "__next__") hT F.slot_zip_next
  (wpAny_call_entry F.slot_zip_next hT F.entry_zip_next (yHv hh D Z hend λh' e hk he=>?_) (F.args_zip_next_1 _))))
 (revert he;refine e12 λo ho hc=>?_)
 refine wpAny_bind (wpAny_isInstance (T:="StopIteration") (b:=true) ⟨o,ho,hc⟩ isSubtype_stop ?_)
 exact wpAny_pure (hQ _ hk)
theorem z_go{elts:List PySem.Expr}{n:Nat}{pos:Pos}{xs ys:Array Value}{T:Addr}{i:Nat}{Q:Unit->Shared->Prop}(D:ZF z TI TO i1 i2 t1 t2)(Z:ZAt s.heap z TI TO i1 i2 t1 t2 xs ys (rawInt T) i i)
  (hQ:∀ h',ZAt h' z TI TO i1 i2 t1 t2 xs ys .none i i->Heap.SameBut z s.heap h'->Q () {s with heap:=h'}):wpAny (model prog w) A (letOwnedTupleGo (.Tuple elts n pos) (.ref z) (.ref T)) Q E s:=by
 obtain⟨hz,hTI,⟨a,b,hTO⟩,h1,h2,hl1,hl2⟩:=Z
 exact wpAny_letOwnedTupleGo_zip hz λh' hz' hs'=>hQ h' ⟨hz',hs'.extBut _ _ D.TIz hTI,⟨a,b,hs'.extBut _ _ D.TOz hTO⟩,h1.extBut hs'.extBut D.i1z,h2.extBut hs'.extBut D.i2z,hl1.extBut hs'.extBut D.t1z,hl2.extBut hs'.extBut D.t2z⟩ hs'
end
end
section
section
variable {W:Wd}{too:Addr}{T:Tb}{n:Nat}{cx:Cx}{X:DV->St->Prop}{V:St}{g g':Hp}{m:Mt}{s s':Shared}{E:Value->Shared->Prop}
theorem Good.updL(G:Good W cx g V s){L:List Addr}(F:∀ b∈L,Free cx g V.mu b){h':Heap}{t:Nat}(hk:∀ b o,b∉L->s.heap.get? b=some o->h'.get? b=some o):Good W cx g V {s with heap:=h',toks:=t}:=by
 refine by_g λkG=>?_
 obtain⟨⟨mm,hns,hv⟩,hc,⟨a1,a2,a3⟩,ca⟩:=G.frm
 refine kG ?_
 refine⟨G.ext,⟨G.sim.base,λb o h=>hk b o (λe=>by rw[(F b e).fg]at h;cases h) (G.sim.frz b o h),λb o h=>?_,λb o h=>?_,G.sim.mabove,G.sim.gens,G.sim.os⟩,⟨⟨mm,hns.at' (hk _ · (λe=>(F _ e).fl rfl)),hv⟩,λx d ok hl hkd=>?_,⟨a1,a2,a3⟩,λx c hxc=>?_⟩,G.above⟩
 ·refine e02 (λk1 k2=>?_) (G.sim.kept b o h)
  exact⟨k1,k2.other λo' e=>hk b o' (λe=>by rw[(F b e).fk]at h;cases h) e⟩
 ·refine by_g λkG=>?_
  refine e03 (λh1 h2 q9=>e12 (λob h3 h4=>?_) q9) (G.sim.muts b o h)
  refine kG ?_
  exact⟨h1,h2,ob,hk _ _ (λe=>by rw[(F b e).fm]at h;cases h) h3,h4⟩
 ·refine by_g λkG=>?_
  obtain⟨c,v,h1,⟨o,h2,h2'⟩,h3⟩:=hc x d ok hl hkd
  refine kG ?_
  exact⟨c,v,h1,⟨o,hk _ _ (λe=>(F c e).fc x (mem_of_lookup h1)) h2,h2'⟩,h3⟩
 ·refine by_g λkG=>?_
  refine e04 (λc1 c2 c3 q9=>e22 (λv o ho hd=>?_) q9) (ca x c hxc)
  refine kG ?_
  exact⟨c1,c2,c3,v,o,hk _ _ (λe=>(F c e).fc x hxc) ho,hd⟩
theorem Good.adoptG(G:Good W cx g V s){a:Addr}{ob:Obj}(F:Free cx g V.mu a)(ho:s.heap.get? a=some ob):Good W cx (gadd g a ob) V s:=by
 have he:Ext g (gadd g a ob):=zHs F.fg
 obtain⟨⟨mm,hns,hv⟩,hc,⟨a1,a2,a3⟩,ca⟩:=G.frm
 refine⟨G.ext.trans he,⟨λb o h=>he b o (G.sim.base b o h),λb o h=>?_,λb o h=>?_,λb o h=>?_,G.sim.mabove,G.sim.gens,G.sim.os⟩,⟨⟨mm,hns,λx d ok hl hkd=>?_⟩,λx d ok hl hkd=>?_,⟨?_,a2,a3⟩,λx c hxc=>?_⟩,G.above⟩
 ·by_cases q:b=a
  ·subst q;rw[zBh]at h;cases h;exact ho
  ·rw[zCo _ _ q]at h;exact G.sim.frz b o h
 ·refine e02 (λk1 k2=>?_) (G.sim.kept b o h)
  exact⟨by rw[zCo _ _ (λq=>by subst q;rw[F.fk]at h;cases h)];exact k1,k2⟩
 ·refine e03 (λh1 h2 q9=>e12 (λob' h3 h4=>?_) q9) (G.sim.muts b o h)
  exact⟨by rw[zCo _ _ (λq=>by subst q;rw[F.fm]at h;cases h)];exact h1,h2,ob',h3,h4.mono he⟩
 ·refine e12 (λv h1 h2=>?_) (hv x d ok hl hkd);exact⟨v,h1,h2.mono he⟩
 ·refine e23 (λc v h1 h2 h3=>?_) (hc x d ok hl hkd);exact⟨c,v,h1,h2,h3.mono he⟩
 ·rw[zCo _ _ (Ne.symm F.fl)];exact a1
 ·refine e02 (λc1 c2=>?_) (ca x c hxc)
  exact⟨by rw[zCo _ _ (λq=>by subst q;exact F.fc x hxc)];exact c1,c2⟩
structure ZP(z TI TO i1 i2 t1 t2:Addr)(l r:List DV)(i:Nat)(g:Hp)(h:Heap):Prop where
 zip:IsZip h z TI TO .none
 TI:IsPair h TI (.ref i1) (.ref i2)
 TO:∃ a b,IsPair h TO a b
 i1:h.IsTupleIter i1 t1 i
 i2:h.IsTupleIter i2 t2 i
 t1:Rep g (.tup l) (.ref t1)
 t2:Rep g (.tup r) (.ref t2)
variable {z TI TO i1 i2 t1 t2:Addr}{l r:List DV}
theorem yDz{i:Nat}(G:Good W cx g V s)(P:ZP z TI TO i1 i2 t1 t2 l r i g s.heap):∃ xs ys:List Value,RepL g l xs/\RepL g r ys/\ZAt s.heap z TI TO i1 i2 t1 t2 xs.toArray ys.toArray .none i i:=by
 refine by_g λkG=>?_
 obtain⟨p1,p2,p3,p4,p5,p6,p7⟩:=P
 cases p6 with
 |tup h hc hd rl=>
  cases p7 with
  |tup h' hc' hd' rl'=>
   refine kG ?_
   exact⟨_,_,rl,rl',p1,p2,p3,p4,p5,⟨_,G.sim.frz _ _ h,hc,_,hd⟩,⟨_,G.sim.frz _ _ h',hc',_,hd'⟩⟩
theorem zWb(D:ZA z TI TO i1 i2 t1 t2){elts:List PySem.Expr}{k:Nat}{pos:Pos}{d:DV}(hd:∀ a,d≠.ref a) :
  Iter W d ((l.zip r).map λp=>.tup [p.1,p.2]) (.Tuple elts k pos) (.ref z) [z,TI,TO,i1,i2] (λi g U h=>ZP z TI TO i1 i2 t1 t2 l r i g h) where
 item:=λ{cx g V s i x E Q} hh G F P hx k=>by
  refine by_g λkG=>?_
  refine e23 (λxs ys r1 r2 Z=>?_) (yDz G P)
  rw[List.getElem?_map]at hx
  cases hz:(l.zip r)[i]? with
  |none=>
   refine kG ?_
   rw[hz]at hx;cases hx
  |some p=>
   rw[hz]at hx
   simp only[Option.map_some,Option.some.injEq]at hx
   subst hx
   rw[List.getElem?_zip_eq_some]at hz
   refine e12 (λv hv rv=>?_) (r1.get hz.1)
   refine e12 (λw hw rw'=>?_) (r2.get hz.2)
   have DF:=D.f
   refine kG ?_
   refine yAe DF Z (by simpa using hv) (by simpa using hw) λh' Z' hT hk=>k _ _ λE' Q' hq=>?_
   refine z_go DF Z' λh'' Z'' hs=>?_
   have hzlt:z<s.heap.objs.size:=Heap.lt_size Z.zip
   have Tn:s.heap.get? s.heap.objs.size=none:=zAe _
   have hT':IsPair h'' s.heap.objs.size v w:=(hs.2 _ (Nat.ne_of_gt hzlt)).trans hT
   have keep:∀ b,b∉[z,TI,TO,i1,i2]->∀ o,s.heap.get? b=some o->h''.get? b=some o:=λb hb o e=>(hs.2 b (λq=>hb (by rw[q];exact .head _))).trans (hk b o hb e)
   have G':Good W cx g V {s with heap:=h''}:=G.updL (t:=s.toks) F λb o hb e=>keep b hb o e
   have FT:=G.free Tn
   have he:Ext g (gadd g s.heap.objs.size {cls:=.type "tuple",data:=.seq #[v,w]}):=zHs FT.fg
   refine hq _ _ he (G'.adoptG FT hT') ⟨Z''.zip,Z''.TI,Z''.TO,Z''.i1,Z''.i2,P.t1.mono he,P.t2.mono he⟩ (.tup (zBh _ _ _) rfl rfl (.cons (rv.mono he) (.cons (rw'.mono he) .nil))) (λb o hb=>?_) keep
   by_cases q:b=s.heap.objs.size
   ·subst q;exact .inr Tn
   ·rw[zCo _ _ q]at hb;exact .inl hb
 done:=λ{cx g V s E Q} hh G F P k=>by
  refine by_g λkG=>?_
  refine e23 (λxs ys r1 r2 Z=>?_) (yDz G P)
  refine kG ?_
  refine yE0 hh D.f Z ?_ λh' hk=>k _ (G.updL (t:=s.toks) F λb o hb e=>hk b o hb e) λb hb o e=>hk b o hb e
  simp only[List.length_map,List.length_zip,r1.length,r2.length]
  rcases Nat.le_total xs.length ys.length with h|h
  ·exact .inl (by simp[Nat.min_eq_left h])
  ·exact .inr (by simp[Nat.min_eq_right h])
 objs:=λ{i g m h} P b hb=>by
  simp only[List.mem_cons,List.not_mem_nil,or_false]at hb
  refine by_g λkG=>?_
  obtain⟨p1,p2,⟨a,c,p3⟩,⟨o4,p4,_,d4⟩,⟨o5,p5,_,d5⟩,_⟩:=P
  rcases hb with rfl|rfl|rfl|rfl|rfl
  ·refine kG ?_
   exact⟨_,p1,rfl⟩
  ·refine kG ?_
   exact⟨_,p2,rfl⟩
  ·refine kG ?_
   exact⟨_,p3,rfl⟩
  ·refine kG ?_
   exact⟨_,p4,by unfold isD;rw[d4]⟩
  ·refine kG ?_
   exact⟨_,p5,by unfold isD;rw[d5]⟩
 back:=λ{i g g' m m' h h'} P e _ ho=>by
  refine by_g λkG=>?_
  obtain⟨p1,p2,⟨a,c,p3⟩,⟨o4,p4,q4⟩,⟨o5,p5,q5⟩,p6,p7⟩:=P
  refine kG ?_
  exact⟨(ho z (by simp)).trans p1,(ho TI (by simp)).trans p2,⟨a,c,(ho TO (by simp)).trans p3⟩,⟨o4,(ho i1 (by simp)).trans p4,q4⟩,⟨o5,(ho i2 (by simp)).trans p5,q5⟩,p6.mono e,p7.mono e⟩
 self:=λP q=>wpAny_pyIter_zip P.zip q
noncomputable abbrev zh1(h:Heap)(t1:Addr):Heap:=h.push {cls:=.type "tuple_iterator",data:=.fields #[.ref t1,.int 0 0]}
abbrev zh2(h:Heap)(t1 t2:Addr):Heap:=(zh1 h t1).push {cls:=.type "tuple_iterator",data:=.fields #[.ref t2,.int 0 0]}
abbrev zh3(h:Heap)(t1 t2:Addr):Heap:=(zh2 h t1 t2).push {cls:=.type "tuple",data:=.seq #[.ref h.objs.size,.ref (zh1 h t1).objs.size]}
abbrev zh4(h:Heap)(t1 t2:Addr):Heap:=(zh3 h t1 t2).push {cls:=.type "tuple",data:=.seq #[.none,.none]}
abbrev zh5(h:Heap)(t1 t2:Addr):Heap:=(zh4 h t1 t2).push {cls:=.type "zip",data:=.fields #[.none,.bool false,.bool false,.ref (zh2 h t1 t2).objs.size,.ref (zh3 h t1 t2).objs.size]}
theorem zS7(t1 t2:Addr)(xs ys:Array Value):Meets (Builtin.«zip.__new__» ⟨[.type "zip",.ref t1,.ref t2],[]⟩) (λU R s=>s.heap.IsTuple t1 xs/\s.heap.IsTuple t2 ys/\R (.ok (.ret (.ref (zh4 s.heap t1 t2).objs.size))) {s with heap:=zh5 s.heap t1 t2}):=
 .of_wp λprog w A R s h=>by
  refine by_g λkG=>?_
  obtain⟨hp,g,d,tk,os⟩:=s;(revert h;refine e03 λhl1 hl2 h=>?_)
  have hsub:=sub_zip
  have hL1:Heap.IsTuple (Shared.heap ⟨hp,g,d,tk,os⟩) t1 xs:=hl1
  have hL2:Heap.IsTuple (Shared.heap ⟨hp.push {cls:=.type "tuple_iterator",data:=.fields #[.ref t1,.int 0 0]},g,d,tk,os⟩) t2 ys:=Heap.IsTuple.push hl2 _
  refine kG ?_
  wp_walk using wpAny_pyIter_tuple hL1,wpAny_pyIter_tuple hL2
  exact⟨_,rfl,h⟩
theorem zRy{M:Model}{A:Around}{xs ys:Array Value}{prog:Program}{w:World}(hM:M=model prog w){Q:Value->Shared->Prop}(hl1:s.heap.IsTuple t1 xs)(hl2:s.heap.IsTuple t2 ys)
  (h:∀ h',IsZip h' (s.heap.objs.size+4) (s.heap.objs.size+2) (s.heap.objs.size+3) .none->IsPair h' (s.heap.objs.size+2) (.ref s.heap.objs.size) (.ref (s.heap.objs.size+1))->
   IsPair h' (s.heap.objs.size+3) .none .none->h'.IsTupleIter s.heap.objs.size t1 0->h'.IsTupleIter (s.heap.objs.size+1) t2 0->
   (∀ c o,s.heap.get? c=some o->h'.get? c=some o)->Q (.ref (s.heap.objs.size+4)) {s with heap:=h'}) :
  wpAny M A (call (.type "zip") [.ref t1,.ref t2] []) Q E s:=by
 subst hM
 refine callType_new F.called_zip (by decide) (F.typeCall_zip_2 _ _) (F.newCall_zip_2 _ _) (λobj=>F.args_object_init_3 obj _ _) F.entry_zip_new
  (zS7 t1 t2 xs ys) ⟨hl1,hl2,?_⟩
 have z1:(zh1 s.heap t1).objs.size=s.heap.objs.size+1:=Heap.size_push ..
 have z2:(zh2 s.heap t1 t2).objs.size=s.heap.objs.size+2:=by rw[Heap.size_push,z1]
 have z3:(zh3 s.heap t1 t2).objs.size=s.heap.objs.size+3:=by rw[Heap.size_push,z2]
 have z4:(zh4 s.heap t1 t2).objs.size=s.heap.objs.size+4:=by rw[Heap.size_push,z3]
 have up1:∀{h:Heap} {a:Addr} {o o':Obj},h.get? a=some o->(h.push o').get? a=some o:=λe=>Heap.get?_push_of_some _ e
 have g5:(zh5 s.heap t1 t2).get? (zh4 s.heap t1 t2).objs.size=some _:=Heap.get?_push_size _ rfl
 have g4:(zh5 s.heap t1 t2).get? (zh3 s.heap t1 t2).objs.size=some _:=up1 (Heap.get?_push_size _ rfl)
 have g3:(zh5 s.heap t1 t2).get? (zh2 s.heap t1 t2).objs.size=some _:=up1 (up1 (Heap.get?_push_size _ rfl))
 have g2:(zh5 s.heap t1 t2).get? (zh1 s.heap t1).objs.size=some _:=up1 (up1 (up1 (Heap.get?_push_size _ rfl)))
 have g1:(zh5 s.heap t1 t2).get? s.heap.objs.size=some _:=up1 (up1 (up1 (up1 (Heap.get?_push_size _ rfl))))
 show _/\_
 rw[z2,z3,z4]at g5
 rw[z1,z2]at g3
 rw[z3]at g4
 rw[z1]at g2
 rw[z4]
 exact⟨⟨_,g5,rfl⟩,h _ g5 g3 g4 ⟨_,g1,rfl,rfl⟩ ⟨_,g2,rfl,rfl⟩ λc o x=>up1 (up1 (up1 (up1 (up1 x))))⟩
theorem yE1(WO:W.Ok)(hz1:W.mg "zip"=none)(hz2:W.mb "zip"=some (.type "zip")):zJd W too n:=by
 intro cx X V C CA elt t a b z pos np cp ns sc ht hsc htup hs henc hzc hk B' hB Q h g s G
 have hz:z="zip":=zBz hzc (by decide) (henc.trans (by rfl))
 subst hz
 have hT:∃ es kt pt,t=.Tuple es kt pt:=by
  rcases zFh ht with⟨x,_,h⟩|⟨_,h⟩
  ·exact e12 (λy U e=>by rw[<-Option.some.inj e]at htup;exact Bool.noConfusion htup) (zA1 h)
  ·exact e12 (λes he U=>⟨es,zFp he⟩) (zA1 h)
 refine e31 (λes kt pt et=>?_) hT
 rw[et]at ht ⊢
 refine e13 (λcl hcl hcl1 hcl2=>?_) (zOu CA C.kinds hsc)
 refine e06 (λs1 s2 s3 s4 s5 s6=>?_) (zI5 hsc)
 rw[PySem.eval_ListComp]
 refine wpAny_comprehension_free (g:=⟨.Tuple es kt pt,.Call (.Name "zip" np) [a,b] [] cp,[],0⟩) (gs:=[]) rfl (λx=>zEx rfl _ _) hcl s2 (λx hx hl=>by rw[zC7 s1 s4 x hx,hl]) ?_
 show wpAny _ _ (eval (.Call (.Name "zip" np) [a,b] [] cp) cx.env) _ _ _
 have he:eval (.Call (.Name "zip" np) [a,b] [] cp) cx.env=(do callWith cp (<-eval (.Name "zip" np) cx.env) [] (backTo cp (starEach [a,b] cx.env)) (backToKw cp (keywordEach [] cx.env))):=rfl
 rw[he]
 have hg:s.heap.Ns cx.env.globals W.mg:=by rw[C.env.gl];exact WO.ng.keeps G.sim.ext
 have hb:s.heap.Ns cx.env.builtins W.mb:=by rw[C.env.bi];exact WO.nb.keeps G.sim.ext
 refine wpAny_bind (Calls.Name_function_global C.env.kind ((C.kinds "zip" (by decide)).2.2 hk) (Calls.loadGlobal_builtin hg hz1 hb hz2 ?_) (by decide))
 have hev:EvL W too cx (spliced (backTo cp (starEach [a,b] cx.env))) (λds V=>∃ l r,ds=[.tup l,.tup r]/\small l.length/\small r.length/\zL7 ns B' Q .none ((l.zip r).map λp=>.tup [p.1,p.2]) V.loc ((l.zip r).map λp=>.tup [p.1,p.2]) [] V.mu) X V:=by
  refine zDc hs (h.mono λd V q=>?_)
  refine zDc (zCz (env:=cx.env) (pos:=cp) hs).2 (EvE.mono q λe V q=>?_)
  exact zG7 (e12 (λl hl q=>e12 (λr hr q=>⟨l,r,by rw[zGi hl,zGi hr],q⟩) (zAb q)) (zAb q))
 refine callWith_of (P:=λh=>W.K.In h) (by rw[zCb hs];rfl) (λh p=>⟨.machine,.inr (.inl rfl),Looks.of_pure rfl⟩) ?_
 refine zGy (zCb hs) (zI8 (hev g s G) (λvs s' g' σ' ds e G' rs q=>⟨WO.kin.keeps G'.sim.ext,?_⟩) λU U x=>x)
 refine e24 (λl r ed hzl hzr q=>?_) q
 rw[ed]at rs
 refine zJj rs λw1 w2 r1 r2=>?_
 refine(zAw r1).elim λt1 q1=>e35 (λo1 k1 v1 ev1 g1 c1 d1 rl1=>?_) q1
 refine(zAw r2).elim λt2 q2=>e35 (λo2 k2 v2 ev2 g2 c2 d2 rl2=>?_) q2
 rw[ev1]at r1 ⊢
 rw[ev2]at r2 ⊢
 show wpAny _ _ (call (.type "zip") [.ref t1,.ref t2] []) _ _ _
 refine zRy (prog:=W.prog) (w:=W.w) rfl (xs:=v1.toArray) (ys:=v2.toArray) ⟨_,G'.sim.frz _ _ g1,c1,_,d1⟩ ⟨_,G'.sim.frz _ _ g2,c2,_,d2⟩ λh' z1 z2 z3 z4 z5 hk=>?_
 have G₁:Good W cx g' σ' {s' with heap:=h'}:=G'.grow (t:=s'.toks) hk
 have ltS:∀{c o},g' c=some o->c<s'.heap.objs.size:=λe=>Heap.lt_size (G'.sim.frz _ _ e)
 have l1:=ltS g1
 have l2:=ltS g2
 have D:ZA (s'.heap.objs.size+4) (s'.heap.objs.size+2) (s'.heap.objs.size+3) s'.heap.objs.size (s'.heap.objs.size+1) t1 t2:=by
  have out:∀{t:Nat},t<s'.heap.objs.size->t∉[s'.heap.objs.size+4,s'.heap.objs.size+2,s'.heap.objs.size+3,s'.heap.objs.size,s'.heap.objs.size+1]:=λ{t} ht hm=>by
   simp only[List.mem_cons,List.not_mem_nil,or_false]at hm
   rcases hm with e|e|e|e|e<;>omega
  exact⟨by simp,out l1,out l2⟩
 have FN:∀ b,s'.heap.objs.size<=b->Free cx g' σ'.mu b:=λb hb=>G'.free (zC1 hb)
 have hlen:small ((l.zip r).map λp=>DV.tup [p.1,p.2]).length:=by
  unfold small at hzl ⊢
  simp only[List.length_map,List.length_zip]
  omega
 refine wpAny_pyIter_zip z1 ?_
 refine zIo C CA WO ht hsc hcl1 hcl2 (ifs:=[]) (B':=B') hB hlen (d:=.none) (zWb D (λU e=>by cases e)) G₁ (λb hb=>FN b ?_) ⟨z1,z2,⟨_,_,z3⟩,z4,z5,r1,r2⟩ trivial q λg₂ m acc s₂ D Cc e₂ G₂ q FC hns=>?_
 ·simp only[List.mem_cons,List.not_mem_nil,or_false]at hb
  rcases hb with rfl|rfl|rfl|rfl|rfl<;>omega
 ·(revert hns;refine e11 λmm hns=>?_)
  refine⟨mm,hns,λh' hs'=>?_⟩
  exact⟨g₂,_,_,e.trans e₂,G₂.upd (t:=s₂.toks) FC λb o hb he=>(hs'.2 b hb).trans he,.ref D,q⟩
end
end
theorem zVw{v:Value}{a:String}(h:buV v=some a):v=.builtin a:=by
 cases v with
 |builtin _=>cases h;rfl
 |_=>exact zA2 h
theorem zSg{v:Value}{a:String}(h:tyV v=some a):v=.type a:=by
 cases v with
 |type _=>cases h;rfl
 |_=>exact zA2 h
theorem yB7{v:Value}{a:Addr}(h:refV v=some a):v=.ref a:=by
 cases v with
 |ref _=>cases h;rfl
 |_=>exact zA2 h
theorem zOl{v:Value}{i:Int}(h:intV v=some i):∃ t,v=.int i t:=by
 cases v with
 |int _ t=>cases h;exact⟨t,rfl⟩
 |_=>exact zA2 h
theorem zX7{a b:Value}(h:yEv a b=true):a=b:=by
 rcases zFh h with⟨x,hx,h⟩|⟨_,h⟩
 ·exact e12 (λy hy e=>by rw[zVw hx,zVw hy,beq_iff_eq.mp e]) (zAm h)
 ·exact e12 (λx hx h=>e12 (λy hy e=>by rw[zSg hx,zSg hy,beq_iff_eq.mp e]) (zAm h)) (zAm h)
theorem zId{x:Option (Option Value)}(h:isSN x=true):x=some none:=e12 (λo e h=>by rw[e,Option.isNone_iff_eq_none.mp h]) (zAm h)
theorem zF0{a:Addr}{x:Option (Option Value)}(h:zNb a x=true):x=some (some (.ref a)):=
 e12 (λo e h=>e12 (λv e2 h=>e12 (λb e3 h=>by rw[e,e2,yB7 e3,Nat.eq_of_beq_eq_true h]) (zAm h)) (zAm h)) (zAm h)
theorem zOj{a:String}{x:Option (Option Value)}(h:isBu a x=true):x=some (some (.builtin a)):=
 e12 (λo e h=>e12 (λv e2 h=>e12 (λb e3 h=>by rw[e,e2,zVw e3,beq_iff_eq.mp h]) (zAm h)) (zAm h)) (zAm h)
noncomputable def lkA{α:Type}(l:List (Addr×List α))(a:Addr):List α:=match l with
 |[]=>[]
 |(b,r)::t=>if Nat.beq b a then r else lkA t a
noncomputable def lkO(l:List (Addr×Addr))(a:Addr):Option Addr:=match l with
 |[]=>none
 |(b,r)::t=>if Nat.beq b a then some r else lkO t a
noncomputable def hasA(l:List Addr)(a:Addr):Bool:=l.any λb=>Nat.beq b a
def rdOf(l:List (Addr×List Nat))(C:Addr)(x:Nat):Bool:=hasA (lkA l C) x
def meOf(l:List (Addr×List (Nat×Addr)))(C:Addr)(x:Nat):Option Addr:=lkO (lkA l C) x
def Tabs.tb(t:Tabs):Tb where
 gl:=t.gl.map λp=>(enc p.1,p.2)
 rd:=rdOf (t.at_.map λp=>(p.1,p.2.map enc))
 st:=rdOf (t.at_.map λp=>(p.1,p.2.map enc))
 me:=meOf (t.me.map λp=>(p.1,p.2.map λq=>(enc q.1,q.2)))
 ini:=lkO t.ini
 kf:=hasA t.kf
theorem zY2{l:List (Str×DV)}{x:Nat}{d:DV}(h:look (l.map λp=>(enc p.1,p.2)) x=some d):∃ p∈l,enc p.1=x/\p.2=d:=by
 induction l with
 |nil=>exact zA2 h
 |cons p r ih=>
  rcases zOn h with⟨q,e⟩|h
  ·exact⟨p,.head _,Nat.eq_of_beq_eq_true q,Option.some.inj e⟩
  ·exact e12 (λp' h1 h2=>⟨p',.tail _ h1,h2⟩) (ih h)
theorem zUb{α:Type}{l:List (Addr×List α)}{a:Addr}{x:α}(h:x∈lkA l a):∃ p∈l,p.1=a/\x∈p.2:=by
 induction l with
 |nil=>cases h
 |cons p t ih=>
  replace h:x∈if Nat.beq p.1 a then p.2 else lkA t a:=h
  by_cases q:Nat.beq p.1 a=true
  ·rw[if_pos q]at h
   exact⟨p,.head _,Nat.eq_of_beq_eq_true q,h⟩
  ·rw[if_neg q]at h
   exact e12 (λp' h1 h2=>⟨p',.tail _ h1,h2⟩) (ih h)
theorem zUa{l:List (Addr×Addr)}{a b:Addr}(h:lkO l a=some b):(a,b)∈l:=by
 induction l with
 |nil=>exact zA2 h
 |cons p t ih=>
  rcases zOn (h:(if Nat.beq p.1 a then some p.2 else lkO t a)=some b)with⟨q,e⟩|h
  ·rw[<-Nat.eq_of_beq_eq_true q,<-Option.some.inj e];exact .head _
  ·exact .tail _ (ih h)
theorem zPy{l:List Addr}{a:Addr}(h:hasA l a=true):a∈l:=by
 refine e12 (λb hb e=>?_) (List.any_eq_true.mp h)
 rw[<-Nat.eq_of_beq_eq_true e];exact hb
theorem a4{a b c d:Bool}{P:Prop}(h:(a&&b&&c&&d)=true)(k:a=true->b=true->c=true->d=true->P):P:=
 e02 (λh h4=>a3 h λh1 h2 h3=>k h1 h2 h3 h4) ((Bool.and_eq_true _ _).mp h)
theorem yJ0{W:Wd}(WO:W.Ok){x:Str}{d:DV}(h:gvOk W.K x d=true):∃ v,Rep W.h₀.get? d v/\(W.mg x=some v\/(W.mg x=none/\W.mb x=some v)):=by
 cases d with
 |int i=>
  refine e12 (λo e h=>e12 (λv e2 h=>e12 (λj e3 h=>e11 (λt e4=>?_) (zOl e3)) (zAm h)) (zAm h)) (zAm h)
  rw[of_decide_eq_true h]
  exact⟨.int j t,.int _ _,.inl (mg_of WO.kin WO.ng (e.trans (by rw[e2,e4])))⟩
 |fn a=>exact⟨_,.fn _,.inl (mg_of WO.kin WO.ng (zF0 h))⟩
 |cls a=>exact⟨_,.cls _,.inl (mg_of WO.kin WO.ng (zF0 h))⟩
 |bi b=>
  refine a3 h λk3 k4 k5=>⟨_,.bi _,.inr ⟨mg_none_of WO.kin WO.ng (zId k3),?_⟩⟩
  rw[WO.bt _ (λe=>by rw[e]at k4;exact Bool.noConfusion k4)]
  exact e12 (λv hv e=>by rw[hv,zX7 e]) (zAm k5)
 |_=>exact Bool.noConfusion h
theorem yHi{K:Frag}{t:Tabs}(h2:t.at_.all (atP K)=true){C:Addr}{x:Str}(okx:okc x=true)(hr:rdOf (t.at_.map λp=>(p.1,p.2.map enc)) C (enc x)=true){P:Prop}
  (k:hasDictIn K C=true->isBu "object.__setattr__" (findIn K (.ref C) "__setattr__")=true->plainOver K C=true->plainGet K C x=true->ob false (findIn K (.ref C) x) (noGet K)=true->isSN (takerIn K C x)=true->P):P:=by
 refine e13 (λp hp e1 e2=>e12 (λq hq e=>?_) (List.mem_map.mp hp)) (zUb (zPy hr))
 rw[<-e]at e1 e2
 rw[<-show q.1=C from e1]at k
 refine e12 (λy hy e=>?_) (List.mem_map.mp e2)
 refine a4 (List.all_eq_true.mp h2 q hq) λa1 a2 a3 h=>a4 (List.all_eq_true.mp h y hy) λb1 b2 b3 b4=>?_
 rw[zBz b1 okx e]at b2 b3 b4
 exact k a1 a2 a3 b2 b3 b4
theorem yAm{W:Wd}(WO:W.Ok){t:Tabs}(h:t.ok W.K=true):TbOk W t.tb:=by
 refine a5 h λh1 h2 h3 h4 h5=>⟨λx d okx hl=>?_,λC x okx hr=>?_,λC x okx hr=>?_,λC x f okx hr=>?_,λC f hr=>?_,λf hf=>List.all_eq_true.mp h5 f (zPy hf)⟩
 ·refine e13 (λp hp e1 e2=>a3 (List.all_eq_true.mp h1 p hp) λk1 k2 k3=>?_) (zY2 hl)
  rw[zBz k1 okx e1]at k2 k3
  exact⟨(Bool.not_eq_true' _).mp k2,yJ0 WO (e2▸k3)⟩
 ·exact yHi h2 okx hr λa1 U U b2 b3 U=>⟨b2,a1,zAm b3⟩
 ·exact yHi h2 okx hr λa1 a2 a3 b2 b3 b4=>⟨zOj a2,a3,zId b4,a1⟩
 ·refine e13 (λp hp e1 e2=>e12 (λq hq e=>?_) (List.mem_map.mp hp)) (zUb (zUa hr))
  rw[<-e]at e1 e2
  refine e12 (λy hy e=>a5 (List.all_eq_true.mp (List.all_eq_true.mp h3 q hq) y hy) λk1 k2 k3 k4 k5=>?_) (List.mem_map.mp e2)
  rw[zBz k1 okx (Prod.mk.inj e).1,show q.1=C from e1]at k2 k3
  rw[(Prod.mk.inj e).2]at k3 k4 k5
  exact⟨k2,zF0 k3,k4,k5⟩
 ·exact a4 (List.all_eq_true.mp h4 _ (zUa hr)) λa1 a2 a3 a4=>⟨a1,zF0 a2,a3,a4⟩
theorem zYk{d:Data}{fd:FuncData}(h:yGo d=some fd):d=.func fd:=by
 cases d with
 |func _=>cases h;rfl
 |_=>exact zA2 h
theorem zTu{l:List (Str×NameKind)}(h:zZv l=true)(x)(hx:x∈l):x.2≠.free:=λe=>by
 have:=List.all_eq_true.mp h x hx
 rw[e]at this;exact Bool.noConfusion this
theorem yC3{k:NameKind}(h:isLC k=true):k=.local\/k=.cell:=by
 cases k with
 |«local»=>exact .inl rfl
 |cell=>exact .inr rfl
 |_=>exact Bool.noConfusion h
theorem yA1{W:Wd}{f:Addr}{fd:FuncData}{body:List Stmt}(hf:fdAt W.K f=some fd)(hb:fd.body=.stmts body)(h:fdOk W.K fd=true):FnK W f fd body:=by
 refine a10 h λh1 h2 h3 h4 h5 h6 h7 h8 h9 h10=>⟨(zA1 hf).imp λo q=>⟨q.1,zYk q.2⟩,hb,h1,List.isEmpty_iff.mp h2,(Bool.not_eq_true' _).mp h3,(Bool.not_eq_true' _).mp h4,?_,Nat.eq_of_beq_eq_true h6,Nat.eq_of_beq_eq_true h7,h8,h9,zTu h10⟩
 revert h5
 cases fd.scope.kind<;>intro h5<;>first|rfl|exact Bool.noConfusion h5
theorem zK8{K:Frag}{s:Shared}{fd:FuncData}{args:Args}{binds:List (Str×Value)}(X:K.In s.heap)(e:∀ S,peek K S (bindArgs fd args)=some binds):BindsTo s fd args binds:=λM A E Q q=>Looks.of_peek (M:=M) X (e _) A Q E s (λU U e=>e) q
def T0:Tb where
 gl:=[((5950925298516583888:Nat),DV.int 63),((224901380:Nat),DV.cls 137),((50886942273647366:Nat),DV.int 0),((11630288511819499376935229:Nat),DV.int 2),((896894582063802735542:Nat),DV.int 3),((5949141005194406978:Nat),DV.int 6),((727420221652351404308:Nat),DV.int 4),((48523362284342930:Nat),DV.int 5),((698045809012978434836:Nat),DV.int 1),((253107362:Nat),DV.cls 65),((32066903541:Nat),DV.cls 200),((510443033226591:Nat),DV.cls 86),((61119060771561253:Nat),DV.cls 45),((149197441734739796308497:Nat),DV.fn 325),((1166390519185675387188:Nat),DV.fn 339),((8965653572193319233:Nat),DV.fn 332),((1007728412735072043432:Nat),DV.fn 416),((1126972028334985087545:Nat),DV.fn 356),((129907392140480370777990:Nat),DV.fn 361),((9039943730525302719:Nat),DV.fn 344),((1156266174420931299129:Nat),DV.fn 366),((7882497530926760610:Nat),DV.fn 390),((8350937765289675702:Nat),DV.fn 349),((1165996963648393049889:Nat),DV.fn 371),((1155339948352359783195:Nat),DV.fn 376),((7888506755506000443:Nat),DV.fn 318),((8967465052419388374:Nat),DV.fn 395),((1017762394540301816733:Nat),DV.fn 383),((1007031116914193801124:Nat),DV.fn 402),((8968589649808350543:Nat),DV.fn 409),((32343979308:Nat),DV.bi Bi.bytes),((61151211047737299:Nat),DV.fn 211),((70058503889244232:Nat),DV.fn 275),((16939335049451495703478015:Nat),DV.fn 311),((70007884325057599:Nat),DV.fn 268),((131163363601721683534069:Nat),DV.fn 282),((1215928686834193402168:Nat),DV.fn 254),((16934170678452269693567350:Nat),DV.fn 225),((145319948547417671358994:Nat),DV.fn 239),((1046454326422742070934:Nat),DV.fn 261),((7888506755471654200:Nat),DV.fn 218),((67694923899939796:Nat),DV.fn 232),((8966262221512968652:Nat),DV.fn 289),((1166382846802946178619:Nat),DV.fn 296),((1017079913783369101462:Nat),DV.fn 247),((8877723566800265026:Nat),DV.fn 303),((1165855461747238037059:Nat),DV.fn 104),((1961422:Nat),DV.bi Bi.int),((1860418:Nat),DV.bi Bi.len),((1860935:Nat),DV.bi Bi.min),((320281018651823988000424012532:Nat),DV.fn 118),((2480150453382738628956535913:Nat),DV.fn 97),((89405120735668294995197066550787540520:Nat),DV.fn 111),((28471249426:Nat),DV.bi Bi.range),((3636527441303:Nat),DV.bi Bi.sorted),((28482018735:Nat),DV.bi Bi.tuple)]
 rd:=rdOf [(65,[14689,1962331,1745597,2011477,227146788,7806419509700087986,543339266573686]),(86,[32376161590,32648492339,131322104223801899105978,129907780876443790661926,693329460861025571136594217707607069,35998791720882497672107593410212,542699284915561,32341513866,4352065896212,4640661148044596755148102409466918,8965708764269794395]),(137,[30967732746,250711086,131251851267392784618517]),(200,[253107527,32376161590])]
 st:=rdOf [(65,[14689,1962331,1745597,2011477,227146788,7806419509700087986,543339266573686]),(86,[32376161590,32648492339,131322104223801899105978,129907780876443790661926,693329460861025571136594217707607069,35998791720882497672107593410212,542699284915561,32341513866,4352065896212,4640661148044596755148102409466918,8965708764269794395]),(137,[30967732746,250711086,131251851267392784618517]),(200,[253107527,32376161590])]
 me:=meOf [(200,[(218526240,162),(2010189,169),(2042964,176),(218459674,183),(29293531157,190),(3636514411391,197)])]
 ini:=lkO [(65,62),(86,83),(137,134),(200,155)]
 kf:=hasA [97,104,111,118,211,218,225,232,239,247,254,261,268,275,282,289,296,303,311,318,325,332,339,344,349,356,361,366,371,376,383,390,395,402,409,416]
theorem yAn:tabs.tb=T0:=by kernel_rfl
section
structure FnB(W:Wd)(f:Addr)(ns:List Str)(es:List Nat)(k:Nat)(dvs:List Value)(c:CSs):Prop where
 fn:∃ fd body,FnK W f fd body/\cSs 60 (kinds fd.scope.names) body=c/\yF8 fd ns=true/\∀(s:Shared) (vs:List Value),W.K.In s.heap->vs.length=k->BindsTo s fd ⟨vs,[]⟩ (ns.zip (vs++dvs))
 es:ns.map enc=es
 nd:ns.Nodup
 len:ns.length=k+dvs.length
section
variable {W:Wd}{too rb fI:Addr}{fd₀:FuncData}{T:Tb}{n:Nat}{m:Mt}
theorem RepL.len{g:Hp}{ds:List DV}{vs:List Value}(r:RepL g ds vs):ds.length=vs.length:=r.length
theorem yAv(B:Base W too rb fI fd₀ T)(Z:∀ n,zJd W too n){f:Addr}{ns:List Str}{es:List Nat}{k:Nat}{dvs:List Value}{c:CSs}(FB:FnB W f ns es k dvs c){dfl:List DV}(hd:RepL W.h₀.get? dfl dvs){ds:List DV}(hk:ds.length=k){Q X:DV->Mt->Prop}
  (h:wpSs W too T n c (λr V=>∃ m' d',Fz V.mu (r.getD .none) m' d'/\Q d' m') (λd V=>X d V.mu) ⟨es.zip (ds++dfl),m⟩):zA4 W too (n+1) f ds m Q X:=by
 refine e24 (λfd body FK hc hp hb=>?_) FB.fn
 have hl:=FB.len
 rw[<-FB.es]at h
 have hin:∀ x∈ns,okc x=true/\∃ k,fd.scope.names.lookup x=some k/\(k=.local\/k=.cell):=λx hx=>
  e02 (λh1 h2=>⟨h1,e12 (λk e h=>⟨k,e,yC3 h⟩) (zAm h2)⟩) ((Bool.and_eq_true _ _).mp (List.all_eq_true.mp hp x hx))
 refine yDa B.wo FK (ns:=ns) (dfl:=dfl) (dvs:=dvs) (by rw[hl,hk,hd.length]) hin FB.nd hd (λs vs X hv=>hb s vs X (hv.trans hk)) λcx C SO CA hkd=>?_
 exact zWf B (Z n) C SO CA (k:=60) (c:=c) (by rw[hkd];exact hc) h
end
end
theorem zEy(l:Loc)(k x:Nat)(v:DV):look (put l k v) x=if Nat.beq k x then some v else look l x:=by
 by_cases e:k=x
 ·subst e;rw[zAu];simp
 ·rw[zAg _ _ e,zA9 e];simp
theorem zYn(P:List DV->St->Prop)(h0:∀ V,P [] V->gd V/\R V)(h1:∀ x xs V K,P (x::xs) V->(∀ σ',P xs σ'->K σ')->gd V/\B x K V):∀ xs V,P xs V->forW gd B R xs V
 |[],V,h=>h0 V h
 |x::xs,V,h=>h1 x xs V _ h λσ' h'=>zYn P h0 h1 xs σ' h'
theorem zNl(P:List DV->List DV->Mt->Prop)(h0:∀ acc m,P [] acc m->gd ⟨loc,m⟩/\newL acc Q ⟨loc,m⟩)
  (h1:∀ x xs acc m K,P (x::xs) acc m->(∀ r m',(match r with|none=>P xs acc m'|some d=>P xs (acc++[d]) m')->K r m')->gd ⟨loc,m⟩/\B x K m):∀ xs acc m,P xs acc m->zEc gd B loc Q xs acc m
 |[],acc,m,h=>h0 acc m h
 |x::xs,acc,m,h=>h1 x xs acc m _ h λr m' h'=>by
   cases r with
   |none=>exact zNl P h0 h1 xs acc m' h'
   |some d=>exact zNl P h0 h1 xs (acc++[d]) m' h'
theorem zQm(P:Nat->St->Prop)(h:∀ k V K,P k V->(∀ j σ',j<k->P j σ'->K σ')->B K V):∀ k V,P k V->∃ i,zH1 B i V:=by
 have mono:∀ k V,P k V->∀ i,k<i->zH1 B i V:=by
  intro k
  induction k using Nat.strongRecOn with
  |ind k ih=>
   intro V hp i hi
   cases i with
   |zero=>omega
   |succ i=>exact h k V _ hp λj σ' hj hp'=>ih j hj σ' hp' i (by omega)
 exact λk V hp=>⟨k+1,mono k V hp _ (Nat.lt_succ_self _)⟩
section
theorem yAz{d:Data}{p:Array Value×Nat}(h:seqD d=some p):d=.seq p.1 p.2:=by
 cases d with
 |seq _ _=>cases h;rfl
 |_=>exact zA2 h
theorem zUl{g:Hp}{a:Addr}{x:Option Obj}(h:yBz x=true)(e:∀ o,x=some o->g a=some o):Rep g (.tup [.int 0,.int 0]) (.ref a):=by
 refine e12 (λo e1 h=>e12 (λc e2 h=>e12 (λp e3 h=>e12 (λq e4 h=>e12 (λi e5 h=>e12 (λj e6 h=>a3 h λh1 h2 h3=>?_) (zAm h)) (zAm h)) (zAm h)) (zAm h)) (zAm h)) (zAm h)
 refine e11 (λt e5=>e11 (λu e6=>?_) (zOl e6)) (zOl e5)
 rw[of_decide_eq_true h2]at e5
 rw[of_decide_eq_true h3]at e6
 refine .tup (vs:=[.int 0 t,.int 0 u]) (n:=p.2) (e _ e1) ((zSg e2).trans (congrArg _ (eq_of_beq h1))) ?_ (.cons (.int _ _) (.cons (.int _ _) .nil))
 rw[yAz e3,<-e5,<-e6,<-zKd e4]
theorem frL_in{h:Heap}(l:List Addr):(frL h l).In h:=by
 induction l with
 |nil=>exact λU U e=>nomatch e
 |cons a r ih=>
  intro b o e
  replace e:(optB (h.get? a) (λo=>(a,o)::frL h r) (frL h r)).lookup b=some o:=e
  cases ha:h.get? a with
  |none=>rw[ha]at e;exact ih b o e
  |some x=>
   rw[ha]at e
   replace e:((a,x)::frL h r).lookup b=some o:=e
   rw[List.lookup_cons]at e
   cases hb:b==a with
   |true=>rw[hb]at e;rw[eq_of_beq hb,<-Option.some.inj e];exact ha
   |false=>rw[hb]at e;exact ih b o e
def Gd(W:Wd):Prop:=W.Ok/\obS W.K=exS/\obFs W.K=exFs
section
variable {W:Wd}
theorem Gd.t29(G:Gd W):typeIn W.K (.ref 29)=some (.type "function"):=congrArg (·.1) G.2.1
theorem Gd.f(G:Gd W):fnL.map (obF W.K)=fnL.map exF:=G.2.2
theorem Gd.bs(G:Gd W):tabs.ok W.K=true/\yCm W.K=true/\yBz (W.K.lookup 119)=true/\isSN (nsIn W.K mainGlobals "zip")=true/\zNb 421 (nsIn W.K mainGlobals "law")=true:=by
 have h:obB W.K=[true,true,true,true,true]:=congrArg (·.2.1) G.2.1
 unfold obB at h
 injection h with h1 h
 injection h with h2 h
 injection h with h3 h
 injection h with h4 h
 injection h with h5 h
 exact⟨h1,h2,h3,h4,h5⟩
theorem Gd.o45(G:Gd W):W.K.lookup 45=some ob45:=congrArg (·.2.2.1) G.2.1
theorem Gd.i(G:Gd W):obI W.K=exI:=congrArg (·.2.2.2) G.2.1
theorem zTb{α:Type}(d:α)(vs:List α):(List.range vs.length).map (λi=>vs[i]?.getD d)=vs:=by
 apply List.ext_getElem?
 intro i
 rw[List.getElem?_map]
 by_cases h:i<vs.length
 ·rw[List.getElem?_range h]
  show some (vs[i]?.getD d)=_
  rw[List.getElem?_eq_getElem h];rfl
 ·rw[List.getElem?_eq_none (by simpa using h),List.getElem?_eq_none (by simpa using h)];rfl
theorem zA8(G:Gd W){i f k:Nat}{ns:List Str}{es:List Nat}{dvs:List Value}{c:CSs}(hi:fnL[i]?=some (fq f k ns dvs c))(he:ns.map enc=es)(nd:ns.Nodup)(hl:ns.length=k+dvs.length):FnB W f ns es k dvs c:=by
 refine⟨?_,he,nd,hl⟩
 have h:obF W.K (fq f k ns dvs c)=exF (fq f k ns dvs c):=List.map_inj_left.mp G.f _ (List.mem_of_getElem? hi)
 unfold obF exF fq at h
 dsimp only at h
 cases hf:fdAt W.K f with
 |none=>rw[hf]at h;cases h
 |some fd=>
  rw[hf]at h
  dsimp only at h
  cases hb:fd.body with
  |stmts b=>
   rw[hb]at h
   dsimp only at h
   injection h with h
   injection h with h1 h
   injection h with h2 h3
   rw[Bool.and_eq_true]at h1
   refine⟨fd,b,yA1 hf hb h1.1,h2,h1.2,λs vs X hv=>zK8 X λS=>?_⟩
   have e:=congrFun (congrFun h3 λi=>vs[i]?.getD .none) S
   subst hv
   rw[zTb]at e
   exact e
  |_=>rw[hb]at h;cases h
theorem Gd.exc(G:Gd W):ExcF W.K 45 32 29:=by
 have h:=G.bs.2.1
 have o:=G.o45
 unfold yCm at h
 simp only[Bool.and_eq_true]at h
 obtain⟨⟨⟨⟨⟨h1,h2⟩,h3⟩,h4⟩,h5⟩,h6⟩:=h
 refine⟨⟨_,_,_,_,_,_,_,_,_,_,_,_,_,o.trans rfl⟩,⟨_,by unfold clsIn;rw[o];rfl,rfl,rfl⟩,zOj h1,zOj h2,zId h3,zId h4,zF0 h5,G.t29,h6⟩
theorem Gd.ini(G:Gd W):∃ fd,InitF W 29 fd:=by
 have h:=G.i
 unfold obI exI at h
 refine e12 (λfd hf e=>?_) (Option.map_eq_some_iff.mp h)
 injection e with e1 e
 injection e with e2 e
 injection e with e3 e
 injection e with e4 e
 injection e with e5 e6
 exact⟨fd,⟨_,_,_,_,yA1 hf e2 e1⟩,e3,e4,e5,λs a b X=>zK8 X λS=>congrFun (congrFun (congrFun e6 a) b) S⟩
theorem Gd.base(G:Gd W):∃ fd,Base W 45 32 29 fd T0:=by
 refine e11 (λfd hI=>?_) G.ini
 have TB:TbOk W T0:=yAn▸yAm G.1 G.bs.1
 exact⟨fd,⟨G.1,G.exc,hI,TB,TB.gl,by kernel_rfl,λU U U=>rfl⟩⟩
theorem Gd.zip(G:Gd W)(n:Nat):zJd W 45 n:=yE1 G.1 (mg_none_of G.1.kin G.1.ng (zId G.bs.2.2.2.1)) (by rw[G.1.bt _ (by decide)];rfl)
theorem Gd.f119(G:Gd W):Rep W.h₀.get? (.tup [.int 0,.int 0]) (.ref 119):=zUl (x:=W.K.lookup 119) G.bs.2.2.1 (λo h=>G.1.kin _ _ h)
theorem Gd.law(G:Gd W):W.mg "law"=some (.ref 421):=mg_of G.1.kin G.1.ng (zF0 G.bs.2.2.2.2)
theorem Gd.k_Inst_init(G:Gd W):FnB W 62 [Str.ofString "self",Str.ofString "op",Str.ofString "out",Str.ofString "arg",Str.ofString "low",Str.ofString "high",Str.ofString "is_folded"] [222936110,14689,1962331,1745597,2011477,227146788,7806419509700087986] 2 [.int 0 265,.int 0 266,.int 0 267,.int 0 268,.bool false] zJ2:=zA8 G (i:=1) rfl (by kernel_rfl) (by decide) rfl
theorem Gd.k_Program_init(G:Gd W):FnB W 83 [Str.ofString "self"] [222936110] 1 [] zFd:=zA8 G (i:=2) rfl (by kernel_rfl) (by decide) rfl
theorem Gd.k_program_heads(G:Gd W):FnB W 97 [Str.ofString "prog"] [225134396] 1 [] zEq:=zA8 G (i:=3) rfl (by kernel_rfl) (by decide) rfl
theorem Gd.k_inst_fault(G:Gd W):FnB W 104 [Str.ofString "inst"] [253107394] 1 [] zH9:=zA8 G (i:=4) rfl (by kernel_rfl) (by decide) rfl
theorem Gd.k_program_ways_fault(G:Gd W):FnB W 111 [Str.ofString "prog",Str.ofString "number",Str.ofString "heads"] [225134396,4136611441551,32341513866] 3 [] zCp:=zA8 G (i:=5) rfl (by kernel_rfl) (by decide) rfl
theorem Gd.k_program_faults(G:Gd W):FnB W 118 [Str.ofString "prog"] [225134396] 1 [] zEb:=zA8 G (i:=6) rfl (by kernel_rfl) (by decide) rfl
theorem Gd.k_Frag_init(G:Gd W):FnB W 134 [Str.ofString "self",Str.ofString "begin",Str.ofString "ends",Str.ofString "is_nullable"] [222936110,30967732746,250711086,131251851267392784618517] 2 [.ref 119,.bool false] zCd:=zA8 G (i:=7) rfl (by kernel_rfl) (by decide) rfl
theorem Gd.k_Maker_init(G:Gd W):FnB W 155 [Str.ofString "self",Str.ofString "most"] [222936110,253107527] 2 [] zHd:=zA8 G (i:=8) rfl (by kernel_rfl) (by decide) rfl
theorem Gd.k_need(G:Gd W):FnB W 162 [Str.ofString "self",Str.ofString "many"] [222936110,263755961] 2 [] yA7:=zA8 G (i:=9) rfl (by kernel_rfl) (by decide) rfl
theorem Gd.k_new(G:Gd W):FnB W 169 [Str.ofString "self",Str.ofString "op"] [222936110,14689] 2 [] yHd:=zA8 G (i:=10) rfl (by kernel_rfl) (by decide) rfl
theorem Gd.k_way(G:Gd W):FnB W 176 [Str.ofString "self",Str.ofString "mark"] [222936110,233768879] 2 [] yHc:=zA8 G (i:=11) rfl (by kernel_rfl) (by decide) rfl
theorem Gd.k_lead(G:Gd W):FnB W 183 [Str.ofString "self",Str.ofString "mark",Str.ofString "value"] [222936110,233768879,28501269794] 3 [] yA8:=zA8 G (i:=12) rfl (by kernel_rfl) (by decide) rfl
theorem Gd.k_patch(G:Gd W):FnB W 190 [Str.ofString "self",Str.ofString "ends",Str.ofString "target"] [222936110,250711086,4208068358925] 3 [] zVu:=zA8 G (i:=13) rfl (by kernel_rfl) (by decide) rfl
theorem Gd.k_joined(G:Gd W):FnB W 197 [Str.ofString "self",Str.ofString "one",Str.ofString "other"] [222936110,1711813,32066856103] 3 [] zQd:=zA8 G (i:=14) rfl (by kernel_rfl) (by decide) rfl
theorem Gd.k_ends_one(G:Gd W):FnB W 211 [Str.ofString "mark"] [233768879] 1 [] zK7:=zA8 G (i:=15) rfl (by kernel_rfl) (by decide) rfl
theorem Gd.k_frag_none(G:Gd W):FnB W 218 [] [] 0 [] zJ1:=zA8 G (i:=16) rfl (by kernel_rfl) (by decide) rfl
theorem Gd.k_frag_is_none(G:Gd W):FnB W 225 [Str.ofString "frag"] [224901412] 1 [] zFc:=zA8 G (i:=17) rfl (by kernel_rfl) (by decide) rfl
theorem Gd.k_frag_nop(G:Gd W):FnB W 232 [Str.ofString "maker"] [32066903573] 1 [] zK4:=zA8 G (i:=18) rfl (by kernel_rfl) (by decide) rfl
theorem Gd.k_frag_is_nop(G:Gd W):FnB W 239 [Str.ofString "maker",Str.ofString "frag"] [32066903573,224901412] 2 [] zG9:=zA8 G (i:=19) rfl (by kernel_rfl) (by decide) rfl
theorem Gd.k_frag_empty(G:Gd W):FnB W 254 [Str.ofString "maker",Str.ofString "bits"] [32066903573,250976694] 2 [] zHc:=zA8 G (i:=21) rfl (by kernel_rfl) (by decide) rfl
theorem Gd.k_frag_match(G:Gd W):FnB W 261 [Str.ofString "maker",Str.ofString "match_id"] [32066903573,60533133266329793] 2 [] zHb:=zA8 G (i:=22) rfl (by kernel_rfl) (by decide) rfl
theorem Gd.k_frag_cat(G:Gd W):FnB W 268 [Str.ofString "maker",Str.ofString "one",Str.ofString "other"] [32066903573,1711813,32066856103] 3 [] zK5:=zA8 G (i:=23) rfl (by kernel_rfl) (by decide) rfl
theorem Gd.k_frag_alt(G:Gd W):FnB W 275 [Str.ofString "maker",Str.ofString "one",Str.ofString "other"] [32066903573,1711813,32066856103] 3 [] zK6:=zA8 G (i:=24) rfl (by kernel_rfl) (by decide) rfl
theorem Gd.k_frag_choice(G:Gd W):FnB W 282 [Str.ofString "maker",Str.ofString "begin",Str.ofString "is_lazy"] [32066903573,30967732746,566630696248834] 3 [] zGa:=zA8 G (i:=25) rfl (by kernel_rfl) (by decide) rfl
theorem Gd.k_frag_plus(G:Gd W):FnB W 289 [Str.ofString "maker",Str.ofString "frag",Str.ofString "is_lazy"] [32066903573,224901412,566630696248834] 3 [] zJ0:=zA8 G (i:=26) rfl (by kernel_rfl) (by decide) rfl
theorem Gd.k_frag_quest(G:Gd W):FnB W 296 [Str.ofString "maker",Str.ofString "frag",Str.ofString "is_lazy"] [32066903573,224901412,566630696248834] 3 [] zHa:=zA8 G (i:=27) rfl (by kernel_rfl) (by decide) rfl
theorem Gd.k_frag_star(G:Gd W):FnB W 303 [Str.ofString "maker",Str.ofString "frag",Str.ofString "is_lazy"] [32066903573,224901412,566630696248834] 3 [] zIz:=zA8 G (i:=28) rfl (by kernel_rfl) (by decide) rfl
theorem Gd.k_law_none(G:Gd W):FnB W 318 [] [] 0 [] zJz:=zA8 G (i:=30) rfl (by kernel_rfl) (by decide) rfl
theorem Gd.k_law_digits(G:Gd W):FnB W 325 [Str.ofString "number",Str.ofString "bases"] [4136611441551,32343959571] 2 [] zH8:=zA8 G (i:=31) rfl (by kernel_rfl) (by decide) rfl
theorem Gd.k_law_fits(G:Gd W):FnB W 332 [Str.ofString "pair",Str.ofString "octet"] [248645936,32620899364] 2 [] zK3:=zA8 G (i:=32) rfl (by kernel_rfl) (by decide) rfl
theorem Gd.k_law_first(G:Gd W):FnB W 339 [Str.ofString "ways"] [251058888] 1 [] zIy:=zA8 G (i:=33) rfl (by kernel_rfl) (by decide) rfl
theorem Gd.k_law_kept(G:Gd W):FnB W 344 [Str.ofString "one",Str.ofString "other"] [1711813,32066856103] 2 [] zK2:=zA8 G (i:=34) rfl (by kernel_rfl) (by decide) rfl
theorem Gd.k_law_mark(G:Gd W):FnB W 349 [Str.ofString "slot",Str.ofString "at"] [253040582,15191] 2 [] zK0:=zA8 G (i:=35) rfl (by kernel_rfl) (by decide) rfl
theorem Gd.k_law_group(G:Gd W):FnB W 356 [Str.ofString "ways",Str.ofString "at",Str.ofString "slots"] [251058888,15191,32376094778] 3 [] zIw:=zA8 G (i:=36) rfl (by kernel_rfl) (by decide) rfl
theorem Gd.k_law_joined(G:Gd W):FnB W 361 [Str.ofString "ways",Str.ofString "table"] [251058888,28481783181] 2 [] zH7:=zA8 G (i:=37) rfl (by kernel_rfl) (by decide) rfl
theorem Gd.k_law_loops(G:Gd W):FnB W 366 [Str.ofString "table",Str.ofString "is_lazy"] [28481783181,566630696248834] 2 [] zIv:=zA8 G (i:=38) rfl (by kernel_rfl) (by decide) rfl
theorem Gd.k_law_meant(G:Gd W):FnB W 371 [Str.ofString "order",Str.ofString "tables",Str.ofString "row",Str.ofString "text",Str.ofString "holds"] [32066789281,4172355774465,2011483,253189449,32341698207] 5 [] zIu:=zA8 G (i:=39) rfl (by kernel_rfl) (by decide) rfl
theorem Gd.k_law_needs(G:Gd W):FnB W 376 [Str.ofString "order",Str.ofString "shapes"] [32066789281,4172364345482] 2 [] zIt:=zA8 G (i:=40) rfl (by kernel_rfl) (by decide) rfl
theorem Gd.k_law_shape(G:Gd W):FnB W 383 [Str.ofString "order",Str.ofString "shapes"] [32066789281,4172364345482] 2 [] zIs:=zA8 G (i:=41) rfl (by kernel_rfl) (by decide) rfl
theorem Gd.k_law_made(G:Gd W):FnB W 390 [Str.ofString "maker",Str.ofString "order",Str.ofString "parts",Str.ofString "row",Str.ofString "is_reversed"] [32066903573,32066789281,32376143279,2011483,129907780876443790661926] 5 [] zK1:=zA8 G (i:=42) rfl (by kernel_rfl) (by decide) rfl
theorem Gd.k_law_rows(G:Gd W):FnB W 395 [Str.ofString "insts"] [32376161590] 1 [] zJy:=zA8 G (i:=43) rfl (by kernel_rfl) (by decide) rfl
theorem Gd.k_law_tried(G:Gd W):FnB W 402 [Str.ofString "maker",Str.ofString "room",Str.ofString "needs",Str.ofString "order",Str.ofString "parts",Str.ofString "row",Str.ofString "is_reversed"] [32066903573,238014145,32341580436,32066789281,32376143279,2011483,129907780876443790661926] 7 [] zIr:=zA8 G (i:=44) rfl (by kernel_rfl) (by decide) rfl
theorem Gd.k_law_ways(G:Gd W):FnB W 409 [Str.ofString "inst",Str.ofString "at",Str.ofString "kept",Str.ofString "text",Str.ofString "holds"] [253107394,15191,253056312,253189449,32341698207] 5 [] zJx:=zA8 G (i:=45) rfl (by kernel_rfl) (by decide) rfl
theorem Gd.k_law_found(G:Gd W):FnB W 416 [Str.ofString "insts",Str.ofString "begin",Str.ofString "text",Str.ofString "holds"] [32376161590,30967732746,253189449,32341698207] 4 [] zIx:=zA8 G (i:=46) rfl (by kernel_rfl) (by decide) rfl
theorem Gd.k_law(G:Gd W):FnB W 421 [Str.ofString "script"] [4211118804251] 1 [] yHe:=zA8 G (i:=47) rfl (by kernel_rfl) (by decide) rfl
theorem Gd.k_Frag_init3(G:Gd W):FnB W 134 [Str.ofString "self",Str.ofString "begin",Str.ofString "ends",Str.ofString "is_nullable"] [222936110,30967732746,250711086,131251851267392784618517] 3 [.bool false] zCd:=zA8 G (i:=48) rfl (by kernel_rfl) (by decide) rfl
theorem Gd.k_Frag_init4(G:Gd W):FnB W 134 [Str.ofString "self",Str.ofString "begin",Str.ofString "ends",Str.ofString "is_nullable"] [222936110,30967732746,250711086,131251851267392784618517] 4 [] zCd:=zA8 G (i:=49) rfl (by kernel_rfl) (by decide) rfl
theorem Gd.k_frag_range4(G:Gd W):FnB W 247 [Str.ofString "maker",Str.ofString "low",Str.ofString "high",Str.ofString "is_folded"] [32066903573,2011477,227146788,7806419509700087986] 4 [] zEr:=zA8 G (i:=50) rfl (by kernel_rfl) (by decide) rfl
theorem Gd.k_frag_capture4(G:Gd W):FnB W 311 [Str.ofString "maker",Str.ofString "frag",Str.ofString "group",Str.ofString "is_reversed"] [32066903573,224901412,31547473586,129907780876443790661926] 4 [] zDf:=zA8 G (i:=51) rfl (by kernel_rfl) (by decide) rfl
end
end
end Mine.Internal
end
noncomputable section
namespace Mine.Internal
theorem len1(h:l.length=1):∃ a,l=[a]:=by
 cases l with
 |nil=>cases h
 |cons a r=>exact⟨a,by rw[List.eq_nil_of_length_eq_zero (Nat.succ.inj h)]⟩
theorem len2(h:l.length=2):∃ a b,l=[a,b]:=by
 cases l with
 |nil=>cases h
 |cons a r=>obtain⟨b,rfl⟩:=len1 (Nat.succ.inj h);exact⟨a,b,rfl⟩
theorem zOc(h:l≠[]):∃ a r,l=a::r:=by
 cases l with
 |nil=>exact(h rfl).elim
 |cons a r=>exact⟨a,r,rfl⟩
theorem yBs(h:l.map f=[b]):∃ a,l=[a]/\f a=b:=by
 cases l with
 |nil=>cases h
 |cons a r=>cases r with
  |nil=>cases h;exact⟨a,rfl,rfl⟩
  |cons c s=>cases h
abbrev Kept:=List Int
noncomputable def zAc:Kept:=[-1,-1,-1,-1]
noncomputable def kept(one other:Kept):Kept:=(one.zip other).map λp=>if 0<=p.2 then p.2 else p.1
noncomputable def zCm(slot:Nat)(at_:Nat):Kept:=(List.range 4).map λn=>if n=slot then Int.ofNat at_ else -1
abbrev Way:=Nat×Kept
noncomputable def zAp:List Nat->List Way->List Way
 |_,[]=>[]
 |met,(e,k)::r=>if met.contains e then zAp met r else(e,k)::zAp (met++[e]) r
noncomputable def zCk:Nat->List Nat->List Nat
 |_,[]=>[]
 |N,b::r=>N % b::zCk (N / b) r
def first(l:List Way):List Way:=zAp [] l
abbrev zAa:=List (List Way)
noncomputable def row(t:zAa)(h:Nat):List Way:=t.getD h []
def zB4(k:Kept)(l:List Way):List Way:=l.map λp=>(p.1,kept k p.2)
def zBq(l:List Way)(t:zAa):List Way:=l.flatMap λp=>zB4 p.2 (row t p.1)
def joined(l:List Way)(t:zAa):List Way:=first (zBq l t)
def group(l:List Way)(at_ s0 s1:Nat):List Way:=l.map λp=>(p.1,kept (kept (zCm s0 at_) p.2) (zCm s1 p.1))
def loopOne(found:zAa)(lazy:Bool)(at_:Nat)(p:Way):List Way:=
 let more:=if at_<p.1 then joined [p] found else[]
 if lazy then[p]++more else more++[p]
def zAi(t:zAa)(lazy:Bool)(found:zAa)(at_:Nat):zAa:=
 found.set at_ (first ((row t at_).flatMap (loopOne found lazy at_)))
def loops(t:zAa)(lazy:Bool):zAa:=(List.range t.length).reverse.foldl (zAi t lazy) (t.map λU=>[])
noncomputable def fits(lo hi:Nat)(fold:Bool)(o:Nat):Bool:=
 let s:=if fold&&(65<=o&&o<=90)then o+32 else o
 decide (lo<=s)&&decide (s<=hi)
set_option genCtorIdx true in
inductive Ord where
 |range|cat|alt|star|capture|quest|plus|empty|nop|none
 deriving DecidableEq
structure Row where
 lazy:Bool
 lo:Nat
 hi:Nat
 fold:Bool
 s0:Nat
 s1:Nat
 bits:Nat
noncomputable def zDd(bits:Nat)(holds:List Nat)(at_:Nat):Bool:=decide (holds.getD at_ 0&&& bits=bits)
def zC9(lo hi:Nat)(fold:Bool)(text:List Nat)(at_:Nat):Bool:=decide (at_<text.length)&&fits lo hi fold (text.getD at_ 0)
noncomputable def tab(tables:List zAa)(k:Nat):zAa:=tables.getD k []
def meant(o:Ord)(tables:List zAa)(r:Row)(text holds:List Nat):zAa:=
 let f:Nat->List Way:=match o with
  |.none=>λU=>[]
  |.nop=>λa=>[(a,zAc)]
  |.empty=>λa=>if zDd r.bits holds a then[(a,zAc)]else[]
  |.range=>λa=>if zC9 r.lo r.hi r.fold text a then[(a+1,zAc)]else[]
  |.cat=>λa=>joined (row (tab tables 0) a) (tab tables 1)
  |.alt=>λa=>first (row (tab tables 0) a++row (tab tables 1) a)
  |.capture=>λa=>group (row (tab tables 0) a) a r.s0 r.s1
  |.plus=>row (loops (tab tables 0) r.lazy)
  |.quest=>λa=>first (if r.lazy then[(a,zAc)]++row (tab tables 0) a else row (tab tables 0) a++[(a,zAc)])
  |.star=>λa=>first (if r.lazy then[(a,zAc)]++row (loops (tab tables 0) r.lazy) a else row (loops (tab tables 0) r.lazy) a++[(a,zAc)])
 (List.range (text.length+1)).map f
abbrev zJ8:=Bool×Bool
noncomputable def shp(l:List zJ8)(k:Nat):zJ8:=l.getD k (false,false)
def needs(o:Ord)(l:List zJ8):Nat:=match o with
 |.cat=>0
 |.none=>0
 |.alt=>if l.any (·.1)then 0 else 1
 |.plus=>if l.any (·.1)then 0 else 1
 |.capture=>if l.any (·.1)then 0 else 2
 |.star=>if(shp l 0).2 then 2 else 1
 |_=>1
def zMm(o:Ord)(l:List zJ8):zJ8:=match o with
 |.cat=>let n:=(shp l 0).1||(shp l 1).1;(n,!n&&((shp l 0).2&&(shp l 1).2))
 |.alt=>((shp l 0).1&&(shp l 1).1,(shp l 0).2||(shp l 1).2)
 |.plus=>shp l 0
 |.capture=>shp l 0
 |.none=>(true,false)
 |.range=>(false,false)
 |_=>(false,true)
structure Ins where
 op:Nat
 out:Nat
 arg:Nat
 low:Nat
 high:Nat
 fold:Bool
 deriving DecidableEq
noncomputable def opI(op:Nat):Ins:=⟨op,0,0,0,0,false⟩
structure Fr where
 b:Nat
 e0:Nat
 e1:Nat
 nl:Bool
 deriving DecidableEq
def zA0(is:List Ins)(k:Nat):Ins:=is.getD k (opI 6)
def wayP(is:List Ins)(k:Nat):Nat:=if k % 2=0 then(zA0 is (k / 2)).out else(zA0 is (k / 2)).arg
noncomputable def zLa(i:Ins)(k v:Nat):Ins:=if k % 2=0 then{i with out:=v}else{i with arg:=v}
def zD5(is:List Ins)(k v:Nat):List Ins:=is.set (k / 2) (zLa (zA0 is (k / 2)) k v)
def zAd(is:List Ins)(ms:List Nat)(t:Nat):List Ins:=ms.foldl (λis k=>zD5 is k t) is
def Chain(is:List Ins):Nat->List Nat->Prop
 |e,[]=>e=0
 |e,k::r=>e=k/\k≠0/\k / 2<is.length/\Chain is (wayP is k) r
structure Part where
 f:Fr
 ms:List Nat
noncomputable def zJb:Fr:=⟨0,0,0,false⟩
noncomputable def oneF(n k:Nat)(nl:Bool):Fr:=⟨n,k,k,nl⟩
def zN9(is:List Ins)(a0 a1 b0:Nat):List Ins:=if a0=0 then is else if b0=0 then is else zD5 is a1 b0
noncomputable def zOg(a0 a1 b0 b1:Nat):Nat×Nat:=if a0=0 then(b0,b1)else if b0=0 then(a0,a1)else(a0,b1)
def zE9(is:List Ins)(f:Fr):Bool:=decide ((zA0 is f.b).op=5)&&(decide (f.e0=f.b * 2)&&decide (f.e1=f.b * 2))
def nopP(is:List Ins):List Ins×Part:=(is++[opI 5],⟨oneF is.length (is.length * 2) true,[is.length * 2]⟩)
def catP(is:List Ins)(a b:Part):List Ins×Part:=
 if a.f.b=0\/b.f.b=0 then(zAd (zAd is a.ms 0) b.ms 0,⟨zJb,[]⟩)else
 let is':=zAd is a.ms b.f.b
 if zE9 is' a.f then(is',b)else(is',⟨⟨a.f.b,b.f.e0,b.f.e1,a.f.nl&&b.f.nl⟩,b.ms⟩)
def altP(is:List Ins)(a b:Part):List Ins×Part:=
 if a.f.b=0 then(is,b)else if b.f.b=0 then(is,a)else
 let e:=zOg a.f.e0 a.f.e1 b.f.e0 b.f.e1
 (zN9 (is++[(⟨0,a.f.b,b.f.b,0,0,false⟩: Ins)]) a.f.e0 a.f.e1 b.f.e0,⟨⟨is.length,e.1,e.2,a.f.nl||b.f.nl⟩,a.ms++b.ms⟩)
noncomputable def zBs(begin_:Nat)(lazy:Bool):Ins:=if lazy then⟨0,0,begin_,0,0,false⟩else⟨0,begin_,0,0,0,false⟩
noncomputable def zA5(n:Nat)(lazy:Bool):Nat:=if lazy then n * 2 else n * 2+1
def zCt(is:List Ins)(a:Part)(lazy:Bool):List Ins×Part:=
 if a.f.b=0 then(is,⟨zJb,[]⟩)else
 (zAd (is++[zBs a.f.b lazy]) a.ms is.length,⟨oneF a.f.b (zA5 is.length lazy) a.f.nl,[zA5 is.length lazy]⟩)
def zEh(is:List Ins)(a:Part)(lazy:Bool):List Ins×Part:=
 if a.f.b=0 then nopP is else
 let p:=zA5 is.length lazy
 let e:=zOg p p a.f.e0 a.f.e1
 (zN9 (is++[zBs a.f.b lazy]) p p a.f.e0,⟨⟨is.length,e.1,e.2,true⟩,p::a.ms⟩)
def zKk(is:List Ins)(a:Part)(lazy:Bool):List Ins×Part:=
 if a.f.b=0 then nopP is else
 if a.f.nl then(let r:=zCt is a lazy;zEh r.1 r.2 lazy)else
 (zAd (is++[zBs a.f.b lazy]) a.ms is.length,⟨oneF is.length (zA5 is.length lazy) true,[zA5 is.length lazy]⟩)
def capP(is:List Ins)(a:Part)(g:Nat)(rev:Bool):List Ins×Part:=
 if a.f.b=0 then(is,⟨zJb,[]⟩)else
 (zAd (is++[⟨2,a.f.b,if rev then 2 * g+1 else 2 * g,0,0,false⟩,⟨2,0,if rev then 2 * g else 2 * g+1,0,0,false⟩]) a.ms (is.length+1),
  ⟨oneF is.length ((is.length+1) * 2) a.f.nl,[(is.length+1) * 2]⟩)
def part(l:List Part)(k:Nat):Part:=l.getD k ⟨zJb,[]⟩
def made(is:List Ins)(o:Ord)(l:List Part)(r:Row)(rev:Bool):List Ins×Part:=match o with
 |.cat=>catP is (part l 0) (part l 1)
 |.alt=>altP is (part l 0) (part l 1)
 |.star=>zKk is (part l 0) r.lazy
 |.quest=>zEh is (part l 0) r.lazy
 |.plus=>zCt is (part l 0) r.lazy
 |.capture=>capP is (part l 0) (1+min r.s0 r.s1 / 2) rev
 |.empty=>(is++[⟨3,0,r.bits,0,0,false⟩],⟨oneF is.length (is.length * 2) true,[is.length * 2]⟩)
 |.nop=>nopP is
 |.none=>(is,⟨zJb,[]⟩)
 |.range=>(is++[⟨1,0,0,r.lo,r.hi,r.fold⟩],⟨oneF is.length (is.length * 2) false,[is.length * 2]⟩)
abbrev Conf:=Nat×Nat×Kept
def ways(i:Ins)(at_:Nat)(k:Kept)(text holds:List Nat):List Conf:=
 if i.op=0 then[(i.out,at_,k),(i.arg,at_,k)]else
 if i.op=5||(i.op=3&&zDd i.arg holds at_)then[(i.out,at_,k)]else
 if i.op=2 then[(i.out,at_,kept k (zCm (i.arg-2) at_))]else
 if i.op=1&&zC9 i.low i.high i.fold text at_ then[(i.out,at_+1,k)]else[]
inductive Dfs(is:List Ins)(text holds:List Nat):List Conf->List (Nat×Nat)->List Way->List Way->Prop
 |done {met found}:Dfs is text holds [] met found found
 |old {n a k left met found res}:(n,a)∈met->left.length<=1000->Dfs is text holds left met found res->Dfs is text holds ((n,a,k)::left) met found res
 |new {n a k left met found res}:(n,a)∉met->n<is.length->a<=text.length->left.length<=1000->met.length<=1000->found.length<=1000->
   Dfs is text holds (ways (zA0 is n) a k text holds++left) ((n,a)::met) (if(zA0 is n).op=4 then found++[(a,k)]else found) res->Dfs is text holds ((n,a,k)::left) met found res
set_option tactic.hygienic true in
theorem zE2:∀(l:List Way) (met:List Nat) (p:Way),p∈zAp met l->p∈l/\p.1∉met
 |[],_,_,h=>by simp[zAp]at h
 |(e,k)::r,met,p,h=>by
  unfold zAp at h
  split at h
  ·refine e02 (λa b=>?_) (zE2 r met p h);exact⟨List.mem_cons_of_mem _ a,b⟩
  ·rename_i hc
   rcases List.mem_cons.mp h with rfl|h
   ·exact⟨List.mem_cons_self ..,by simpa using hc⟩
   ·refine e02 (λa b=>?_) (zE2 r _ p h)
    exact⟨List.mem_cons_of_mem _ a,λq=>b (List.mem_append_left _ q)⟩
theorem zIh(h:p∈first l):p∈l:=(zE2 l [] p h).1
theorem zE3:∀(l:List Way) (met:List Nat),((zAp met l).map (·.1)).Nodup
 |[],_=>by simp[zAp]
 |(e,k)::r,met=>by
  unfold zAp
  split
  ·exact zE3 r met
  ·rw[List.map_cons,List.nodup_cons]
   refine⟨λh=>?_,zE3 r _⟩
   refine e12 (λp hp he=>?_) (List.mem_map.mp h)
   exact(zE2 r _ p hp).2 (by dsimp only at he;rw[he];simp)
theorem zIi(l:List Way):((first l).map (·.1)).Nodup:=zE3 l []
theorem zDy[DecidableEq α]:∀{l m:List α},l.Nodup->(∀ x∈l,x∈m)->l.length<=m.length
 |[],_,_,_=>by simp
 |x::r,m,nd,h=>by
  rw[List.nodup_cons]at nd
  have hx:=h x (List.mem_cons_self ..)
  have:=zDy (m:=m.erase x) nd.2 (λy hy=>by
   have hne:y≠x:=λe=>nd.1 (e▸hy)
   exact(List.mem_erase_of_ne hne).mpr (h y (List.mem_cons_of_mem _ hy)))
  rw[List.length_erase_of_mem hx]at this
  have:=List.length_pos_of_mem hx
  simp only[List.length_cons];omega
theorem zTs{l:List Nat}(nd:l.Nodup)(h:∀ x∈l,x<N):l.length<=N:=by
 have:=zDy nd (m:=List.range N) (λx hx=>List.mem_range.mpr (h x hx))
 simpa using this
theorem zV5{l:List Way}(h:∀ p∈l,p.1<N):(first l).length<=N:=by
 have:=zTs (zIi l) (N:=N) (λx hx=>by
  obtain⟨p,hp,rfl⟩:=List.mem_map.mp hx
  exact h p (zIh hp))
 simpa using this
def Wf(N:Nat)(l:List Way):Prop:=l.length<=5/\∀ p∈l,p.1<N/\p.2.length<=4
def WfT(N:Nat)(t:zAa):Prop:=t.length=N/\∀ l∈t,Wf N l
theorem Wf.nil:Wf N []:=⟨by simp,by simp⟩
theorem zEz(h:b.length<=4):(kept a b).length<=4:=by
 unfold kept;simp;omega
theorem zD2(s a:Nat):(zCm s a).length=4:=rfl
theorem zG6(hN:N<=5)(h:∀ p∈l,p.1<N/\p.2.length<=4):Wf N (first l):=
 ⟨Nat.le_trans (zV5 λp hp=>(h p hp).1) hN,λp hp=>h p (zIh hp)⟩
theorem zCi(h:WfT N t)(k:Nat):Wf N (row t k):=by
 unfold row
 rw[List.getD_eq_getElem?_getD]
 cases e:t[k]? with
 |none=>exact .nil
 |some l=>exact h.2 l (List.mem_of_getElem? e)
theorem zN7(ht:WfT N t):∀ p∈zBq l t,p.1<N/\p.2.length<=4:=by
 intro p hp
 refine e12 (λq hq hp=>?_) (List.mem_flatMap.mp hp)
 obtain⟨r,hr,rfl⟩:=List.mem_map.mp hp
 have:=(zCi ht q.1).2 r hr
 exact⟨this.1,zEz this.2⟩
theorem zG5(hN:N<=5)(ht:WfT N t):Wf N (joined l t):=zG6 hN (zN7 ht)
theorem zRd(hN:N<=5)(hf:WfT N f)(hp:p.1<N/\p.2.length<=4):∀ q∈loopOne f lazy a p,q.1<N/\q.2.length<=4:=by
 intro q hq
 unfold loopOne at hq
 have hm:∀ q∈(if a<p.1 then joined [p] f else[]),q.1<N/\q.2.length<=4:=λq hq=>by
  split at hq
  ·exact(zG5 hN hf).2 q hq
  ·simp at hq
 dsimp only at hq
 split at hq<;>rcases List.mem_append.mp hq with h|h
 ·rw[List.mem_singleton]at h;subst h;exact hp
 ·exact hm q h
 ·exact hm q h
 ·rw[List.mem_singleton]at h;subst h;exact hp
theorem zFk(hN:N<=5)(hf:WfT N f):(loopOne f lazy a p).length<=6:=by
 unfold loopOne
 have:(if a<p.1 then joined [p] f else[]).length<=5:=by
  split
  ·exact(zG5 hN hf).1
  ·simp
 dsimp only
 split<;>simp<;>exact this
theorem zLj{α β:Type}{f:α->List β}{c:Nat}(h:∀ x,(f x).length<=c):∀ l:List α,(l.flatMap f).length<=l.length * c
 |[]=>by simp
 |x::r=>by
  have:=zLj h r
  have:=h x
  simp only[List.flatMap_cons,List.length_append,List.length_cons,Nat.add_mul];omega
theorem zIb(hN:N<=5)(ht:WfT N t)(hf:WfT N f):WfT N (zAi t lazy f a):=by
 refine⟨by unfold zAi;rw[List.length_set];exact hf.1,λl hl=>?_⟩
 unfold zAi at hl
 rcases List.mem_or_eq_of_mem_set hl with h|rfl
 ·exact hf.2 l h
 ·refine zG6 hN λq hq=>?_
  refine e12 (λp hp hq=>?_) (List.mem_flatMap.mp hq)
  exact zRd hN hf ((zCi ht a).2 p hp) q hq
theorem zL3(hN:N<=5)(ht:WfT N t):WfT N (loops t lazy):=by
 unfold loops
 have:∀(as:List Nat) (f:zAa),WfT N f->WfT N (as.foldl (zAi t lazy) f):=by
  intro as
  induction as with
  |nil=>intro f hf;exact hf
  |cons a r ih=>intro f hf;exact ih _ (zIb hN ht hf)
 exact this _ _ ⟨by simpa using ht.1,λl hl=>by obtain⟨_,_,rfl⟩:=List.mem_map.mp hl;exact .nil⟩
theorem zN0(h:∀ a<N,Wf N (f a)):WfT N ((List.range N).map f):=
 ⟨by simp,λl hl=>by obtain⟨a,ha,rfl⟩:=List.mem_map.mp hl;exact h a (List.mem_range.mp ha)⟩
theorem zJ6{N:Nat}{a b:List Way}(ha:∀ p∈a,p.1<N/\p.2.length<=4)(hb:∀ p∈b,p.1<N/\p.2.length<=4):∀ p∈a++b,p.1<N/\p.2.length<=4:=λp hp=>by
 rcases List.mem_append.mp hp with h|h
 ·exact ha p h
 ·exact hb p h
theorem zFt{N a:Nat}(h:a<N):∀ p∈[(a,zAc)],p.1<N/\p.2.length<=4:=λp hp=>by
 rw[List.mem_singleton]at hp;subst hp;exact⟨h,by simp[zAc]⟩
theorem zH2(h:∀ t∈l,WfT N t)(k:Nat)(hk:k<l.length):WfT N (tab l k):=by
 unfold tab;rw[List.getD_eq_getElem?_getD,List.getElem?_eq_getElem hk];exact h _ (List.getElem_mem hk)
noncomputable def many:Ord->Nat
 |.cat=>2|.alt=>2|.star=>1|.quest=>1|.plus=>1|.capture=>1|_=>0
theorem zDr(h:k<is.length)(j:Nat):zA0 (is.set k i) j=if j=k then i else zA0 is j:=by
 unfold zA0
 rw[List.getD_eq_getElem?_getD,List.getD_eq_getElem?_getD,List.getElem?_set]
 by_cases e:k=j
 ·subst e;rw[if_pos rfl,if_pos h,if_pos rfl];rfl
 ·rw[if_neg e,if_neg (λq=>e q.symm)]
theorem zB1(j:Nat):zA0 (is++[i]) j=if j=is.length then i else zA0 is j:=by
 unfold zA0
 rw[List.getD_eq_getElem?_getD,List.getD_eq_getElem?_getD]
 by_cases e:j=is.length
 ·subst e;rw[if_pos rfl,List.getElem?_append_right (Nat.le_refl _)];simp
 ·rw[if_neg e]
  by_cases g:j<is.length
  ·rw[List.getElem?_append_left g]
  ·rw[List.getElem?_append_right (n57 g e),List.getElem?_eq_none (by simp;omega),List.getElem?_eq_none (n57 g e)]
theorem zBg(is:List Ins)(k v:Nat):(zD5 is k v).length=is.length:=by unfold zD5;rw[List.length_set]
theorem zAh:∀(ms:List Nat) (is:List Ins) (t:Nat),(zAd is ms t).length=is.length
 |[],_,_=>rfl
 |k::r,is,t=>(zAh r (zD5 is k t) t).trans (zBg is k t)
theorem zDk(v:Nat)(h:k / 2<is.length)(j:Nat):wayP (zD5 is k v) j=if j=k then v else wayP is j:=by
 unfold wayP zD5
 rw[zDr h]
 by_cases e:j / 2=k / 2
 ·rw[if_pos e]
  unfold zLa
  by_cases e1:j % 2=0<;>by_cases e2:k % 2=0
  ·have:j=k:=by omega
   subst this;simp[e1]
  ·have:j≠k:=by omega
   simp[e1,e2,this,e]
  ·have:j≠k:=by omega
   simp[e1,e2,this,e]
  ·have:j=k:=by omega
   subst this;simp[e1]
 ·have:j≠k:=n75 e
  rw[if_neg e,if_neg this]
theorem Chain.lead(v:Nat)(h:k / 2<is.length):∀{ms:List Nat} {e:Nat},k∉ms->Chain is e ms->Chain (zD5 is k v) e ms
 |[],_,_,c=>c
 |j::r,e,hk,⟨c1,c2,c3,c4⟩=>by
  have hj:j≠k:=λq=>hk (q▸List.mem_cons_self ..)
  refine⟨c1,c2,by rw[zBg];exact c3,?_⟩
  rw[zDk v h,if_neg hj]
  exact Chain.lead v h (λq=>hk (List.mem_cons_of_mem _ q)) c4
theorem Chain.mem:∀{ms:List Nat} {e:Nat},Chain is e ms->∀ k∈ms,k≠0/\k / 2<is.length
 |[],_,_,_,h=>by simp at h
 |j::r,e,⟨c1,c2,c3,c4⟩,k,h=>by
  rcases List.mem_cons.mp h with rfl|h
  ·exact⟨c2,c3⟩
  ·exact Chain.mem c4 k h
theorem zGh:∀{ms:List Nat} {is:List Ins} (t:Nat),(∀ k∈ms,k / 2<is.length)->∀ j,wayP (zAd is ms t) j=if j∈ms then t else wayP is j
 |[],is,t,_,j=>by simp[zAd]
 |k::r,is,t,h,j=>by
  have:=zGh (ms:=r) (is:=zD5 is k t) t (λk' hk=>by rw[zBg];exact h k' (List.mem_cons_of_mem _ hk)) j
  show wayP (zAd (zD5 is k t) r t) j=_
  rw[this,zDk t (h k (List.mem_cons_self ..))]
  by_cases e1:j∈r
  ·simp[e1]
  ·by_cases e2:j=k<;>simp[e1,e2]
theorem Chain.patch(t:Nat):∀{qs:List Nat} {is:List Ins},(∀ k∈qs,k / 2<is.length/\k∉ms)->Chain is e ms->Chain (zAd is qs t) e ms
 |[],_,_,c=>c
 |k::r,is,h,c=>Chain.patch t (qs:=r) (λk' hk=>by rw[zBg];exact h k' (List.mem_cons_of_mem _ hk)) (c.lead t (h k (List.mem_cons_self ..)).1 (h k (List.mem_cons_self ..)).2)
theorem Chain.push(i:Ins):∀{ms:List Nat} {e:Nat},Chain is e ms->Chain (is++[i]) e ms
 |[],_,c=>c
 |k::r,e,⟨c1,c2,c3,c4⟩=>by
  refine⟨c1,c2,by simp;exact n8 c3,?_⟩
  have:wayP (is++[i]) k=wayP is k:=by unfold wayP;simp only[zB1,if_neg (show ¬ k / 2=is.length by exact Nat.ne_of_lt c3)]
  rw[this];exact Chain.push i c4
structure Same(i j:Ins):Prop where
 op:i.op=j.op
 low:i.low=j.low
 high:i.high=j.high
 fold:i.fold=j.fold
 arg:i.op≠0->i.arg=j.arg
structure PartOk(is:List Ins)(p:Part):Prop where
 ch:Chain is p.f.e0 p.ms
 nd:p.ms.Nodup
 b:p.f.b<is.length
 last:p.f.e0≠0->p.f.e1 / 2<is.length
theorem zXh(n b:Nat)(lazy:Bool)(is:List Ins)(h:is.length=n):wayP (is++[zBs b lazy]) (zA5 n lazy)=0:=by
 subst h
 cases lazy
 ·have e:(is.length * 2+1) / 2=is.length:=n33
  have e':(is.length * 2+1) % 2=1:=by omega
  simp[wayP,zA5,zBs,zB1,e,e']
 ·have e:(is.length * 2) / 2=is.length:=n34
  simp[wayP,zA5,zBs,zB1,e]
theorem zBf(n:Nat)(lazy:Bool):zA5 n lazy / 2=n:=by cases lazy<;>simp[zA5]<;>exact n33
theorem zPm(c:Chain is e ms)(lazy:Bool):zA5 is.length lazy∉ms:=λh=>by
 have:=(c.mem _ h).2
 rw[zBf]at this;exact n18 this
theorem yBc(pa:PartOk is a)(lazy:Bool)(h:a.f.b≠0):PartOk (zCt is a lazy).1 (zCt is a lazy).2:=by
 have hl:(zCt is a lazy).1.length=is.length+1:=by unfold zCt;rw[if_neg h];simp[zAh]
 have hb:=pa.b
 refine⟨?_,?_,?_,?_⟩
 ·have hw:wayP (zCt is a lazy).1 (zA5 is.length lazy)=0:=by
   unfold zCt;rw[if_neg h];dsimp only
   rw[zGh _ (λk hk=>by have:=(pa.ch.mem k hk).2;simp;exact n8 this),if_neg (zPm pa.ch lazy),zXh _ _ _ _ rfl]
  have hr:(zCt is a lazy).2=⟨oneF a.f.b (zA5 is.length lazy) a.f.nl,[zA5 is.length lazy]⟩:=by unfold zCt;rw[if_neg h]
  rw[hr]
  refine⟨rfl,λe=>?_,by rw[zBf,hl];exact Nat.lt_add_one _,hw⟩
  have:=zBf is.length lazy
  rw[e]at this;omega
 ·unfold zCt;rw[if_neg h];simp
 ·rw[hl];unfold zCt;rw[if_neg h];simp[oneF];exact n35 hb
 ·intro _;rw[hl];unfold zCt;rw[if_neg h];simp[oneF,zBf]
noncomputable def zAt(p:Part):zJ8:=(decide (p.f.b=0),p.f.nl)
theorem zN8(is:List Ins)(a b c:Nat):(zN9 is a b c).length=is.length:=by
 unfold zN9;split
 ·rfl
 ·split
  ·rfl
  ·exact zBg ..
theorem zPt{l:List Part}{row:Row}{rev:Bool}(hm:l.length=many o)(ok:∀ p∈l,p.f.b=0->p.f.nl=false):(made is o l row rev).1.length=is.length+needs o (l.map zAt):=by
 have quest_len:∀ is (a:Part) lazy,(zEh is a lazy).1.length=is.length+1:=by
  intro is a lazy
  unfold zEh nopP
  split
  ·simp
  ·simp[zN8]
 cases o<;>simp only[many]at hm
 case range=>simp[made,needs]
 case nop=>simp[made,needs,nopP]
 case none=>simp[made,needs]
 case empty=>simp[made,needs]
 case cat=>
  obtain⟨a,b,rfl⟩:=len2 hm
  simp only[made,needs,part,catP,List.getD_cons_zero,List.getD_cons_succ]
  by_cases x:a.f.b=0\/b.f.b=0
  ·simp[if_pos x,zAh]
  ·simp only[if_neg x]
   cases zE9 (zAd is a.ms b.f.b) a.f<;>simp[zAh]
 case alt=>
  obtain⟨a,b,rfl⟩:=len2 hm
  simp only[made,needs,part,altP,List.getD_cons_zero,List.getD_cons_succ]
  by_cases x:a.f.b=0
  ·simp[x,zAt]
  ·by_cases y:b.f.b=0
   ·simp[x,y,zAt]
   ·simp[x,y,zAt,zN8]
 case plus=>
  obtain⟨a,rfl⟩:=len1 hm
  simp only[made,needs,part,zCt,List.getD_cons_zero]
  by_cases x:a.f.b=0<;>simp[x,zAt,zAh]
 case quest=>
  obtain⟨a,rfl⟩:=len1 hm
  simp only[made,needs,part,List.getD_cons_zero]
  exact quest_len ..
 case star=>
  obtain⟨a,rfl⟩:=len1 hm
  have:=ok a (by simp)
  simp only[made,needs,part,zKk,List.getD_cons_zero]
  by_cases x:a.f.b=0
  ·simp[x,zAt,shp,this x,nopP]
  ·simp only[if_neg x]
   cases hz:a.f.nl
   ·simp[zAt,shp,hz,zAh]
   ·simp[zAt,shp,hz,quest_len,zCt,x,zAh]
 case capture=>
  obtain⟨a,rfl⟩:=len1 hm
  simp only[made,needs,part,capP,List.getD_cons_zero]
  by_cases x:a.f.b=0<;>simp[x,zAt,zAh]
theorem zKz:needs o l<=2:=by
 cases o<;>simp[needs]<;>split<;>omega
structure Item where
 part:Part
 sh:zJ8
 tb:zAa
 calm:Bool
structure RowOk(rev:Bool)(r:Row):Prop where
 rng:r.lo<=r.hi/\r.hi<=255
 bits:r.bits≠0/\r.bits&&& 63=r.bits
 slots:∃ g,g<=1/\r.s0=(if rev then 2 * g+1 else 2 * g)/\r.s1=(if rev then 2 * g else 2 * g+1)
structure TextOk(text holds:List Nat):Prop where
 len:text.length<=4
 byte:∀ x∈text,x<256
 holds:holds.length=5
def zD3(o:Ord)(given:List Item):Bool:=given.all (·.calm)&&!((o==.star||o==.plus)&&(shp (given.map (·.sh)) 0).2)
def zBp(is:List Ins)(o:Ord)(given:List Item)(r:Row)(rev:Bool)(text holds:List Nat):Item:=
 ⟨(made is o (given.map (·.part)) r rev).2,zMm o (given.map (·.sh)),meant o (given.map (·.tb)) r text holds,zD3 o given⟩
noncomputable def zD0(n:Nat):Part:=⟨⟨n,0,0,false⟩,[]⟩
def zAl(is:List Ins)(it:Item):List Ins×Part:=catP (is++[opI 4]) it.part (zD0 is.length)
structure InsOk(i:Ins)(N:Nat):Prop where
 range:i.op=1->i.low<=i.high/\i.high<=255
 cap:i.op=2->2<=i.arg
 empty:i.op=3->i.arg≠0/\i.arg&&& 63=i.arg
 out:i.op≠4->i.op≠6->i.out<N
 alt:i.op=0->i.arg<N
structure ItemOk(N:Nat)(is:List Ins)(it:Item):Prop where
 ok:PartOk is it.part
 nl:it.part.f.b=0->it.part.f.nl=false
 sh:zAt it.part=it.sh
 wf:WfT N it.tb
structure LawInv(Inv:List Nat->List Nat->List Ins->List Item->Prop):Prop where
 init:∀ text holds,TextOk text holds->Inv text holds [opI 6] []
 step:∀{text holds is heap given o r rev},TextOk text holds->Inv text holds is (heap++given)->given.length=many o->(o≠.cat->RowOk rev r)->is.length<=100->
  Inv text holds (made is o (given.map (·.part)) r rev).1 (heap++[zBp is o given r rev text holds])
 items:∀{text holds is items},TextOk text holds->Inv text holds is items->(∀ it∈items,ItemOk (text.length+1) is it)/\items.Pairwise λa b=>∀ k∈a.part.ms,k∉b.part.ms
 fin:∀{text holds is it},TextOk text holds->Inv text holds is [it]->is.length<=60->(zA0 (zAl is it).1 0).op=6/\(∀ k<(zAl is it).1.length,InsOk (zA0 (zAl is it).1 k) (zAl is it).1.length)/\(zAl is it).2.f.b<(zAl is it).1.length/\
  ∃ res,Dfs (zAl is it).1 text holds [((zAl is it).2.f.b,0,zAc)] [] [] res/\(it.calm=true->res=row it.tb 0)/\(res.map (·.1)).Perm ((row it.tb 0).map (·.1))
end Mine.Internal
end
noncomputable section
open PySem PySem.W PyProof.Rows
namespace Mine.Internal
set_option genInjectivity false in
set_option genSizeOf false in
structure En where
 W:Wd
 n:Nat
 Q:Option DV->St->Prop
 X:DV->St->Prop
 Z:St->Prop
inductive C where
 |nil|bad|ret|ext
 |cst (d:DV) (r:C)|var (x:Nat) (r:C)|glob (x:Nat) (r:C)|tup (n:Nat) (r:C)|lst (n:Nat) (r:C)|dct (kv:List (Nat×Int)) (r:C)
 |bin (op:BOp) (r:C)|neg (i:Int) (r:C)|notE (r:C)|br (a b:C)|ande (a b:C)|ore (a b:C)
 |cmp (op:COp) (r:C)|cmpb (op:COp) (a b:C)|cmpc (op:COp) (a b:C)|isN (b:Bool) (r:C)|isb (b:Bool) (t f:C)
 |call (n:Nat) (r:C)|meth (x:Nat) (r:C)|mcall (n:Nat) (r:C)|attr (x:Nat) (r:C)|sub (r:C)|subK (i:Int) (r:C)|slc (r:C)|rev (r:C)
 |comp (xs:CN) (b r:C)|compZ (xs:CN) (b r:C)
 |st (n:CN) (r:C)|swap (xs:List Nat) (r:C)|setA (x:Nat) (r:C)|setS (r:C)|un3 (r:C)|pop (r:C)
 |whl (b r:C)|forI (n:CN) (b r:C)|raise (b:C)|tryI (x:Nat) (b:C) (ev told:Nat) (r:C)
noncomputable def C.ctorIdx(d:C):Nat:=@C.casesOn (λU=>Nat) d 0 1 2 3 (λU U=>4) (λU U=>5) (λU U=>6) (λU U=>7) (λU U=>8) (λU U=>9) (λU U=>10) (λU U=>11) (λU=>12) (λU U=>13) (λU U=>14) (λU U=>15) (λU U=>16) (λU U U=>17) (λU U U=>18) (λU U=>19) (λU U U=>20) (λU U=>21) (λU U=>22) (λU U=>23) (λU U=>24) (λU=>25) (λU U=>26) (λU=>27) (λU=>28) (λU U U=>29) (λU U U=>30) (λU U=>31) (λU U=>32) (λU U=>33) (λU=>34) (λU=>35) (λU=>36) (λU U=>37) (λU U U=>38) (λU=>39) (λU U U U U=>40)
noncomputable def zDn:CEs->Nat
 |.nil=>0
 |.cons _ r=>zDn r+1
noncomputable def xSub(i:CE)(x:C->C)(r:C):C:=match i with
 |.cst d=>(match d with|.int k=>.subK k r|_=>x (.sub r))
 |_=>x (.sub r)
mutual
noncomputable def xE:CE->C->C
 |.cst d,r=>.cst d r
 |.var x,r=>.var x r
 |.glob x,r=>.glob x r
 |.tup es,r=>xEs es (.tup (zDn es) r)
 |.lst es,r=>xEs es (.lst (zDn es) r)
 |.dct kv,r=>.dct kv r
 |.bin op a b,r=>xE a (xE b (.bin op r))
 |.neg i,r=>.neg i r
 |.notE a,r=>xE a (.notE r)
 |.ite t a b,r=>xT t (xE a r) (xE b r)
 |.andE a b,r=>xE a (.ande (xE b r) r)
 |.orE a b,r=>xE a (.ore r (xE b r))
 |.cmp a c,r=>xE a (xC c r)
 |.isN b a,r=>xE a (.isN b r)
 |.call f es,r=>xE f (xEs es (.call (zDn es) r))
 |.meth o x es,r=>xE o (.meth x (xEs es (.mcall (zDn es) r)))
 |.attr o x,r=>xE o (.attr x r)
 |.sub o i,r=>xE o (xSub i (xE i) r)
 |.slc o l u,r=>xE o (xE l (xE u (.slc r)))
 |.rev o,r=>xE o (.rev r)
 |.comp elt xs it ifs,r=>xE it (.comp xs (xTs ifs (xE elt .ret) .nil) r)
 |.compZ elt xs a b,r=>xE a (xE b (.compZ xs (xE elt .ret) r))
 |.bad,_=>.bad
noncomputable def xEs:CEs->C->C
 |.nil,r=>r
 |.cons e es,r=>xE e (xEs es r)
noncomputable def xTs:CEs->C->C->C
 |.nil,t,_=>t
 |.cons e es,t,f=>xT e (xTs es t f) f
noncomputable def xC:CCs->C->C
 |.one op e,r=>xE e (.cmp op r)
 |.cons op e c,r=>xE e (.cmpc op (xC c r) (.cst (.bool false) r))
noncomputable def xCT:CCs->C->C->C
 |.one op e,t,f=>xE e (.cmpb op t f)
 |.cons op e c,t,f=>xE e (.cmpc op (xCT c t f) f)
noncomputable def xT:CE->C->C->C
 |.notE a,t,f=>xT a f t
 |.andE a b,t,f=>xT a (xT b t f) f
 |.orE a b,t,f=>xT a t (xT b t f)
 |.cmp a c,t,f=>xE a (xCT c t f)
 |.ite c a b,t,f=>xT c (xT a t f) (xT b t f)
 |.isN b a,t,f=>xE a (.isb b t f)
 |.var x,t,f=>.var x (.br t f)
 |.call g es,t,f=>xE g (xEs es (.call (zDn es) (.br t f)))
 |.attr o x,t,f=>xE o (.attr x (.br t f))
 |.sub o i,t,f=>xE o (xSub i (xE i) (.br t f))
 |_,_,_=>.bad
end
def xA:CT->C->C
 |.nm ns,r=>.st ns r
 |.swap xs,r=>.swap xs r
 |.attr o x,r=>xE o (.setA x r)
 |.sub o i,r=>xE o (xE i (.setS r))
 |.attr3 a x b y c z,r=>.un3 (xE a (.setA x (xE b (.setA y (xE c (.setA z r))))))
mutual
noncomputable def xS:CS->C->C
 |.asg t e,r=>xE e (xA t r)
 |.expr e,r=>xE e (.pop r)
 |.ret e,_=>xE e .ret
 |.ife t a b,r=>xT t (xSs a r) (xSs b r)
 |.whl t b,r=>.whl (xT t (xSs b .nil) .ext) r
 |.forS ns it b,r=>xE it (.forI ns (xSs b .nil) r)
 |.raiseT e,_=>.raise (xE e .ret)
 |.tryT x e ev told,r=>.tryI x (xE e .ret) ev told r
 |.bad,_=>.bad
noncomputable def xSs:CSs->C->C
 |.nil,r=>r
 |.cons s ss,r=>xS s (xSs ss r)
end
noncomputable def popN:Nat->List DV->List DV->List DV×List DV
 |0,s,a=>(a,s)
 |_+1,[],a=>(a,[])
 |n+1,d::s,a=>popN n s (d::a)
noncomputable def encC:Cal->DV
 |.fn f=>.fn f
 |.append=>.int 0|.pop=>.int 1|.extend=>.int 2|.get=>.int 3
noncomputable def decC:DV->Cal
 |.fn f=>.fn f
 |.int (.ofNat n)=>(match n with|0=>.append|1=>.pop|2=>.extend|_=>.get)
 |_=>.append
@[irreducible] def subX(m:Mt)(o i:DV)(K:DV->Prop):Prop:=subW m o i K
def subT(m:Mt)(o:DV)(i:Int)(K:DV->Prop):Prop:=match o with
 |.tup l=>sel (Nat.blt i.natAbs 1152921504606846976) (opt (nth l i) K) False
 |o=>subX m o (.int i) K
@[irreducible] def setX(o:DV)(x:Nat)(d:DV)(K:St->Prop)(V:St):Prop:=zF9 T0 o x d K V
@[irreducible] def setY(o i d:DV)(K:St->Prop)(V:St):Prop:=zI4 o i d K V
@[irreducible] def calX(m:Mt)(o:DV)(x:Nat):Option Cal:=zRz T0 m o x
@[irreducible] def getI(m:Mt)(a:Addr)(x:Nat):Option (Addr×DV):=getA m (.ref a) x
def getX(m:Mt)(o:DV)(x:Nat):Option (Addr×DV):=match o with|.ref a=>getI m a x|o=>getA m o x
@[irreducible] def cmpI(m:Mt)(op:COp)(a b:DV):Option Bool:=cmpV m op a b
noncomputable def isRf:DV->Bool
 |.ref _=>true
 |_=>false
def cmpX(m:Mt)(op:COp)(a b:DV):Option Bool:=match isRf a||isRf b with
 |true=>cmpI m op a b
 |false=>cmpV m op a b
@[irreducible] def calI(W:Wd)(n:Nat)(c:Cal)(o:DV)(ds:List DV)(Q X:DV->St->Prop)(V:St):Prop:=zKc W 45 n c o ds Q X V
def mcX(W:Wd)(n:Nat)(c:Cal)(o:DV)(ds:List DV)(m:Mt)(K X:DV->Mt->Prop)(N:Prop):Prop:=match c with
 |.fn f=>zA4 W 45 n f (o::ds) m K X
 |_=>N
@[irreducible] def cpI(m:Mt)(d:DV)(F:List DV->Prop):Prop:=opt (zE0 m d) F
def st1(s:List DV)(F:DV->List DV->Prop):Prop:=match s with|[]=>False|d::s=>F d s
def st2(s:List DV)(F:DV->DV->List DV->Prop):Prop:=st1 s λd s=>st1 s (F d)
noncomputable def En.loop(e:En)(K Z:St->Prop):En:=⟨e.W,e.n,λf V=>optN f (λd=>e.Q (some d) V) (K V),no,Z⟩
noncomputable def En.cmp(e:En)(K:Option DV->Mt->Prop):En:=⟨e.W,e.n,λf V=>optN f (λy=>∃ m' y',Fz V.mu y m' y'/\K (some y') m') (K none V.mu),no,λU=>False⟩
noncomputable def En.exp(e:En)(K:DV->St->Prop)(X:DV->St->Prop):En:=⟨e.W,e.n,λf V=>opt f λd=>K d V,X,λU=>False⟩
def binZ(op:BOp)(i j:Int)(K:DV->Prop):Prop:=match op with
 |.add=>K (.int (i+j))
 |.sub=>K (.int (i-j))
 |.mul=>bigI i/\bigI j/\K (.int (i * j))
 |.fdiv=>0<j/\bigI j/\K (.int (i / j))
 |.mod=>0<j/\K (.int (i % j))
 |.pow=>i=10/\j=12/\K (.int 1000000000000)
 |.band=>0<=i/\0<=j/\K (.int (Int.ofNat (i.toNat&&& j.toNat)))
@[irreducible] def binI(op:BOp)(x y:DV)(Q:DV->St->Prop)(V:St):Prop:=zMa op x y Q V
def binX(op:BOp)(x y:DV)(K:DV->Prop)(N:Prop):Prop:=int1 x (λi=>int1 y (λj=>binZ op i j K) N) N
def yDc(W:Wd)(n:Nat)(f:DV)(ds:List DV)(m:Mt)(K X:DV->Mt->Prop)(N:Prop):Prop:=match f with
 |.fn a=>sel (T0.kf a) (zA4 W 45 n a ds m K X) False
 |_=>N
def run:C->En->List DV->Loc->Mt->Prop
 |.nil,e,_,lo,mu=>e.Q none ⟨lo,mu⟩
 |.bad,_,_,_,_=>False
 |.ret,e,s,lo,mu=>st1 s λd U=>e.Q (some d) ⟨lo,mu⟩
 |.ext,e,_,lo,mu=>e.Z ⟨lo,mu⟩
 |.cst d r,e,s,lo,mu=>run r e (d::s) lo mu
 |.var x r,e,s,lo,mu=>opt (look lo x) λd=>run r e (d::s) lo mu
 |.glob x r,e,s,lo,mu=>opt (look T0.gl x) λd=>run r e (d::s) lo mu
 |.tup n r,e,s,lo,mu=>sel (Nat.ble (popN n s []).1.length 1000) (run r e (.tup (popN n s []).1::(popN n s []).2) lo mu) False
 |.lst n r,e,s,lo,mu=>sel (Nat.ble (popN n s []).1.length 1000) (∀ a,mu a=none->run r e (.ref a::(popN n s []).2) lo (mu.set a (.lst (popN n s []).1))) False
 |.dct kv r,e,s,lo,mu=>∀ a,mu a=none->run r e (.ref a::s) lo (mu.set a (match kv with|[]=>.dE|kv=>.dS (dctV kv)))
 |.bin op r,e,s,lo,mu=>st2 s λy x s=>binX op x y (λd=>run r e (d::s) lo mu) (binI op x y (λd V=>run r e (d::s) V.loc V.mu) ⟨lo,mu⟩)
 |.neg i r,e,s,lo,mu=>run r e (.int (-i)::s) lo mu
 |.notE r,e,s,lo,mu=>st1 s λd s=>opt (zCh d) λt=>run r e (.bool (!t)::s) lo mu
 |.br a b,e,s,lo,mu=>st1 s λd s=>opt (zCh d) λt=>sel t (run a e s lo mu) (run b e s lo mu)
 |.ande a b,e,s,lo,mu=>st1 s λd s=>opt (zCh d) λt=>sel t (run a e s lo mu) (run b e (d::s) lo mu)
 |.ore a b,e,s,lo,mu=>st1 s λd s=>opt (zCh d) λt=>sel t (run a e (d::s) lo mu) (run b e s lo mu)
 |.cmp op r,e,s,lo,mu=>st2 s λb a s=>opt (cmpX mu op a b) λt=>run r e (.bool t::s) lo mu
 |.cmpb op t f,e,s,lo,mu=>st2 s λb a s=>opt (cmpX mu op a b) λv=>sel v (run t e s lo mu) (run f e s lo mu)
 |.cmpc op t f,e,s,lo,mu=>st2 s λb a s=>opt (cmpX mu op a b) λv=>sel v (run t e (b::s) lo mu) (run f e s lo mu)
 |.isN b r,e,s,lo,mu=>st1 s λd s=>sel (noBi d) (run r e (.bool (b==isNone d)::s) lo mu) False
 |.isb b t f,e,s,lo,mu=>st1 s λd s=>sel (noBi d) (sel (b==isNone d) (run t e s lo mu) (run f e s lo mu)) False
 |.call n r,e,s,lo,mu=>st1 (popN n s []).2 λf s'=>yDc e.W e.n f (popN n s []).1 mu (λd m=>run r e (d::s') lo m) (λd m=>e.X d ⟨lo,m⟩) (zFo e.W 45 T0 e.n f (popN n s []).1 (λd V=>run r e (d::s') V.loc V.mu) e.X ⟨lo,mu⟩)
 |.meth x r,e,s,lo,mu=>st1 s λo s=>opt (calX mu o x) λc=>run r e (encC c::o::s) lo mu
 |.mcall n r,e,s,lo,mu=>st2 (popN n s []).2 λc o s'=>mcX e.W e.n (decC c) o (popN n s []).1 mu (λd m=>run r e (d::s') lo m) (λd m=>e.X d ⟨lo,m⟩) (calI e.W e.n (decC c) o (popN n s []).1 (λd V=>run r e (d::s') V.loc V.mu) e.X ⟨lo,mu⟩)
 |.attr x r,e,s,lo,mu=>st1 s λo s=>opt (getX mu o x) λp=>sel (T0.rd p.1 x) (run r e (p.2::s) lo mu) False
 |.sub r,e,s,lo,mu=>st2 s λi o s=>subX mu o i λd=>run r e (d::s) lo mu
 |.subK i r,e,s,lo,mu=>st1 s λo s=>subT mu o i λd=>run r e (d::s) lo mu
 |.slc r,e,s,lo,mu=>st2 s λu l s=>st1 s λo s=>zSd o l u (λd V=>run r e (d::s) V.loc V.mu) ⟨lo,mu⟩
 |.rev r,e,s,lo,mu=>st1 s λo s=>opt (asL mu o) λxs=>small xs.length/\newL xs.reverse (λd V=>run r e (d::s) V.loc V.mu) ⟨lo,mu⟩
 |.comp xs b r,e,s,lo,mu=>st1 s λd s=>cpI mu d λl=>zD4 d/\small l.length/\zEc (zB6 d l) (λx K m=>opt (bindC lo m xs x) λlo=>run b (e.cmp K) [] lo m) lo (λd V=>run r e (d::s) V.loc V.mu) l [] mu
 |.compZ xs b r,e,s,lo,mu=>st2 s λd2 d1 s=>opt (tupD d1) λl1=>opt (tupD d2) λl2=>small l1.length/\small l2.length/\zEc (λU=>True) (λx K m=>opt (bindC lo m xs x) λlo=>run b (e.cmp K) [] lo m) lo (λd V=>run r e (d::s) V.loc V.mu) ((l1.zip l2).map λp=>.tup [p.1,p.2]) [] mu
 |.st ns r,e,s,lo,mu=>st1 s λd s=>opt (zGc lo mu ns d) λl=>run r e s l mu
 |.swap xs r,e,s,lo,mu=>st1 s λd s=>opt (tupD d) λds=>sel (Nat.beq xs.length ds.length) (run r e s (puts lo xs.reverse ds.reverse) mu) False
 |.setA x r,e,s,lo,mu=>st2 s λo d s=>setX o x d (λV=>run r e s V.loc V.mu) ⟨lo,mu⟩
 |.setS r,e,s,lo,mu=>st2 s λi o s=>st1 s λd s=>setY o i d (λV=>run r e s V.loc V.mu) ⟨lo,mu⟩
 |.un3 r,e,s,lo,mu=>st1 s λd s=>opt (tupD d) λl=>opt (zMd l) λp=>run r e (p.1::p.2.1::p.2.2::s) lo mu
 |.pop r,e,s,lo,mu=>st1 s λU s=>run r e s lo mu
 |.whl b r,e,s,lo,mu=>∃ k,zH1 (λK V=>run b (e.loop K λV=>run r e s V.loc V.mu) [] V.loc V.mu) k ⟨lo,mu⟩
 |.forI ns b r,e,s,lo,mu=>st1 s λd s=>cpI mu d λl=>zD4 d/\forW (zB6 d l) (λx K V=>opt (zGc V.loc V.mu ns x) λloc=>run b (e.loop K λU=>False) [] loc V.mu) (λV=>run r e s V.loc V.mu) l ⟨lo,mu⟩
 |.raise b,e,_,lo,mu=>run b (e.exp e.X no) [] lo mu
 |.tryI x b ev told r,e,s,lo,mu=>run b (e.exp (λd V=>run r e s (put V.loc x d) V.mu) λd V=>optN (look V.loc ev) (λU=>False) (run r e s (put V.loc told d) V.mu)) [] lo mu
section
section
variable {W:Wd}{n:Nat}{X:DV->St->Prop}{V:St}
theorem cgE(c:CE)(h:∀ d V,Q d V=Q' d V):wpE W 45 T0 n c Q X V=wpE W 45 T0 n c Q' X V:=congrArg (wpE W 45 T0 n c · X V) (funext λd=>funext (h d))
theorem cgT(c:CE)(h:∀ d V,Q d V=Q' d V):wpT W 45 T0 n c Q X V=wpT W 45 T0 n c Q' X V:=congrArg (wpT W 45 T0 n c · X V) (funext λd=>funext (h d))
theorem zXf:∀(ds s a:List DV),popN ds.length (ds.reverse++s) a=(ds++a,s):=by
 suffices h:∀(ds s a:List DV),popN ds.length (ds++s) a=(ds.reverse++a,s) from λds s a=>by
  have:=h ds.reverse s a
  rwa [List.length_reverse,List.reverse_reverse]at this
 intro ds
 induction ds with
 |nil=>intro s a;rfl
 |cons d ds ih=>intro s a;rw[List.reverse_cons,List.append_assoc];exact ih s (d::a)
theorem zPk(h:ds.length=m):popN m (ds.reverse++s) []=(ds,s):=by
 subst h;rw[zXf,List.append_nil]
theorem yCv(c:Cal):decC (encC c)=c:=by cases c<;>rfl
end
theorem yCg:@getX=@getA:=by
 funext m o x
 cases o with
 |ref a=>show getI m a x=_;unfold getI;rfl
 |_=>rfl
theorem yD0:@cmpX=@cmpV:=by
 have h:@cmpI=@cmpV:=by with_unfolding_all rfl
 funext m op a b
 unfold cmpX
 rw[h]
 cases isRf a||isRf b<;>rfl
theorem yG0(W:Wd)(n:Nat)(c:Cal)(o:DV)(ds:List DV)(Q X:DV->St->Prop)(V:St):mcX W n c o ds V.mu (λd m=>Q d ⟨V.loc,m⟩) (λd m=>X d ⟨V.loc,m⟩) (calI W n c o ds Q X V)=zKc W 45 n c o ds Q X V:=by
 have h:@calI W n=zKc W 45 n:=by with_unfolding_all rfl
 rw[h]
 cases c<;>rfl
theorem zJt:cpI m d F=opt (zE0 m d) F:=by unfold cpI;rfl
theorem zSy:@setX=@zF9 T0:=by with_unfolding_all rfl
theorem zKo:@setY=@zI4:=by with_unfolding_all rfl
theorem zGt:@calX=@zRz T0:=by with_unfolding_all rfl
theorem zB3{α:Type}{o:Option α}{K K':α->Prop}(h:∀ a,K a=K' a):opt o K=opt o K':=congrArg (opt o) (funext h)
theorem zBe(h:A=A')(k:B=B'):sel t A B=sel t A' B':=by rw[h,k]
theorem cmE{m:Mt}{K:Bool->Prop}:opt (cmpX m op a b) K=opt (cmpV m op a b) K:=by rw[yD0]
def PE(c:CE):Prop:=∀ r e s V,run (xE c r) e s V.loc V.mu=wpE e.W 45 T0 e.n c (λd V=>run r e (d::s) V.loc V.mu) e.X V
def PT(c:CE):Prop:=∀ t f e s V,run (xT c t f) e s V.loc V.mu=wpT e.W 45 T0 e.n c (λv V=>sel v (run t e s V.loc V.mu) (run f e s V.loc V.mu)) e.X V
def PEs(es:CEs):Prop:=∀(F:List DV->St->Prop) (r:C) (e:En) (s acc:List DV),(∀ ds V,ds.length=acc.length+zDn es->run r e (ds.reverse++s) V.loc V.mu=F ds V)->∀ V,run (xEs es r) e (acc.reverse++s) V.loc V.mu=wpEs e.W 45 T0 e.n es (λds V=>F (acc++ds) V) e.X V
def PTs(es:CEs):Prop:=∀ t f e s V,run (xTs es t f) e s V.loc V.mu=wpTs e.W 45 T0 e.n es (λv V=>sel v (run t e s V.loc V.mu) (run f e s V.loc V.mu)) e.X V
def PC(cs:CCs):Prop:=∀ a r e s V,run (xC cs r) e (a::s) V.loc V.mu=wpC e.W 45 T0 e.n a cs (λt V=>run r e (.bool t::s) V.loc V.mu) e.X V
def PCT(cs:CCs):Prop:=∀ a t f e s V,run (xCT cs t f) e (a::s) V.loc V.mu=wpC e.W 45 T0 e.n a cs (λv V=>sel v (run t e s V.loc V.mu) (run f e s V.loc V.mu)) e.X V
theorem PEs.go(h:PEs es)(k:∀ ds V,ds.length=zDn es->run r e (ds.reverse++s) V.loc V.mu=F ds V)(V:St):run (xEs es r) e s V.loc V.mu=wpEs e.W 45 T0 e.n es F e.X V:=h F r e s [] (λds V q=>k ds V (q.trans (Nat.zero_add _))) V
theorem yI9(x:Nat):PE (.var x):=λU U U U=>rfl
theorem yFb(x:Nat):PE (.glob x):=λU U U U=>rfl
theorem yIa(h:PEs es):PE (.tup es):=λr e s V=>h.go (F:=λds V=>sel (Nat.ble ds.length 1000) (run r e (.tup ds::s) V.loc V.mu) False) (λds V q=>by
 show sel (Nat.ble (popN (zDn es) (ds.reverse++s) []).1.length 1000) (run r e (.tup (popN (zDn es) (ds.reverse++s) []).1::(popN (zDn es) (ds.reverse++s) []).2) V.loc V.mu) False=_
 rw[zPk q]) V
theorem yIe(h:PEs es):PE (.lst es):=λr e s V=>h.go (F:=λds V=>sel (Nat.ble ds.length 1000) (newL ds (λd V=>run r e (d::s) V.loc V.mu) V) False) (λds V q=>by
 show sel (Nat.ble (popN (zDn es) (ds.reverse++s) []).1.length 1000) (∀ a,V.mu a=none->run r e (.ref a::(popN (zDn es) (ds.reverse++s) []).2) V.loc (V.mu.set a (.lst (popN (zDn es) (ds.reverse++s) []).1))) False=_
 rw[zPk q];rfl) V
theorem yDg(op:BOp)(x y:DV)(Q:DV->St->Prop)(V:St):binX op x y (λd=>Q d V) (binI op x y Q V)=zMa op x y Q V:=by
 rw[show@binI=@zMa by with_unfolding_all rfl]
 cases x with
 |int i=>cases y with
  |int j=>cases op<;>rfl
  |_=>rfl
 |_=>rfl
theorem zZ0(W:Wd)(n:Nat)(f:DV)(ds:List DV)(Q X:DV->St->Prop)(V:St):yDc W n f ds V.mu (λd m=>Q d ⟨V.loc,m⟩) (λd m=>X d ⟨V.loc,m⟩) (zFo W 45 T0 n f ds Q X V)=zFo W 45 T0 n f ds Q X V:=by
 cases f<;>rfl
theorem yIi(op:BOp)(ha:PE a)(hb:PE b):PE (.bin op a b):=λr e s V=>((ha (xE b (.bin op r)) e s V).trans (cgE a λx V=>(hb (.bin op r) e (x::s) V).trans (cgE b λy V=>yDg op x y (λd V=>run r e (d::s) V.loc V.mu) V)))
theorem yId(ha:PE a):PE (.notE a):=λr e s V=>(ha (.notE r) e s V).trans (cgE a λU U=>rfl)
theorem yIf(ht:PT t)(ha:PE a)(hb:PE b):PE (.ite t a b):=λr e s V=>(ht _ _ e s V).trans (cgT t λU V=>zBe (ha r e s V) (hb r e s V))
theorem yIj{a b:CE}(ha:PE a)(hb:PE b):PE (.andE a b):=λr e s V=>(ha _ e s V).trans (cgE a λU V=>zB3 λU=>zBe (hb r e s V) rfl)
theorem p_or{a b:CE}(ha:PE a)(hb:PE b):PE (.orE a b):=λr e s V=>(ha _ e s V).trans (cgE a λU V=>zB3 λU=>zBe rfl (hb r e s V))
theorem yIh(ha:PE a)(hc:PC c):PE (.cmp a c):=λr e s V=>(ha _ e s V).trans (cgE a λd V=>hc d r e s V)
theorem yIg(b:Bool)(ha:PE a):PE (.isN b a):=λr e s V=>(ha (.isN b r) e s V).trans (cgE a λU U=>rfl)
theorem zZt(hf:PE f)(h:PEs es):PE (.call f es):=λr e s V=>(hf _ e s V).trans (cgE f λfv V=>h.go (F:=λds V=>zFo e.W 45 T0 e.n fv ds (λd V=>run r e (d::s) V.loc V.mu) e.X V) (λds V q=>by
 show st1 (popN (zDn es) (ds.reverse++fv::s) []).2 (λf s'=>yDc e.W e.n f (popN (zDn es) (ds.reverse++fv::s) []).1 V.mu (λd m=>run r e (d::s') V.loc m) (λd m=>e.X d ⟨V.loc,m⟩) (zFo e.W 45 T0 e.n f (popN (zDn es) (ds.reverse++fv::s) []).1 (λd V=>run r e (d::s') V.loc V.mu) e.X V))=_
 rw[zPk q]
 exact zZ0 e.W e.n fv ds (λd V=>run r e (d::s) V.loc V.mu) e.X V) V)
theorem yFa{o:CE}(x:Nat){es:CEs}(ho:PE o)(h:PEs es):PE (.meth o x es):=λr e s V=>(ho _ e s V).trans (cgE o λov V=>by
 show opt (calX V.mu ov x) _=_
 rw[zGt]
 exact zB3 λq=>h.go (F:=λds V=>zKc e.W 45 e.n q ov ds (λd V=>run r e (d::s) V.loc V.mu) e.X V) (λds V l=>by
   show st2 (popN (zDn es) (ds.reverse++encC q::ov::s) []).2 (λc o s'=>mcX e.W e.n (decC c) o (popN (zDn es) (ds.reverse++encC q::ov::s) []).1 V.mu (λd m=>run r e (d::s') V.loc m) (λd m=>e.X d ⟨V.loc,m⟩) (calI e.W e.n (decC c) o (popN (zDn es) (ds.reverse++encC q::ov::s) []).1 (λd V=>run r e (d::s') V.loc V.mu) e.X V))=_
   rw[zPk l]
   show mcX e.W e.n (decC (encC q)) ov ds V.mu (λd m=>run r e (d::s) V.loc m) (λd m=>e.X d ⟨V.loc,m⟩) (calI e.W e.n (decC (encC q)) ov ds (λd V=>run r e (d::s) V.loc V.mu) e.X V)=_
   rw[yCv]
   exact yG0 e.W e.n q ov ds (λd V=>run r e (d::s) V.loc V.mu) e.X V) V)
theorem zZu(x:Nat)(ho:PE o):PE (.attr o x):=λr e s V=>(ho (.attr x r) e s V).trans (cgE o λd V=>by
 show opt (getX V.mu d x) _=_
 rw[yCg])
theorem zKg:@subX=@subW:=by with_unfolding_all rfl
theorem zSl(m:Mt)(o:DV)(i:Int)(K:DV->Prop):subT m o i K=subW m o (.int i) K:=by
 cases o with
 |tup l=>
  show sel (Nat.blt i.natAbs 1152921504606846976) (opt (nth l i) K) False=(bigI i/\opt (nth l i) K)
  cases h:Nat.blt i.natAbs 1152921504606846976 with
  |true=>exact propext ⟨λk=>⟨Nat.le_of_ble_eq_true h,k⟩,And.right⟩
  |false=>exact propext ⟨False.elim,λk=>Bool.noConfusion (h.symm.trans (Nat.ble_eq_true_of_le k.1))⟩
 |_=>show subX m _ (.int i) K=_;rw[zKg]
theorem yAh(i:CE)(x:C->C)(r:C):xSub i x r=x (.sub r)\/∃ k,i=.cst (.int k)/\xSub i x r=.subK k r:=by
 cases i with
 |cst d=>cases d with
  |int k=>exact .inr ⟨k,rfl,rfl⟩
  |_=>exact .inl rfl
 |_=>exact .inl rfl
theorem yF9(ho:PE o)(hi:PE i):PE (.sub o i):=λr e s V=>(ho (xSub i (xE i) r) e s V).trans (cgE o λx V=>by
 rcases yAh i (xE i) r with h|⟨k,rfl,h⟩
 ·rw[h]
  exact(hi (.sub r) e (x::s) V).trans (cgE i λy V=>show subX V.mu x y (λd=>run r e (d::s) V.loc V.mu)=subW V.mu x y _ by rw[zKg])
 ·exact zSl V.mu x k _)
theorem yIb(ho:PE o)(hl:PE l)(hu:PE u):PE (.slc o l u):=λU e s V=>(ho _ e s V).trans (cgE o λx V=>(hl _ e (x::s) V).trans (cgE l λy V=>hu _ e (y::x::s) V))
theorem yIc(ho:PE o):PE (.rev o):=λr e s V=>(ho (.rev r) e s V).trans (cgE o λU U=>rfl)
theorem yFc{elt it:CE}(xs:CN){ifs:CEs}(he:PE elt)(hi:PE it)(hs:PTs ifs):PE (.comp elt xs it ifs):=λr e s V=>(hi _ e s V).trans (cgE it λd V=>by
 show cpI V.mu d (λl=>zD4 d/\small l.length/\zEc (zB6 d l) (λx K m=>opt (bindC V.loc m xs x) λloc=>run (xTs ifs (xE elt .ret) .nil) (e.cmp K) [] loc m) V.loc (λd V=>run r e (d::s) V.loc V.mu) l [] V.mu)=_
 rw[zJt]
 exact zB3 λl=>congrArg (λF=>zD4 d/\small l.length/\zEc (zB6 d l) F V.loc (λd V=>run r e (d::s) V.loc V.mu) l [] V.mu) (funext λx=>funext λK=>funext λm=>zB3 λloc=>
  (hs _ _ (e.cmp K) [] ⟨loc,m⟩).trans (congrArg (wpTs e.W 45 T0 e.n ifs · no ⟨loc,m⟩) (funext λv=>funext λσ₁=>zBe (he .ret (e.cmp K) [] σ₁) rfl))))
theorem yBf{elt a b:CE}(xs:CN)(he:PE elt)(ha:PE a)(hb:PE b):PE (.compZ elt xs a b):=λr e s V=>(ha _ e s V).trans (cgE a λd1 V=>(hb _ e (d1::s) V).trans (cgE b λd2 V=>zB3 λl1=>zB3 λl2=>
 congrArg (λF=>small l1.length/\small l2.length/\zEc (λU=>True) F V.loc (λd V=>run r e (d::s) V.loc V.mu) ((l1.zip l2).map λp=>.tup [p.1,p.2]) [] V.mu) (funext λx=>funext λK=>funext λm=>zB3 λloc=>he .ret (e.cmp K) [] ⟨loc,m⟩)))
theorem yF6:PEs .nil:=λF r e s acc h V=>(h acc V rfl).trans (by show F acc V=F (acc++[]) V;rw[List.append_nil])
theorem yBa(hc:PE c)(h:PEs es):PEs (.cons c es):=λF r e s acc k V=>(hc _ e _ V).trans (cgE c λd V=>by
 have:=h F r e s (acc++[d]) (λds V q=>k ds V (q.trans (by rw[List.length_append];exact Nat.add_right_comm _ 1 _))) V
 rw[List.reverse_append]at this
 refine this.trans (congrArg (wpEs e.W 45 T0 e.n es · e.X V) (funext λds=>funext λV=>?_))
 rw[List.append_assoc];rfl)
theorem yB9(hc:PT c)(h:PTs es):PTs (.cons c es):=λt f e s V=>(hc _ _ e s V).trans (cgT c λU V=>zBe (h t f e s V) rfl)
theorem yF7(op:COp)(hc:PE c):PC (.one op c):=λa r e s V=>(hc (.cmp op r) e (a::s) V).trans (cgE c λU U=>cmE)
theorem yBe(op:COp){c:CE}{cs:CCs}(hc:PE c)(h:PC cs):PC (.cons op c cs):=λa r e s V=>(hc _ e (a::s) V).trans (cgE c λb V=>cmE.trans (zB3 λU=>zBe (h b r e s V) rfl))
theorem yBd(op:COp)(hc:PE c):PCT (.one op c):=λa t f e s V=>(hc (.cmpb op t f) e (a::s) V).trans (cgE c λU U=>cmE)
theorem zXg(op:COp){c:CE}{cs:CCs}(hc:PE c)(h:PCT cs):PCT (.cons op c cs):=λa t f e s V=>(hc _ e (a::s) V).trans (cgE c λb V=>cmE.trans (zB3 λU=>zBe (h b t f e s V) rfl))
theorem yFf(ha:PT a):PT (.notE a):=λt f e s V=>(ha f t e s V).trans (cgT a λv V=>by cases v<;>rfl)
theorem yFj(ha:PT a)(hb:PT b):PT (.andE a b):=λt f e s V=>(ha _ _ e s V).trans (cgT a λU V=>zBe (hb t f e s V) rfl)
theorem yIk(ha:PT a)(hb:PT b):PT (.orE a b):=λt f e s V=>(ha _ _ e s V).trans (cgT a λU V=>zBe rfl (hb t f e s V))
theorem yFi(ha:PE a)(hc:PCT c):PT (.cmp a c):=λt f e s V=>(ha _ e s V).trans (cgE a λd V=>hc d t f e s V)
theorem yFg(hc:PT c)(ha:PT a)(hb:PT b):PT (.ite c a b):=λt f e s V=>(hc _ _ e s V).trans (cgT c λU V=>zBe (ha t f e s V) (hb t f e s V))
theorem yFh(b:Bool)(ha:PE a):PT (.isN b a):=λt f e s V=>(ha (.isb b t f) e s V).trans (cgE a λU U=>rfl)
theorem yFd(x:Nat):PT (.var x):=λU U U U U=>rfl
theorem yBg(h:PE (.call g es)):PT (.call g es):=λt f e s V=>h (.br t f) e s V
theorem yBh(x:Nat)(ho:PE (.attr o x)):PT (.attr o x):=λt f e s V=>ho (.br t f) e s V
theorem yFe(h:PE (.sub o i)):PT (.sub o i):=λt f e s V=>h (.br t f) e s V
theorem pp(c:CE):PE c/\PT c:=
 CE.rec (motive_1:=λc=>PE c/\PT c) (motive_2:=λes=>PEs es/\PTs es) (motive_3:=λcs=>PC cs/\PCT cs) (motive_4:=λU=>True)
  (λU=>⟨λU U U U=>rfl,λU U U U U=>rfl⟩) (λx=>⟨yI9 x,yFd x⟩) (λx=>⟨yFb x,λU U U U U=>rfl⟩) (λU h=>⟨yIa h.1,λU U U U U=>rfl⟩) (λU h=>⟨yIe h.1,λU U U U U=>rfl⟩)
  (λU=>⟨λU U U U=>rfl,λU U U U U=>rfl⟩) (λop U U a b=>⟨yIi op a.1 b.1,λU U U U U=>rfl⟩) (λU=>⟨λU U U U=>rfl,λU U U U U=>rfl⟩) (λU a=>⟨yId a.1,yFf a.2⟩)
  (λU U U t a b=>⟨yIf t.2 a.1 b.1,yFg t.2 a.2 b.2⟩) (λU U a b=>⟨yIj a.1 b.1,yFj a.2 b.2⟩) (λU U a b=>⟨p_or a.1 b.1,yIk a.2 b.2⟩) (λU U a c=>⟨yIh a.1 c.1,yFi a.1 c.2⟩)
  (λb U a=>⟨yIg b a.1,yFh b a.1⟩) (λU U f es=>⟨zZt f.1 es.1,yBg (zZt f.1 es.1)⟩) (λU x U o es=>⟨yFa x o.1 es.1,λU U U U U=>rfl⟩) (λU x o=>⟨zZu x o.1,yBh x (zZu x o.1)⟩)
  (λU U o i=>⟨yF9 o.1 i.1,yFe (yF9 o.1 i.1)⟩) (λU U U o l u=>⟨yIb o.1 l.1 u.1,λU U U U U=>rfl⟩) (λU o=>⟨yIc o.1,λU U U U U=>rfl⟩) (λU xs U U e U i s=>⟨yFc xs e.1 i.1 s.2,λU U U U U=>rfl⟩)
  (λU xs U U e U a b=>⟨yBf xs e.1 a.1 b.1,λU U U U U=>rfl⟩) ⟨λU U U U=>rfl,λU U U U U=>rfl⟩
  ⟨yF6,λU U U U U=>rfl⟩ (λU U c h=>⟨yBa c.1 h.1,yB9 c.2 h.2⟩) (λop U c=>⟨yF7 op c.1,yBd op c.1⟩) (λop U U c h=>⟨yBe op c.1 h.1,zXg op c.1 h.2⟩) (λU=>trivial) (λU=>trivial) c
end
def En.K(e:En)(r:C)(f:Option DV)(V:St):Prop:=optN f (λd=>e.Q (some d) V) (run r e [] V.loc V.mu)
theorem setA_eq:run (.setA x r) e (o::d::s) V.loc V.mu=zF9 T0 o x d (λV=>run r e s V.loc V.mu) V:=by
 show setX o x d (λV=>run r e s V.loc V.mu) V=_
 rw[zSy]
theorem pA(t:CT)(r:C)(e:En)(d:DV)(s:List DV)(V:St):run (xA t r) e (d::s) V.loc V.mu=wpA e.W 45 T0 e.n t d (λV=>run r e s V.loc V.mu) e.X V:=by
 cases t with
 |nm ns=>rfl
 |swap xs=>rfl
 |attr o x=>exact((pp o).1 (.setA x r) e (d::s) V).trans (cgE o λov V=>setA_eq)
 |sub o i=>exact((pp o).1 (xE i (.setS r)) e (d::s) V).trans (cgE o λx V=>((pp i).1 (.setS r) e (x::d::s) V).trans (cgE i λy V=>show setY x y d (λV=>run r e s V.loc V.mu) V=_ by rw[zKo]))
 |attr3 a x b y c z=>exact zB3 λl=>zB3 λp=>
   ((pp a).1 (.setA x (xE b (.setA y (xE c (.setA z r))))) e (p.1::p.2.1::p.2.2::s) V).trans (cgE a λov V=>setA_eq.trans (congrArg (zF9 T0 ov x p.1 · V) (funext λV=>((pp b).1 (.setA y (xE c (.setA z r))) e (p.2.1::p.2.2::s) V).trans (cgE b λov V=>setA_eq.trans (congrArg (zF9 T0 ov y p.2.1 · V) (funext λV=>((pp c).1 (.setA z r) e (p.2.2::s) V).trans (cgE c λov V=>setA_eq)))))))
def PS(c:CS):Prop:=∀ r e V,run (xS c r) e [] V.loc V.mu=wpS e.W 45 T0 e.n c (e.K r) e.X V
def PSs(c:CSs):Prop:=∀ r e V,run (xSs c r) e [] V.loc V.mu=wpSs e.W 45 T0 e.n c (e.K r) e.X V
theorem yFo(t:CT)(c:CE):PS (.asg t c):=λr e V=>((pp c).1 (xA t r) e [] V).trans (cgE c λd V=>pA t r e d [] V)
theorem yFm(t:CE)(ha:PSs a)(hb:PSs b):PS (.ife t a b):=λr e V=>((pp t).2 _ _ e [] V).trans (cgT t λU V=>zBe (ha r e V) (hb r e V))
theorem yG3{b:CSs}(hb:PSs b){e:En}{K Z:St->Prop}(V:St):run (xSs b .nil) (e.loop K Z) [] V.loc V.mu=wpSs e.W 45 T0 e.n b (λf V=>optN f (λd=>e.K r (some d) V) (K V)) no V:=
 (hb .nil (e.loop K Z) V).trans (congrArg (wpSs e.W 45 T0 e.n b · no V) (funext λf=>funext λV=>by cases f<;>rfl))
theorem yFk(t:CE)(hb:PSs b):PS (.whl t b):=λr e V=>congrArg (λF=>∃ k,zH1 F k V) (funext λK=>funext λV=>((pp t).2 _ _ (e.loop K λV=>run r e [] V.loc V.mu) [] V).trans (cgT t λU V=>zBe (yG3 hb V) rfl))
theorem yFn(ns:CN)(it:CE)(hb:PSs b):PS (.forS ns it b):=λr e V=>((pp it).1 (.forI ns (xSs b .nil) r) e [] V).trans (cgE it λd V=>by
 show cpI V.mu d (λl=>zD4 d/\forW (zB6 d l) (λx K V=>opt (zGc V.loc V.mu ns x) λloc=>run (xSs b .nil) (e.loop K λU=>False) [] loc V.mu) (λV=>run r e [] V.loc V.mu) l V)=_
 rw[zJt]
 exact zB3 λl=>congrArg (λF=>zD4 d/\forW (zB6 d l) F (λV=>run r e [] V.loc V.mu) l V) (funext λx=>funext λK=>funext λV=>zB3 λloc=>yG3 hb ⟨loc,V.mu⟩))
theorem yFl(x:Nat)(c:CE)(ev told:Nat):PS (.tryT x c ev told):=λr e V=>(pp c).1 .ret (e.exp _ _) [] V
theorem yBi(hc:PS c)(h:PSs cs):PSs (.cons c cs):=λr e V=>(hc (xSs cs r) e V).trans (congrArg (wpS e.W 45 T0 e.n c · e.X V) (funext λf=>funext λV=>by
 cases f with
 |none=>exact h r e V
 |some d=>rfl))
theorem pps(c:CSs):PSs c:=
 CSs.rec (motive_1:=PS) (motive_2:=PSs) yFo (λc r e V=>(pp c).1 (.pop r) e [] V) (λc U e V=>(pp c).1 .ret e [] V) (λt U U a b=>yFm t a b) (λt U b=>yFk t b) (λns it U b=>yFn ns it b)
  (λc U e V=>(pp c).1 .ret (e.exp e.X no) [] V) yFl (λU U U=>rfl) (λU U U=>rfl) (λU U c h=>yBi c h) c
theorem zT3(h:run (xSs c .nil) e [] V.loc V.mu):wpSs e.W 45 T0 e.n c e.Q e.X V:=by
 have h:=(pps c .nil e V).mp h
 rwa [show e.K .nil=e.Q from funext λf=>funext λV=>by cases f<;>rfl]at h
noncomputable def fnE(W:Wd)(n:Nat)(Q X:DV->Mt->Prop):En:=⟨W,n,λr V=>∃ m' d',Fz V.mu (r.getD .none) m' d'/\Q d' m',λd V=>X d V.mu,λU=>False⟩
section
theorem e27{A B C D E F I:α->β->Prop}{R:Prop}(k:∀ x y,A x y->B x y->C x y->D x y->E x y->F x y->I x y->R)(h:∃ x y,A x y/\B x y/\C x y/\D x y/\E x y/\F x y/\I x y):R:=h.elim λx h=>h.elim λy h=>k x y h.1 h.2.1 h.2.2.1 h.2.2.2.1 h.2.2.2.2.1 h.2.2.2.2.2.1 h.2.2.2.2.2.2
theorem e28{α β:Type}{A B C D E F I J:α->β->Prop}{R:Prop}(k:∀ x y,A x y->B x y->C x y->D x y->E x y->F x y->I x y->J x y->R)(h:∃ x y,A x y/\B x y/\C x y/\D x y/\E x y/\F x y/\I x y/\J x y):R:=h.elim λx h=>h.elim λy h=>k x y h.1 h.2.1 h.2.2.1 h.2.2.2.1 h.2.2.2.2.1 h.2.2.2.2.2.1 h.2.2.2.2.2.2.1 h.2.2.2.2.2.2.2
theorem e19{α:Type}{A B C D E F I J K:α->Prop}{R:Prop}(k:∀ x,A x->B x->C x->D x->E x->F x->I x->J x->K x->R)(h:∃ x,A x/\B x/\C x/\D x/\E x/\F x/\I x/\J x/\K x):R:=h.elim λx h=>k x h.1 h.2.1 h.2.2.1 h.2.2.2.1 h.2.2.2.2.1 h.2.2.2.2.2.1 h.2.2.2.2.2.2.1 h.2.2.2.2.2.2.2.1 h.2.2.2.2.2.2.2.2
theorem e39{α β γ:Type}{A B C D E F I J K:α->β->γ->Prop}{R:Prop}(k:∀ x y z,A x y z->B x y z->C x y z->D x y z->E x y z->F x y z->I x y z->J x y z->K x y z->R)(h:∃ x y z,A x y z/\B x y z/\C x y z/\D x y z/\E x y z/\F x y z/\I x y z/\J x y z/\K x y z):R:=h.elim λx h=>h.elim λy h=>h.elim λz h=>k x y z h.1 h.2.1 h.2.2.1 h.2.2.2.1 h.2.2.2.2.1 h.2.2.2.2.2.1 h.2.2.2.2.2.2.1 h.2.2.2.2.2.2.2.1 h.2.2.2.2.2.2.2.2
theorem e48{A B C D E F I J:α->β->γ->δ->Prop}{R:Prop}(k:∀ x y z u,A x y z u->B x y z u->C x y z u->D x y z u->E x y z u->F x y z u->I x y z u->J x y z u->R)(h:∃ x y z u,A x y z u/\B x y z u/\C x y z u/\D x y z u/\E x y z u/\F x y z u/\I x y z u/\J x y z u):R:=h.elim λx h=>h.elim λy h=>h.elim λz h=>h.elim λu h=>k x y z u h.1 h.2.1 h.2.2.1 h.2.2.2.1 h.2.2.2.2.1 h.2.2.2.2.2.1 h.2.2.2.2.2.2.1 h.2.2.2.2.2.2.2
theorem e0b{A B C D E F I J K L M:Prop}{R:Prop}(k:A->B->C->D->E->F->I->J->K->L->M->R)(h:A/\B/\C/\D/\E/\F/\I/\J/\K/\L/\M):R:=k h.1 h.2.1 h.2.2.1 h.2.2.2.1 h.2.2.2.2.1 h.2.2.2.2.2.1 h.2.2.2.2.2.2.1 h.2.2.2.2.2.2.2.1 h.2.2.2.2.2.2.2.2.1 h.2.2.2.2.2.2.2.2.2.1 h.2.2.2.2.2.2.2.2.2.2
theorem zAy{a:α}{K:α->Prop}(h:o=some a)(k:K a):opt o K:=by rw[h];exact k
theorem yB1(h:t=true)(k:A):sel t A B:=by rw[h];exact k
theorem zBk{p:Prop}{i:Decidable p}(k1:p->A)(k2:¬p->B):sel (decide p) A B:=by
 by_cases h:p
 ·rw[decide_eq_true h];exact k1 h
 ·rw[decide_eq_false h];exact k2 h
theorem zR2{p:Prop}{i:Decidable p}(h:p)(k:A):sel (decide p) A B:=by rw[decide_eq_true h];exact k
theorem yB0{p:Prop}{i:Decidable p}{A B:Prop}(h:¬p)(k:B):sel (decide p) A B:=by rw[decide_eq_false h];exact k
theorem yEs{i:Decidable p}{b:Bool}{A B:Prop}(k1:p->A)(k2:¬p->sel b A B):sel (decide p||b) A B:=by
 by_cases h:p
 ·rw[decide_eq_true h];exact k1 h
 ·rw[decide_eq_false h];exact k2 h
theorem zT0{i:Decidable p}{A B:Prop}(k1:p->B)(k2:¬p->A):sel (!decide p) A B:=by
 by_cases h:p
 ·rw[decide_eq_true h];exact k1 h
 ·rw[decide_eq_false h];exact k2 h
theorem yEt{p:Prop}{i:Decidable p}{A B:Prop}(h:p)(k:B):sel (!(true==decide p)) A B:=by rw[decide_eq_true h];exact k
theorem yEu{p:Prop}{i:Decidable p}{A B:Prop}(h:¬p)(k:B):sel (!(false==decide p)) A B:=by rw[decide_eq_false h];exact k
theorem zGl(k1:v=true->A)(k2:v=false->B):sel v A B:=by
 cases v with
 |true=>exact k1 rfl
 |false=>exact k2 rfl
theorem zAq(h:k<=100000):small k:=by unfold small;omega
theorem zA7{k:Nat}(h:k<=100000):bigI (k:Int):=by unfold bigI;omega
theorem lk_eq(h:Nat.beq k x=true):look (put l k v) x=some v:=by rw[zEy,h];rfl
theorem lk_ne(h:Nat.beq k x=false)(e:look l x=some d):look (put l k v) x=some d:=by rw[zEy,h];exact e
theorem Mt.ne_new{m:Mt}{a b:Addr}(h:(m.set a o) b=none):b≠a:=λe=>by subst e;rw[Mt.set_self]at h;cases h
theorem Mt.old{m:Mt}{o:MObj}(h:(m.set a o) b=none):m b=none:=by rw[Mt.set_ne _ _ (Mt.ne_new h)]at h;exact h
theorem Mt.at_{m:Mt}{a:Addr}(h:l=l'):(m.set a (.lst l)) a=some (.lst l'):=by rw[Mt.set_self,h]
theorem Mt.keep{m:Mt}{o x:MObj}(n:b≠a)(h:m b=some x):(m.set a o) b=some x:=by rw[Mt.set_ne _ _ n];exact h
theorem Mt.ne_of{m:Mt}{a b:Addr}(h:m b=some x)(k:m a=none):b≠a:=λe=>by subst e;rw[h]at k;cases k
theorem zZe{l:List DV}{K:List DV->Prop}(h:o=some (.lst l))(k:K l):atL o K:=by rw[h];exact k
theorem yJd{o:Option MObj}{K:List (Nat×DV)->Prop}(h:o=some (.dS l))(k:K l):atS o K:=by rw[h];exact k
theorem zO3(h:asL m d=some l):seqV m d=some l:=by
 cases d with
 |tup=>cases h
 |_=>exact h
theorem zSk{l:List DV}{k:Nat}{K:DV->Prop}(h:asL m o=some l)(hk:k<=100000)(hd:l[k]?=some d)(q:K d):subW m o (.int (k:Nat)) K:=by
 have e:nth l (k:Int)=some d:=hd
 have hb:bytD o=none:=by
  rcases zQi h with q|q
  ·rw[q];rfl
  ·exact q.elim λa q=>by rw[q.1];rfl
 refine⟨zA7 hk,?_⟩
 rw[hb]
 show opt (seqV m o) _
 rw[zO3 h]
 show opt (nth l (k:Int)) K
 rw[e];exact q
theorem Mt.set_set(m:Mt)(a:Addr)(x y:MObj):(m.set a x).set a y=m.set a y:=by
 funext b
 by_cases e:b=a
 ·subst e;rw[Mt.set_self,Mt.set_self]
 ·rw[Mt.set_ne _ _ e,Mt.set_ne _ _ e,Mt.set_ne _ _ e]
theorem zIp:@calI=λW=>@zKc W 45:=by with_unfolding_all rfl
theorem zLp:@cmpI=@cmpV:=by with_unfolding_all rfl
theorem yGn(h1:mu A=some (.inst Cc dx))(h2:mu dx=some (.attrs ns vs))(h3:fld ns vs x=some d):getI mu A x=some (Cc,d):=by
 unfold getI;show ob none (zDg mu A) _=_;rw[zJ5 h1 h2];show ob none (fld ns vs x) _=_;rw[h3];rfl
section
variable {r t f:C}{e:En}{s:List DV}{loc lo:Loc}{mu:Mt}{x:Nat}{d o a b:DV}{A dx Cc:Addr}{l l':List DV}{k:Nat}{W:Wd}{n:Nat}{X:DV->St->Prop}
theorem x_var(h:look loc x=some d)(k:run r e (d::s) loc mu):run (.var x r) e s loc mu:=zAy h k
theorem x_vr(h:look lo x=some d)(k:run r e (d::s) loc mu):opt (look lo x) λd=>run r e (d::s) loc mu:=zAy h k
theorem x_attr(h1:mu A=some (.inst Cc dx))(h2:mu dx=some (.attrs ns vs))(h3:fld ns vs x=some d)(h4:T0.rd Cc x=true)(k:run r e (d::s) loc mu):opt (getI mu A x) λp=>sel (T0.rd p.1 x) (run r e (p.2::s) loc mu) False:=zAy (yGn h1 h2 h3) (yB1 h4 k)
theorem x_meI(h1:mu A=some (.inst Cc dx))(h2:mu dx=some (.attrs ns vs))(h3:fld ns vs x=none)(h4:T0.me Cc x=some F)(k:run r e (.fn F::.ref A::s) loc mu):opt (calX mu (.ref A) x) λc=>run r e (encC c::.ref A::s) loc mu:=
 zAy (a:=Cal.fn F) (by rw[zGt];show optB (zDg mu A) _ _=_;rw[zJ5 h1 h2];show optB (fld ns vs x) _ _=_;rw[h3];show ob none (T0.me Cc x) _=_;rw[h4];rfl) k
theorem zLr{o:MObj}(h:mu A=some o)(hn:zYf o=none):zRz T mu (.ref A) x=calM o x:=by
 show optB (ob none (mu A) _) _ (ob none (mu A) _)=_
 rw[h];show optB (ob none (zYf o) _) _ (calM o x)=_;rw[hn];rfl
theorem x_meA(h:mu A=some (.lst l))(k:run r e (.int 0::.ref A::s) loc mu):opt (calX mu (.ref A) 3638987513726) λc=>run r e (encC c::.ref A::s) loc mu:=zAy (a:=Cal.append) (by rw[zGt];exact zLr h rfl) k
theorem yEb(h:mu A=some (.lst l))(k:run r e (.int 1::.ref A::s) loc mu):opt (calX mu (.ref A) 1894994) λc=>run r e (encC c::.ref A::s) loc mu:=zAy (a:=Cal.pop) (by rw[zGt];exact zLr h rfl) k
theorem x_meX(h:mu A=some (.lst l))(k:run r e (.int 2::.ref A::s) loc mu):opt (calX mu (.ref A) 3638987581326) λc=>run r e (encC c::.ref A::s) loc mu:=zAy (a:=Cal.extend) (by rw[zGt];exact zLr h rfl) k
theorem yHy(h:mu A=some (.dS kv))(k:run r e (.int 3::.ref A::s) loc mu):opt (calX mu (.ref A) 1960259) λc=>run r e (encC c::.ref A::s) loc mu:=zAy (a:=Cal.get) (by rw[zGt];exact zLr h rfl) k
theorem zM8(h:mu A=some (.lst l))(hs:l.length<=100000)(k:run r e (.none::s) loc (mu.set A (.lst (l++[d])))):calI W n .append (.ref A) [d] (λd V=>run r e (d::s) V.loc V.mu) X ⟨loc,mu⟩:=by
 rw[zIp];exact zZe h ⟨zAq hs,k⟩
theorem yAf(h:mu A=some (.lst l))(h':asL mu d=some l')(hs:l.length+l'.length<=100000)(k:run r e (.none::s) loc (mu.set A (.lst (l++l')))):calI W n .extend (.ref A) [d] (λd V=>run r e (d::s) V.loc V.mu) X ⟨loc,mu⟩:=by
 rw[zIp];exact zZe h (zAy h' ⟨zAq hs,k⟩)
theorem yHx(h:mu A=some (.lst (l++[d])))(hs:l.length<100000)(k:run r e (d::s) loc (mu.set A (.lst l))):calI W n .pop (.ref A) [] (λd V=>run r e (d::s) V.loc V.mu) X ⟨loc,mu⟩:=by
 rw[zIp];exact zZe h (zAy (a:=d) (by simp) ⟨zAq (by simp;exact Nat.le_of_lt_succ hs),by rw[List.dropLast_concat];exact k⟩)
theorem yE9(h:mu A=some (.lst (d::l)))(hs:l.length<=100000)(k:run r e (d::s) loc (mu.set A (.lst l))):calI W n .pop (.ref A) [.int 0] (λd V=>run r e (d::s) V.loc V.mu) X ⟨loc,mu⟩:=by
 rw[zIp];exact zZe h ⟨zAq hs,k⟩
theorem yHz{kv:List (Nat×DV)}(h:mu A=some (.dS kv))(k:run r e ((zRe kv x).getD d::s) loc mu):calI W n .get (.ref A) [.str x,d] (λd V=>run r e (d::s) V.loc V.mu) X ⟨loc,mu⟩:=by
 rw[zIp];exact yJd h k
theorem zCq{i:Nat}(h:asL mu o=some l)(hk:i<=100000)(hd:l[i]?=some d)(k:run r e (d::s) loc mu):subX mu o (.int (i:Nat)) λd=>run r e (d::s) loc mu:=by
 rw[zKg];exact zSk h hk hd k
theorem zBv{i:Int}(n:Nat)(hi:i=(n:Int))(h:asL mu o=some l)(hn:n<=100000)(hd:l[n]?=some d)(q:run r e (d::s) loc mu):subT mu o i λd=>run r e (d::s) loc mu:=by
 rw[zSl,hi];exact zSk h hn hd q
theorem zZl{b:Array UInt8}(hb:bigI i)(hs:small b.size)(hd:nthB b i=some d)(k:run r e (d::s) loc mu):subX mu (.bytes b) (.int i) λd=>run r e (d::s) loc mu:=by
 rw[zKg]
 refine⟨hb,hs,?_⟩
 rw[hd];exact k
theorem yAg(h:cmpV mu op a b=some v)(k:run r e (.bool v::s) loc mu):opt (cmpI mu op a b) λt=>run r e (.bool t::s) loc mu:=zAy (by rw[zLp];exact h) k
theorem j_c(h:cmpV mu op a b=some v)(k1:v=true->run t e s loc mu)(k2:v=false->run f e s loc mu):opt (cmpI mu op a b) λv=>sel v (run t e s loc mu) (run f e s loc mu):=zAy (by rw[zLp];exact h) (zGl k1 k2)
theorem zOh(h:cmpV mu op a b=some true)(k:run t e s loc mu):opt (cmpI mu op a b) λv=>sel v (run t e s loc mu) (run f e s loc mu):=zAy (a:=true) (K:=λv=>sel v (run t e s loc mu) (run f e s loc mu)) (by rw[zLp];exact h) k
theorem zNa(h:cmpV mu op a b=some false)(k:run f e s loc mu):opt (cmpI mu op a b) λv=>sel v (run t e s loc mu) (run f e s loc mu):=zAy (a:=false) (K:=λv=>sel v (run t e s loc mu) (run f e s loc mu)) (by rw[zLp];exact h) k
theorem j_V(h:cmpX mu op a b=some v)(k1:v=true->run t e s loc mu)(k2:v=false->run f e s loc mu):run (.cmpb op t f) e (b::a::s) loc mu:=zAy h (zGl k1 k2)
theorem yHw(h:asL mu o=some l)(hs:l.length<=100000)(k:∀ A,mu A=none->run r e (.ref A::s) loc (mu.set A (.lst l.reverse))):run (.rev r) e (o::s) loc mu:=zAy h ⟨zAq hs,k⟩
theorem yI1(k:run r e (.bool (decide (p=u)&&decide (q=v))::s) loc mu):run (.cmp .eq r) e (.tup [.int u,.int v]::.tup [.int p,.int q]::s) loc mu:=by
 show run r e (.bool (decide (p=u)&&(decide (q=v)&&true))::s) loc mu
 rw[Bool.and_true];exact k
theorem zDh(h:lenV mu d=some k)(hs:k<=100000)(c:run r e (.int (k:Nat)::s) loc mu):wpBi .len [d] (λd V=>run r e (d::s) V.loc V.mu) ⟨loc,mu⟩:=zAy h ⟨zAq hs,c⟩
theorem zZk(hs:l.length<=100000)(h:asL mu d=some l)(k:run r e (.tup l::s) loc mu):wpBi .tuple [d] (λd V=>run r e (d::s) V.loc V.mu) ⟨loc,mu⟩:=zAy h ⟨zAq hs,k⟩
theorem yE6{a b c:Int}(h:bigI a)(h':bigI b)(hc:c=1\/c=-1)(k:run r e (.rng a b c::s) loc mu):wpBi .range [.int a,.int b,.int c] (λd V=>run r e (d::s) V.loc V.mu) ⟨loc,mu⟩:=⟨h,h',hc,k⟩
theorem zP4{a:Int}(h:bigI a)(k:run r e (.rng 0 a 1::s) loc mu):wpBi .range [.int a] (λd V=>run r e (d::s) V.loc V.mu) ⟨loc,mu⟩:=⟨h,k⟩
theorem zH0(h:asL mu a=some l)(h':asL mu b=some l')(hs:l.length+l'.length<=100000)(k:∀ A,mu A=none->run r e (.ref A::s) loc (mu.set A (.lst (l++l')))):binI .add a b (λd V=>run r e (d::s) V.loc V.mu) ⟨loc,mu⟩:=by
 rw[show@binI=@zMa by with_unfolding_all rfl]
 show optN (asL mu a) _ _
 rw[h]
 exact zAy h' ⟨zAq hs,k⟩
theorem yEf(h:asL mu a=some l)(h':asL mu b=some l')(hs:l.length+l'.length<=100000)(k:∀ A,mu A=none->run r e (.ref A::s) loc (mu.set A (.lst (l++l')))):binX .add a b (λd=>run r e (d::s) loc mu) (binI .add a b (λd V=>run r e (d::s) V.loc V.mu) ⟨loc,mu⟩):=by
 cases a with
 |int i=>cases h
 |_=>exact zH0 h h' hs k
theorem zWe(h:0<j)(k:run r e (.int (i % j)::s) loc mu):run (.bin .mod r) e (.int j::.int i::s) loc mu:=⟨h,k⟩
theorem zSb(h:0<j)(h':bigI j)(k:run r e (.int (i / j)::s) loc mu):run (.bin .fdiv r) e (.int j::.int i::s) loc mu:=⟨h,h',k⟩
theorem zF8(h:bigI i)(h':bigI j)(k:run r e (.int (i * j)::s) loc mu):run (.bin .mul r) e (.int j::.int i::s) loc mu:=⟨h,h',k⟩
theorem zSc(k:run r e (.int (Int.ofNat (i&&& j))::s) loc mu):run (.bin .band r) e (.int (j:Nat)::.int (i:Nat)::s) loc mu:=⟨Int.natCast_nonneg _,Int.natCast_nonneg _,k⟩
theorem yE5(h:mu A=some (.lst l))(hi:i<l.length)(hs:l.length<=100000)(k:run r e s loc (mu.set A (.lst (l.set i d)))):setY (.ref A) (.int (i:Nat)) d (λV=>run r e s V.loc V.mu) ⟨loc,mu⟩:=by
 rw[zKo]
 exact zAy (a:=A) rfl (zAy h ⟨hi,zAq hs,k⟩)
theorem zBt(h1:mu A=some (.inst Cc dx))(h2:mu dx=some (.attrs ns vs))(h3:T0.st Cc x=true)(h4:Nat.ble ns.length 40=true)(k:run r e s loc (mu.set dx (.attrs (fput ns vs x d).1 (fput ns vs x d).2))):setX (.ref A) x d (λV=>run r e s V.loc V.mu) ⟨loc,mu⟩:=by
 rw[zSy]
 exact zAy (a:=A) rfl (zAy (zJ5 h1 h2) (yB1 h3 (yB1 h4 k)))
theorem zB7(h1:mu A=some (.inst Cc dx))(n:A≠dx)(h3:T0.st Cc x=true)(h4:Nat.ble ns.length 40=true)(k:run r e s loc (mu.set dx (.attrs (fput ns vs x d).1 (fput ns vs x d).2))):setX (.ref A) x d (λV=>run r e s V.loc V.mu) ⟨loc,mu.set dx (.attrs ns vs)⟩:=
 zBt (Mt.keep n h1) (Mt.set_self _ _ _) h3 h4 (by rw[Mt.set_set];exact k)
end
section
variable {Q:DV->Mt->Prop}{K:Option DV->Mt->Prop}{m mu:Mt}{d d':DV}
theorem fin(f:Fz mu d m d')(h:Q d' m):∃ m' d',Fz mu d m' d'/\Q d' m':=⟨m,d',f,h⟩
theorem fin0(h:Q d m):∃ m' d',Fz m d m' d'/\Q d' m':=⟨m,d,.refl,h⟩
theorem finC(h:K (some d) m):∃ m' d',Fz m d m' d'/\K (some d') m':=⟨m,d,.refl,h⟩
theorem zIk(f:Fz mu d m d')(h:K (some d') m):∃ m' d',Fz mu d m' d'/\K (some d') m':=⟨m,d',f,h⟩
end
end
section
section
variable {α:Type}{r b:C}{e:En}{s:List DV}{loc:Loc}{mu:Mt}{d:DV}{ns:CN}{l:List α}{K:St->Prop}{Z:St->Prop}
theorem yGr(c:α->DV)(P:List α->Loc->Mt->Prop)(hg:∀ xs loc mu,P xs loc mu->gd ⟨loc,mu⟩)(h0:∀ loc mu,P [] loc mu->R ⟨loc,mu⟩)
  (h1:∀ x xs loc mu K,P (x::xs) loc mu->(∀ loc mu,P xs loc mu->K ⟨loc,mu⟩)->B (c x) K ⟨loc,mu⟩):∀ xs loc mu,P xs loc mu->forW gd B R (xs.map c) ⟨loc,mu⟩:=
 List.rec (λloc mu h=>⟨hg _ _ _ h,h0 loc mu h⟩) λx xs ih loc mu h=>⟨hg _ _ _ h,h1 x xs loc mu _ h ih⟩
theorem zDi(c:α->DV){lo:α->Loc->Loc}(P:List α->Loc->Mt->Prop)(h:zE0 mu d=some (l.map c))(hr:zD4 d)(hb:∀ x loc mu,zGc loc mu ns (c x)=some (lo x loc))(hp:P l loc mu)(hg:∀ xs loc mu,P xs loc mu->zB6 d (l.map c) ⟨loc,mu⟩)
  (h0:∀ loc mu,P [] loc mu->run r e s loc mu) (h1:∀ x xs loc mu K,P (x::xs) loc mu->(∀ loc mu,P xs loc mu->K ⟨loc,mu⟩)->run b (e.loop K λU=>False) [] (lo x loc) mu):cpI mu d (λl=>zD4 d/\forW (zB6 d l) (λx K V=>opt (zGc V.loc V.mu ns x) λloc=>run b (e.loop K λU=>False) [] loc V.mu) (λV=>run r e s V.loc V.mu) l ⟨loc,mu⟩):=by
 rw[zJt];exact zAy h ⟨hr,yGr c P hg h0 (λx xs loc mu K p k=>zAy (hb x loc mu) (h1 x xs loc mu K p k)) l loc mu hp⟩
theorem yEc{lo:Loc}(h:zE0 mu d=some [x])(hr:zD4 d)(hg:zB6 d [x] ⟨loc,mu⟩)(hb:zGc loc mu ns x=some lo)(k:run b (e.loop (λV=>zB6 d [x] V/\run r e s V.loc V.mu) λU=>False) [] lo mu):cpI mu d (λl=>zD4 d/\forW (zB6 d l) (λx K V=>opt (zGc V.loc V.mu ns x) λloc=>run b (e.loop K λU=>False) [] loc V.mu) (λV=>run r e s V.loc V.mu) l ⟨loc,mu⟩):=by
 rw[zJt];exact zAy h ⟨hr,hg,zAy hb k⟩
theorem yE3(P:Nat->Loc->Mt->Prop)(k:Nat)(hp:P k loc mu)(h:∀ k loc mu K,P k loc mu->(∀ j loc mu,j<k->P j loc mu->K ⟨loc,mu⟩)->run b (e.loop K λV=>run r e s V.loc V.mu) [] loc mu):run (.whl b r) e s loc mu:=
 zQm (λk V=>P k V.loc V.mu) (λk V K p q=>h k V.loc V.mu K p λj loc mu hj p=>q j ⟨loc,mu⟩ hj p) k ⟨loc,mu⟩ hp
theorem zVn(c f:α->DV)(hg:gd ⟨loc,m⟩):∀(xs:List α) (acc:List DV),(∀ x∈xs,∀ K:Option DV->Mt->Prop,K (some (f x)) m->B (c x) K m)->newL (acc++xs.map f) Q ⟨loc,m⟩->zEc gd B loc Q (xs.map c) acc m:=
 List.rec (λacc U h=>⟨hg,by rw[List.map_nil,List.append_nil]at h;exact h⟩) λx xs ih acc hB h=>⟨hg,hB x (List.mem_cons_self ..) _ (ih _ (λy hy=>hB y (List.mem_cons_of_mem _ hy)) (by rw[List.append_assoc];exact h))⟩
theorem zDj(c f:α->DV){lo:α->Loc}(h:zE0 mu d=some (l.map c))(hr:zD4 d)(hs:l.length<=100000)(hg:zB6 d (l.map c) ⟨loc,mu⟩)(hb:∀ x,bindC loc mu ns (c x)=some (lo x))
  (hB:∀ x∈l,∀ K:Option DV->Mt->Prop,K (some (f x)) mu->run b (e.cmp K) [] (lo x) mu) (k:∀ A,mu A=none->run r e (.ref A::s) loc (mu.set A (.lst (l.map f)))):cpI mu d (λl=>zD4 d/\small l.length/\zEc (zB6 d l) (λx K m=>opt (bindC loc m ns x) λlo=>run b (e.cmp K) [] lo m) loc (λd V=>run r e (d::s) V.loc V.mu) l [] mu):=by
 rw[zJt];exact zAy h ⟨hr,zAq (by rw[List.length_map];exact hs),zVn c f hg l [] (λx hx K q=>zAy (hb x) (hB x hx K q)) k⟩
theorem yEd(c f:α->DV){lo:α->Loc}(h:(l₁.zip l₂).map (λp=>DV.tup [p.1,p.2])=l.map c)(hs₁:l₁.length<=100000)(hs₂:l₂.length<=100000)(hb:∀ x,bindC loc mu ns (c x)=some (lo x))
  (hB:∀ x∈l,∀ K:Option DV->Mt->Prop,K (some (f x)) mu->run b (e.cmp K) [] (lo x) mu) (k:∀ A,mu A=none->run r e (.ref A::s) loc (mu.set A (.lst (l.map f)))):run (.compZ ns b r) e (.tup l₂::.tup l₁::s) loc mu:=
 ⟨zAq hs₁,zAq hs₂,by rw[h];exact zVn c f trivial l [] (λx hx K q=>zAy (hb x) (hB x hx K q)) k⟩
end
end
local macro_rules | `(tactic| kst_p) => `(tactic| first | assumption | exact rfl | exact Mine.Internal.lk_eq rfl | exact Mine.Internal.lk_ne rfl (by kst_p) | exact Mine.Internal.ls_ne rfl (by kst_p))
local macro_rules | `(tactic| kst_mem) => `(tactic| repeat (first | refine Mine.Internal.x_var (by kst_p) ?_ | refine Mine.Internal.x_attr (by assumption) (by assumption) rfl rfl ?_ | refine Mine.Internal.x_meI (by assumption) (by assumption) rfl rfl ?_ | refine Mine.Internal.x_meA (by assumption) ?_ | refine Mine.Internal.x_meX (by assumption) ?_ | refine Mine.Internal.x_vr (by kst_p) ?_))
theorem Gd.fn{W:Wd}(G:Gd W){m:Mt}{f:Addr}{ns:List Str}{es:List Nat}{k:Nat}{dvs:List Value}{c:CSs}(FB:FnB W f ns es k dvs c){dfl:List DV}(hd:RepL W.h₀.get? dfl dvs){ds:List DV}(hk:ds.length=k){Q X:DV->Mt->Prop}
  (h:run (xSs c .nil) (fnE W n Q X) [] (es.zip (ds++dfl)) m):zA4 W 45 (n+1) f ds m Q X:=by
 refine e11 (λfd B=>?_) G.base
 exact yAv B G.zip FB hd hk (zT3 (e:=fnE W n Q X) (V:=⟨es.zip (ds++dfl),m⟩) h)
def Sub(m mu:Mt):Prop:=∀ b o,m b=some o->mu b=some o
theorem Sub.rfl:Sub m m:=λU U h=>h
theorem Sub.trans(h:Sub a b)(k:Sub b c):Sub a c:=λU U e=>k _ _ (h _ _ e)
theorem Sub.new(k:Sub m mu)(h:mu a=none):Sub m (mu.set a o):=λb o' e=>by
 have:=k b o' e
 rw[Mt.set_ne _ _ (λq=>by subst q;rw[h]at this;cases this)];exact this
theorem Sub.put(k:Sub m mu)(h:m a=none):Sub m (mu.set a o):=λb o' e=>by
 rw[Mt.set_ne _ _ (λq=>by subst q;rw[h]at e;cases e)];exact k b o' e
theorem Sub.absent(k:Sub m mu)(h:mu a=none):m a=none:=by
 cases e:m a with
 |none=>rfl
 |some o=>rw[k a o e]at h;cases h
theorem Sub.ne(k:Sub m mu)(h:mu a=none)(e:m b=some o):b≠a:=λq=>by
 subst q;have:=k b o e;rw[h]at this;cases this
theorem Sub.fz(k:Sub m mu):Fz mu d m d:=.drop k
theorem Sub.list(k:Sub m mu)(h:mu a=some (.lst l))(ha:m a=none):Fz mu (.ref a) m (.lst l):=
 .trans (.lst h) (.drop λb o e=>by
  rw[Mt.del_ne _ (λq=>by subst q;rw[ha]at e;cases e)];exact k b o e)
theorem Sub.inst(k:Sub m mu){a C x:Addr}{ns:List Nat}(h:mu a=some (.inst C x))(h':mu x=some (.attrs ns vs))(ha:m a=none)(hx:m x=none)(ne:a≠x):Fz mu (.ref a) m (.inst C ns vs):=
 .trans (.inst h h' ne) (.drop λb o e=>by
  rw[Mt.del_ne _ (λq=>by subst q;rw[hx]at e;cases e),Mt.del_ne _ (λq=>by subst q;rw[ha]at e;cases e)];exact k b o e)
theorem Fz.new(h:m b=none):Fz (m.set b (.lst l)) (.ref b) m (.lst l):=Sub.list (Sub.rfl.new h) (Mt.set_self _ _ _) h
theorem zB0(k:Sub m mu)(h:asL m d=some l):asL mu d=some l:=by
 rcases zQi h with q|q
 ·rw[q];rfl
 ·refine q.elim λa q=>?_
  rw[q.1]
  show ob none (mu a) lstO=_
  rw[k a _ q.2];rfl
theorem zCc(h:asL m d=some l):lenV m d=some l.length:=by
 have e:=zO3 h
 cases d with
 |bytes=>cases h
 |_=>simp only[lenV,e,Option.map_some]
theorem zBb(h:asL m d=some l):zE0 m d=some l:=by
 cases d with
 |rng=>cases h
 |_=>exact zO3 h
theorem zBr(h:asL m d=some l):zB6 d l ⟨loc,m⟩:=by
 cases d with
 |ref a=>exact(zA1 h).elim λo q=>(q.1.trans (congrArg some (zL2 q.2)):m a=some (.lst l))
 |_=>trivial
theorem zEv(h:asL m d=some l):zD4 d:=by
 cases d with
 |rng=>cases h
 |_=>trivial
theorem zA3(h:m a=some (.lst l)):asL m (.ref a)=some l:=by show ob none (m a) lstO=_;rw[h];rfl
theorem zNk(F:DV->Option DV)(hg:gd ⟨loc,m⟩):∀(xs acc:List DV),(∀ x∈xs,∀ K:Option DV->Mt->Prop,K (F x) m->B x K m)->newL (acc++xs.filterMap F) Q ⟨loc,m⟩->zEc gd B loc Q xs acc m
 |[],acc,_,h=>⟨hg,by simpa using h⟩
 |x::xs,acc,hB,h=>⟨hg,hB x (List.mem_cons_self ..) _ (by
   cases e:F x with
   |none=>exact zNk F hg xs acc (λy hy=>hB y (List.mem_cons_of_mem _ hy)) (by simpa [List.filterMap_cons,e]using h)
   |some d=>exact zNk F hg xs (acc++[d]) (λy hy=>hB y (List.mem_cons_of_mem _ hy)) (by simpa [List.filterMap_cons,e]using h))⟩
theorem zP7:∀(k a:Nat),upTo k (a:Int) 1=(List.range' a k).map λi=>.int (i:Nat)
 |0,_=>rfl
 |k+1,a=>by simp only[upTo,List.range'_succ,List.map_cons];rw[show(a:Int)+1=((a+1:Nat):Int) from rfl,zP7 k (a+1)]
theorem zR4(k:Nat):rngLen 0 (k:Int) 1=k:=by
 unfold rngLen Builtin.Range.rangeSize
 simp
 split<;>omega
theorem zGq(m:Mt)(k:Nat):zE0 m (.rng 0 (k:Int) 1)=some ((List.range k).map λi=>.int (i:Nat)):=by
 simp only[zE0,zR4]
 rw[show(0:Int)=((0:Nat):Int) from rfl,zP7,List.range_eq_range']
noncomputable def eK(k:Kept):DV:=.tup (k.map .int)
def eW(p:Way):DV:=.tup [.int (p.1:Nat),eK p.2]
def eWs(l:List Way):DV:=.lst (l.map eW)
noncomputable def eN(k:Nat):DV:=.int (k:Nat)
noncomputable def eS(s:zJ8):DV:=.tup [.bool s.1,.bool s.2]
noncomputable def Ord.code:Ord->Nat
 |.range=>28471249426|.cat=>1959739|.alt=>1961156|.star=>248515262|.capture=>474184994492923|.quest=>32650705719|.plus=>250993736|.empty=>34037648820|.nop=>1894992|.none=>220823988
def eO(o:Ord):DV:=.str o.code
noncomputable def yJ4(r:Row):DV:=.tup [.int (r.lo:Nat),.int (r.hi:Nat),.bool r.fold]
def eR(r:Row):DV:=.tup [.bool r.lazy,yJ4 r,.tup [.int (r.s0:Nat),.int (r.s1:Nat)],.int (r.bits:Nat)]
noncomputable def eF(f:Fr):DV:=.inst 137 [30967732746,250711086,131251851267392784618517] [.int (f.b:Nat),.tup [.int (f.e0:Nat),.int (f.e1:Nat)],.bool f.nl]
noncomputable def eB(l:List Nat):DV:=.bytes (l.map UInt8.ofNat).toArray
section
noncomputable def dOf:List Int->MObj
 |[]=>.dE
 |l=>.dI l
theorem zG8(l:List Nat)(e:Nat):(l.map λi:Nat=>(i:Int)).contains (e:Int)=l.contains e:=by
 induction l with
 |nil=>rfl
 |cons x r ih=>
  rw[List.map_cons,List.contains_cons,List.contains_cons,ih]
  congr 1
  rw[Bool.eq_iff_iff];simp[Int.ofNat_inj]
theorem yC8(h:μ b=some (dOf met)):inV μ (.int e) (.ref b)=some (met.contains e):=by
 show ob none (μ b) (inO (.int e))=_
 rw[h]
 cases met with
 |nil=>rfl
 |cons x r=>rfl
theorem zXm{μ:Mt}{b:Addr}{met:List Nat}{e:Nat}(h:μ b=some (dOf (met.map λi:Nat=>(i:Int)))):cmpV μ .nin (.int (e:Nat)) (.ref b)=some (!met.contains e):=by
 show Option.map _ (inV μ _ _)=_
 rw[yC8 h,zG8];rfl
theorem zO2{mu:Mt}{e:Int}{K:St->Prop}(h:mu b=some (dOf met))(hc:met.contains e=false)(hs:small met.length)(k:K ⟨loc,mu.set b (dOf (met++[e]))⟩):zI4 (.ref b) (.int e) (.bool true) K ⟨loc,mu⟩:=by
 refine zAy (a:=b) rfl (zAy h ?_)
 cases met with
 |nil=>exact⟨hs,k⟩
 |cons x r=>
  show opt (zQ7 (.int e) (.dI (x::r))) λmo'=>sel (zOi (.bool true)) (small (zNi (.dI (x::r)))/\K ⟨loc,mu.set b mo'⟩) False
  refine zAy (a:=MObj.dI (x::r++[e])) ?_ ⟨hs,k⟩
  show some (MObj.dI (if(x::r).contains e=true then _ else _))=_
  rw[show(x::r).contains e=false from hc];rfl
theorem zZn{s:List DV}{loc:Loc}{mu:Mt}{b:Addr}(h:mu b=some (dOf (met.map λi:Nat=>(i:Int))))(hc:met.contains e=false)(hs:met.length<=100000)(k:run r en s loc (mu.set b (dOf ((met++[e]).map λi:Nat=>(i:Int))))):setY (.ref b) (.int (e:Nat)) (.bool true) (λV=>run r en s V.loc V.mu) ⟨loc,mu⟩:=by
 rw[zKo]
 exact zO2 (loc:=loc) (e:=(e:Int)) (K:=λV=>run r en s V.loc V.mu) h (by rw[zG8];exact hc) (zAq (by rw[List.length_map];exact hs)) (by rw[List.map_append]at k;exact k)
variable {W:Wd}(G:Gd W){n:Nat}{m:Mt}{Q X:DV->Mt->Prop}
include G
theorem zGk(h:Q (eK zAc) m):zA4 W 45 (n+1) 318 [] m Q X:=G.fn G.k_law_none .nil rfl (fin0 h)
theorem zKm(a b:Kept)(ha:a.length<=4)(hb:b.length<=4)(h:Q (eK (kept a b)) m):zA4 W 45 (n+1) 344 [eK a,eK b] m Q X:=by
 refine G.fn G.k_law_kept .nil rfl ?_
 refine yEd (l:=a.zip b) (λp=>.tup [.int p.1,.int p.2]) (λp=>.int (if 0<=p.2 then p.2 else p.1)) (by rw[List.zip_map,List.map_map];rfl) (by simp;exact nLit ha rfl) (by simp;exact nLit hb rfl) (λU=>rfl) ?_ ?_
 ·intro x _ K hK
  refine zBk (p:=(0:Int)<=x.2) (λhd=>finC ?_) (λhd=>finC ?_)
  ·rw[if_pos hd]at hK;exact hK
  ·rw[if_neg hd]at hK;exact hK
 ·intro r hr
  refine zZk (by simp;omega) (zA3 (Mt.set_self _ _ _)) (fin (Sub.fz (Sub.rfl.new hr)) ?_)
  unfold kept eK at h
  rwa [List.map_map]at h
theorem zNx(slot at_:Nat)(h:Q (eK (zCm slot at_)) m):zA4 W 45 (n+1) 349 [.int (slot:Nat),.int (at_:Nat)] m Q X:=by
 refine G.fn G.k_law_mark .nil rfl (zP4 (zA7 (k:=4) (n42)) ?_)
 refine zDj (l:=List.range 4) (λi=>.int (i:Nat)) (λi=>.int (if i=slot then Int.ofNat at_ else -1)) rfl ⟨zA7 (k:=0) (n5),zA7 (k:=4) (n42),.inl rfl⟩ (by decide) trivial (λU=>rfl) ?_ ?_
 ·intro i _ K hK
  refine zBk (p:=(i:Int)=(slot:Int)) (λhd=>finC ?_) (λhd=>finC ?_)
  ·rw[if_pos (Int.ofNat_inj.mp hd)]at hK;exact hK
  ·rw[if_neg (n73 hd)]at hK;exact hK
 ·intro r hr
  refine zZk (by simp) (zA3 (Mt.set_self _ _ _)) (fin (Sub.fz (Sub.rfl.new hr)) ?_)
  unfold zCm eK at h
  rwa [List.map_map]at h
theorem zWu(i:Int)(slot at_:Nat)(hi:i=slot)(h:Q (eK (zCm slot at_)) m):zA4 W 45 (n+1) 349 [.int i,.int (at_:Nat)] m Q X:=hi▸zNx G slot at_ h
theorem zSr(lo hi:Nat)(fold:Bool)(o:Nat)(h:Q (.bool (fits lo hi fold o)) m):zA4 W 45 (n+1) 332 [.tup [.int (lo:Nat),.int (hi:Nat),.bool fold],.int (o:Nat)] m Q X:=by
 refine G.fn G.k_law_fits .nil rfl ?_
 have key:∀ s:Nat,s=(if fold&&(65<=o&&o<=90)then o+32 else o)->((lo:Int)<=s->Q (.bool (decide ((s:Int)<=(hi:Int)))) m)/\(¬ (lo:Int)<=s->Q (.bool false) m):=λs hs=>by
  have e:fits lo hi fold o=(decide (lo<=s)&&decide (s<=hi)):=by unfold fits;rw[<-hs]
  rw[e]at h
  exact⟨λq=>by simpa [Int.ofNat_le.mp q]using h,λq=>by simpa [show ¬ lo<=s by omega]using h⟩
 have small:fold=false\/¬ (65<=o/\o<=90)->((lo:Int)<=o->Q (.bool (decide ((o:Int)<=(hi:Int)))) m)/\(¬ (lo:Int)<=o->Q (.bool false) m):=λq=>key o (by
  rcases q with q|q
  ·simp[q]
  ·simp;omega)
 refine zGl (λhf=>zBk (p:=(65:Int)<=o) (λh1=>zBk (p:=(o:Int)<=90) (λh2=>?_) λh2=>?_) λh1=>?_) λhf=>?_
 ·have k:=key (o+32) (by simp[hf];omega)
  exact zBk (λq=>fin0 (k.1 q)) λq=>fin0 (k.2 q)
 ·have k:=small (.inr (by omega))
  exact zBk (λq=>fin0 (k.1 q)) λq=>fin0 (k.2 q)
 ·have k:=small (.inr (by omega))
  exact zBk (λq=>fin0 (k.1 q)) λq=>fin0 (k.2 q)
 ·have k:=small (.inl hf)
  exact zBk (λq=>fin0 (k.1 q)) λq=>fin0 (k.2 q)
end
section
variable {W:Wd}(G:Gd W){n:Nat}{m:Mt}{Q X:DV->Mt->Prop}
include G
def yHu(m:Mt)(ways:List Way)(a b:Addr)(ys:List Way)(loc:Loc)(mu:Mt):Prop:=∃(acc:List Way) (met:List Nat),look loc 28209471649=some (.ref a)/\look loc 1960265=some (.ref b)/\mu a=some (.lst (acc.map eW))/\mu b=some (dOf (met.map λi:Nat=>(i:Int)))/\Sub m mu/\acc++zAp met ys=zAp [] ways/\acc.length+ys.length<=1000/\met.length=acc.length
theorem zFq(ways:List Way)(hd:asL m d=some (ways.map eW))(hs:ways.length<=1000)(h:Q (eWs (first ways)) m):zA4 W 45 (n+1) 339 [d] m Q X:=by
 refine G.fn G.k_law_first .nil rfl ?_
 intro a ha b hb
 have hab:=Mt.ne_new hb
 have hb':=Mt.old hb
 have S0:Sub m ((m.set a (.lst [])).set b .dE):=(Sub.rfl.new ha).new hb
 refine zDi eW (lo:=λx loc=>put (put loc 1695162 (.int (x.1:Nat))) 253056312 (eK x.2)) (yHu m ways a b)
  (zBb (zB0 S0 hd)) (zEv hd) (λU U U=>rfl) ⟨[],[],rfl,rfl,Mt.keep hab.symm (Mt.set_self _ _ _),Mt.set_self _ _ _,S0,rfl,by simpa using hs,rfl⟩
  (λU U U=>e28 λU U U U U U S U U U=>zBr (zB0 S hd)) (λloc mu=>e28 λacc met h1 h2 m1 m2 S he U U=>?_) λx xs loc mu K p hK=>e28 (λacc met h1 h2 m1 m2 S he hl hml=>?_) p
 ·kst_mem
  have e1:acc=first ways:=by simpa [zAp,first]using he
  exact fin (S.list m1 ha) (e1▸h)
 ·simp only[List.length_cons]at hl
  kst_mem
  refine j_c (zXm m2) (λhc=>?_) λhc=>?_
  ·rw[Bool.not_eq_true']at hc
   kst_mem
   refine zZn m2 hc (by omega) ?_
   have g1:=Mt.keep hab.symm m1 (o:=dOf ((met++[x.1]).map λi:Nat=>(i:Int)))
   kst_mem
   refine zM8 g1 (by simp;exact n66 hl) ((hK _ _ ⟨acc++[x],met++[x.1],by kst_p,by kst_p,Mt.at_ (by rw[List.map_append];rfl),Mt.keep hab (Mt.set_self _ _ _),(S.put hb').put ha,by rw[<-he];simp only[zAp,hc];simp,by simp;exact n67 hl,by simp[hml]⟩))
  ·rw[Bool.not_eq_false']at hc
   exact(hK _ _ ⟨acc,met,by kst_p,by kst_p,m1,m2,S,by rw[<-he];simp only[zAp,hc,if_true],Nat.le_of_succ_le hl,hml⟩)
omit G in
theorem zI6(h:k<t.length):t[k]?=some (row t k):=by
 unfold row;rw[List.getD_eq_getElem?_getD,List.getElem?_eq_getElem h];rfl
def yJh(m:Mt)(ways:List Way)(t:zAa)(dt:DV)(a:Addr)(ys:List Way)(loc:Loc)(mu:Mt):Prop:=∃ zs:List Way,zs++ys=ways/\look loc 28209471649=some (.ref a)/\look loc 28481783181=some dt/\mu a=some (.lst ((zBq zs t).map eW))/\Sub m mu/\(zBq zs t).length<=zs.length * 5
theorem zMk(ways:List Way)(t:zAa)(hd:asL m dw=some (ways.map eW))(ht:asL m dt=some (t.map eWs))(hk:∀ p∈ways,p.1<t.length/\p.2.length<=4)(hk':∀ l∈t,l.length<=5/\∀ p∈l,p.2.length<=4)(hs:ways.length<=5)(hL:t.length<=5)(h:Q (eWs (joined ways t)) m):zA4 W 45 (n+2) 361 [dw,dt] m Q X:=by
 refine G.fn G.k_law_joined .nil rfl ?_
 intro a ha
 have S0:Sub m (m.set a (.lst [])):=Sub.rfl.new ha
 refine zDi eW (lo:=λx loc=>put (put loc 222935583 (.int (x.1:Nat))) 253056312 (eK x.2)) (yJh m ways t dt a)
  (zBb (zB0 S0 hd)) (zEv hd) (λU U U=>rfl) ⟨[],rfl,rfl,rfl,Mt.set_self _ _ _,S0,Nat.le_refl _⟩ (λU U U=>e16 λU U U U U S U=>zBr (zB0 S hd)) (λloc mu=>e16 λzs hz h1 h2 m1 S hl=>?_) λx xs loc mu K p hK=>e16 (λzs hz h1 h2 m1 S hl=>?_) p
 ·rw[List.append_nil]at hz
  kst_mem
  refine zFq G _ (zA3 m1) (by have:=congrArg List.length hz;omega) ?_
  exact fin (Sub.fz S) (hz▸h)
 ·have hp:=hk x (hz▸List.mem_append_right _ (.head _))
  have hrow:=hk' (row t x.1) (List.mem_of_getElem? (zI6 hp.1))
  have hzl:zs.length+1<=5:=by have:=congrArg List.length hz;simp at this;omega
  kst_mem
  refine zCq (l:=t.map eWs) (i:=x.1) (d:=eWs (row t x.1)) (zB0 S ht) (by omega) (by rw[List.getElem?_map,zI6 hp.1];rfl) ?_
  refine zDj (l:=row t x.1) eW (λp=>eW (p.1,kept x.2 p.2)) rfl trivial (by omega) trivial (λU=>rfl) (λy hm K' hK'=>?_) λb hb=>?_
  ·kst_mem
   refine zKm G x.2 y.2 hp.2 (hrow.2 _ hm) ?_
   exact finC hK'
  ·refine yAf (Mt.keep (Mt.ne_of m1 hb) m1) (zA3 (Mt.set_self _ _ _)) (by rw[List.length_map,List.length_map];omega) ((hK _ _ ⟨zs++[x],by rw[List.append_assoc];exact hz,by kst_p,by kst_p,Mt.at_ (by simp[zBq,zB4]),(S.new hb).put ha,?_⟩))
   simp[zBq,zB4]at hl ⊢;omega
end
section
variable {W:Wd}(G:Gd W){n:Nat}{m:Mt}{Q X:DV->Mt->Prop}
def yHs(m:Mt)(ways:List Way)(at_ s0 s1:Nat)(a:Addr)(ys:List Way)(loc:Loc)(mu:Mt):Prop:=∃ zs:List Way,zs++ys=ways/\look loc 28209471649=some (.ref a)/\look loc 28181297528=some (eK (zCm s0 at_))/\look loc 32376094778=some (.tup [.int (s0:Nat),.int (s1:Nat)])/\mu a=some (.lst ((group zs at_ s0 s1).map eW))/\Sub m mu
include G
theorem zWw(ways:List Way)(at_ s0 s1:Nat)(hd:asL m dw=some (ways.map eW))(hk:∀ p∈ways,p.2.length<=4)(hs:ways.length<=1000)(h:Q (eWs (group ways at_ s0 s1)) m):zA4 W 45 (n+2) 356 [dw,.int (at_:Nat),.tup [.int (s0:Nat),.int (s1:Nat)]] m Q X:=by
 refine G.fn G.k_law_group .nil rfl ?_
 refine zNx G s0 at_ ?_
 intro a ha
 have S0:Sub m (m.set a (.lst [])):=Sub.rfl.new ha
 refine zDi eW (lo:=λx loc=>put (put loc 1695162 (.int (x.1:Nat))) 253056312 (eK x.2)) (yHs m ways at_ s0 s1 a)
  (zBb (zB0 S0 hd)) (zEv hd) (λU U U=>rfl) ⟨[],rfl,rfl,rfl,rfl,Mt.set_self _ _ _,S0⟩ (λU U U=>e16 λU U U U U U S=>zBr (zB0 S hd)) (λloc mu=>e16 λzs hz h1 h2 h3 m1 S=>?_) λx xs loc mu K p hK=>e16 (λzs hz h1 h2 h3 m1 S=>?_) p
 ·rw[List.append_nil]at hz
  kst_mem
  exact fin (S.list m1 ha) (hz▸h)
 ·have hp:=hk x (hz▸List.mem_append_right _ (.head _))
  have hl:=congrArg List.length hz
  rw[List.length_append,List.length_cons]at hl
  kst_mem
  refine zKm G _ x.2 (Nat.le_of_eq (zD2 _ _)) hp ?_
  kst_mem
  refine zNx G s1 x.1 ?_
  refine zKm G _ _ (zEz hp) (Nat.le_of_eq (zD2 _ _)) ?_
  refine zM8 m1 (by rw[List.length_map,group,List.length_map];omega) ((hK _ _ ⟨zs++[x],by rw[List.append_assoc];exact hz,by kst_p,by kst_p,by kst_p,Mt.at_ (by rw[group,group,List.map_append,List.map_append];rfl),S.put ha⟩))
omit G in
def DigI(m:Mt)(bases:List Nat)(N:Nat)(a:Addr)(ys:List Nat)(loc:Loc)(mu:Mt):Prop:=∃(N':Nat) (acc:List Nat),look loc 28209471649=some (.ref a)/\look loc 4136611441551=some (.int (N':Nat))/\mu a=some (.lst (acc.map eN))/\Sub m mu/\acc++zCk N' ys=zCk N bases/\(∀ b∈ys,0<b/\b<=1000)/\acc.length+ys.length<=1000
theorem zFr(bases:List Nat)(N:Nat)(hd:asL m db=some (bases.map eN))(hb:∀ b∈bases,0<b/\b<=1000)(hs:bases.length<=1000)(h:Q (.lst ((zCk N bases).map eN)) m):zA4 W 45 (n+1) 325 [.int (N:Nat),db] m Q X:=by
 refine G.fn G.k_law_digits .nil rfl ?_
 intro a ha
 have S0:Sub m (m.set a (.lst [])):=Sub.rfl.new ha
 refine zDi eN (lo:=λx loc=>put loc 220905375 (eN x)) (DigI m bases N a)
  (zBb (zB0 S0 hd)) (zEv hd) (λU U U=>rfl) ⟨N,[],rfl,rfl,Mt.set_self _ _ _,S0,rfl,hb,by rw[List.length_nil];omega⟩ (λU U U=>e27 λU U U U U S U U U=>zBr (zB0 S hd)) (λloc mu=>e27 λN' acc h1 h2 m1 S he hb hl=>?_) λx xs loc mu K p hK=>e27 (λN' acc h1 h2 m1 S he hb hl=>?_) p
 ·rw[zCk,List.append_nil]at he
  kst_mem
  exact fin (S.list m1 ha) (he▸h)
 ·have hb0:=hb x (.head _)
  rw[List.length_cons]at hl
  kst_mem
  refine zWe (Int.ofNat_lt.mpr hb0.1) ?_
  refine zM8 m1 (by rw[List.length_map];exact n66 hl) ?_
  kst_mem
  refine zSb (Int.ofNat_lt.mpr hb0.1) (zA7 (by omega)) ?_
  exact((hK _ _ ⟨N' / x,acc++[N' % x],by kst_p,by kst_p,Mt.at_ (by rw[List.map_append];rfl),S.put ha,by rw[<-he,zCk,List.append_assoc];rfl,λc hc=>hb c (.tail _ hc),by rw[List.length_append];simp;exact n67 hl⟩))
end
section
theorem zMb:∀ k:Nat,upTo k ((k:Int)-1) (-1)=(List.range k).reverse.map eN
 |0=>rfl
 |k+1=>by
  rw[List.range_succ,List.reverse_append]
  simp only[upTo,List.reverse_cons,List.reverse_nil,List.nil_append,List.cons_append,List.map_cons]
  rw[<-zMb k]
  have e:((k+1:Nat):Int)-1=(k:Int):=n58
  rw[e];rfl
theorem zO4(k:Nat):rngLen ((k:Int)-1) (-1) (-1)=k:=by
 unfold rngLen Builtin.Range.rangeSize
 simp
 try (split<;>omega)
theorem zUf(m:Mt)(k:Nat):zE0 m (.rng ((k:Int)-1) (-1) (-1))=some ((List.range k).reverse.map eN):=by
 simp only[zE0,zO4,zMb]
variable {W:Wd}(G:Gd W){n:Nat}{m:Mt}{Q X:DV->Mt->Prop}
theorem asL_new{mu:Mt}{a:Addr}{l:List DV}:asL (mu.set a (.lst l)) (.ref a)=some l:=zA3 (Mt.set_self _ _ _)
omit G in
theorem zPu{loc:Loc}{mu:Mt}{dm:DV}{L M:List Way}{p:Way}{lazy:Bool}(h0:look loc 3636518804617=some (.ref l))(h1:look loc 566630696248834=some (.bool lazy))(h2:look loc 1695162=some (.int (p.1:Nat)))(h3:look loc 253056312=some (eK p.2))(h4:look loc 220890551=some dm)
  (hm:asL mu dm=some (M.map eW)) (hl:mu l=some (.lst (L.map eW))) (sM:M.length<=1000) (sL:L.length<=1000)
  (K:∀ mu',Sub mu mu'->run .nil e [] loc (mu'.set l (.lst ((L++(if lazy then[p]++M else M++[p])).map eW)))):run (xSs zGw .nil) e [] loc mu:=by
 delta zGw
 have fin:∀{mu':Mt} {R:List DV} {c:Addr},Sub mu mu'->mu' c=none->R=(if lazy then[p]++M else M++[p]).map eW->run (.mcall 1 (.pop .nil)) e [.ref c,.int 2,.ref l] loc (mu'.set c (.lst R)):=λS hc e=>by
  subst e
  refine yAf (Mt.keep (Mt.ne_of (S _ _ hl) hc) (S _ _ hl)) asL_new (by cases lazy<;>simp<;>omega) ?_
  have:=K _ (S.new (o:=.lst ((if lazy then[p]++M else M++[p]).map eW)) hc)
  rw[List.map_append]at this
  exact this
 kst_mem
 refine zGl (λq=>?_) λq=>?_
 ·kst_mem
  intro b hb
  kst_mem
  refine zH0 (l:=[p].map eW) asL_new (zB0 (Sub.rfl.new hb) hm) (by simp;omega) λc hc=>fin (Sub.rfl.new hb) hc ?_
  rw[if_pos q,List.map_append]
 ·kst_mem
  intro b hb
  refine yEf (l':=[p].map eW) (zB0 (Sub.rfl.new hb) hm) asL_new (by simp;exact nLit sM rfl) λc hc=>fin (Sub.rfl.new hb) hc ?_
  rw[if_neg (by rw[q];decide),List.map_append]
def yJg(m:Mt)(t:zAa)(lazy:Bool)(N:Nat)(dt:DV)(a:Addr)(ys:List Nat)(loc:Loc)(mu:Mt):Prop:=∃(zs:List Nat) (f:zAa),zs++ys=(List.range N).reverse/\f=zs.foldl (zAi t lazy) (t.map λU=>[])/\WfT N f/\look loc 28209471649=some (.ref a)/\look loc 28481783181=some dt/\look loc 566630696248834=some (.bool lazy)/\mu a=some (.lst (f.map eWs))/\Sub m mu
def yJf(m:Mt)(f:zAa)(w:List Way)(lazy:Bool)(dt:DV)(a l:Addr)(at_:Nat)(us:List Way)(loc:Loc)(mu:Mt):Prop:=∃ vs:List Way,vs++us=w/\look loc 3636518804617=some (.ref l)/\look loc 15191=some (.int (at_:Nat))/\look loc 28209471649=some (.ref a)/\look loc 28481783181=some dt/\look loc 566630696248834=some (.bool lazy)/\mu l=some (.lst ((vs.flatMap (loopOne f lazy at_)).map eW))/\mu a=some (.lst (f.map eWs))/\Sub m mu
include G
theorem zPb(t:zAa)(lazy:Bool)(ht:asL m dt=some (t.map eWs))(N:Nat)(hN:N<=5)(wf:WfT N t)(h:Q (.lst ((loops t lazy).map eWs)) m):zA4 W 45 (n+3) 366 [dt,.bool lazy] m Q X:=by
 refine G.fn G.k_law_loops .nil rfl ?_
 have hN':(t.map eWs).length=N:=(List.length_map ..).trans wf.1
 refine zDj (l:=t) eWs (λU=>.lst []) (zBb ht) (zEv ht) (by rw[wf.1];exact nLit hN rfl) (zBr ht) (λU=>rfl) (λx hx K hK b hb=>zIk (Fz.new hb) hK) λa ha=>?_
 have S0:Sub m (m.set a (.lst (t.map λU=>.lst []))):=Sub.rfl.new ha
 refine zDh (k:=N) (by rw[zCc (zB0 S0 ht),hN']) (nLit hN rfl) ?_
 refine yE6 (a:=(N:Int)-1) (b:=-1) (c:=-1) (by unfold bigI;omega) (by unfold bigI;omega) (.inr rfl) ?_
 refine zDi (l:=(List.range N).reverse) eN (lo:=λx loc=>put loc 15191 (eN x)) (yJg m t lazy N dt a)
  (zUf _ N) ⟨by unfold bigI;omega,by unfold bigI;omega,.inr rfl⟩ (λU U U=>rfl) ⟨[],t.map λU=>[],rfl,rfl,⟨by rw[List.length_map,wf.1],λl hl=>(List.mem_map.mp hl).elim λU q=>q.2▸.nil⟩,rfl,rfl,rfl,Mt.at_ (by rw[List.map_map];rfl),S0⟩ (λU U U U=>trivial)
  (λloc mu=>e28 λzs f hz hf wf' h1 h2 h3 m1 S=>?_) λat_ xs loc mu K p hK=>e28 (λzs f hz hf wf' h1 h2 h3 m1 S=>?_) p
 ·kst_mem
  rw[List.append_nil]at hz
  have e:f=loops t lazy:=by rw[hf,hz];unfold loops;rw[wf.1]
  exact fin (S.list m1 ha) (e▸h)
 ·have hat:at_<N:=List.mem_range.mp (List.mem_reverse.mp (hz▸List.mem_append_right _ (.head _)))
  have wr:=zCi wf at_
  intro l hl
  have S1:Sub m (mu.set l (.lst [])):=S.new hl
  have hml:=S.absent hl
  have nla:=Mt.ne_of m1 hl
  kst_mem
  refine zCq (l:=t.map eWs) (i:=at_) (d:=eWs (row t at_)) (zB0 S1 ht) (nLtl hat hN rfl) (by rw[List.getElem?_map,zI6 (by rw[wf.1];exact hat)];rfl) ?_
  refine zDi (l:=row t at_) eW (lo:=λx loc=>put (put loc 1695162 (.int (x.1:Nat))) 253056312 (eK x.2)) (yJf m f (row t at_) lazy dt a l at_)
   rfl trivial (λU U U=>rfl) ⟨[],rfl,by kst_p,by kst_p,by kst_p,by kst_p,by kst_p,Mt.set_self _ _ _,Mt.keep nla m1,S1⟩ (λU U U U=>trivial)
   (λloc mu=>e19 λvs hv g1 g2 g3 g4 g5 n1 n2 S=>?_) λx us loc mu K' p hK'=>e19 (λvs hv g1 g2 g3 g4 g5 n1 n2 S=>?_) p
  ·rw[List.append_nil]at hv
   have lenv:(vs.flatMap (loopOne f lazy at_)).length<=1000:=Nat.le_trans (zLj (c:=6) (λp=>zFk hN wf') vs) (by have:=congrArg List.length hv;have:=wr.1;omega)
   kst_mem
   refine zFq G _ (zA3 n1) lenv ?_
   kst_mem
   refine yE5 n2 (by rw[List.length_map,wf'.1];exact hat) (by rw[List.length_map,wf'.1];exact nLit hN rfl) ((hK _ _ ⟨zs++[at_],zAi t lazy f at_,by rw[List.append_assoc];exact hz,by rw[List.foldl_append,<-hf];rfl,zIb hN wf wf',g3,g4,g5,Mt.at_ ?_,S.put ha⟩))
   unfold zAi;rw[<-hv,List.map_set]
  ·have hp:=wr.2 x (hv▸List.mem_append_right _ (.head _))
   have len1:(loopOne f lazy at_ x).length<=6:=zFk hN wf'
   have lenv:(vs.flatMap (loopOne f lazy at_)).length<=30:=Nat.le_trans (zLj (c:=6) (λp=>zFk hN wf') vs) (by have q:=congrArg List.length hv;have:=wr.1;rw[List.length_append,List.length_cons]at q;omega)
   have next:∀{mu₁ mu':Mt} {loc:Loc} {R:List Way},look loc 3636518804617=some (.ref l)->look loc 15191=some (.int (at_:Nat))->look loc 28209471649=some (.ref a)->look loc 28481783181=some dt->look loc 566630696248834=some (.bool lazy)->
     Sub mu mu₁->Sub mu₁ mu'->loopOne f lazy at_ x=R->K' ⟨loc,mu'.set l (.lst ((vs.flatMap (loopOne f lazy at_)++R).map eW))⟩:=λa1 a2 a3 a4 a5 Sa Sb e=>
    hK' _ _ ⟨vs++[x],by rw[List.append_assoc];exact hv,a1,a2,a3,a4,a5,Mt.at_ (by rw[List.flatMap_append,List.flatMap_cons,List.flatMap_nil,List.append_nil,e]),Mt.keep nla (Sb _ _ (Sa _ _ n2)),(S.trans (Sa.trans Sb)).put hml⟩
   kst_mem
   refine zBk (p:=(at_:Int)<(x.1:Int)) (λhd=>?_) λhd=>?_
   ·kst_mem
    intro c hc
    kst_mem
    refine zMk G [x] f asL_new (zA3 (Mt.keep (Mt.ne_of n2 hc) n2)) (λp hp'=>by rw[List.mem_singleton.mp hp',wf'.1];exact hp) (λl hl=>⟨(wf'.2 l hl).1,λp hp=>((wf'.2 l hl).2 p hp).2⟩) (Nat.le_of_ble_eq_true rfl) (by rw[wf'.1];exact hN) ?_
    have lj:=(zG5 (l:=[x]) hN wf').1
    refine zPu (l:=l) (p:=x) (lazy:=lazy) (M:=joined [x] f) (by kst_p) (by kst_p) (by kst_p) (by kst_p) (by kst_p) rfl (Mt.keep (Mt.ne_of n1 hc) n1) (nLit lj rfl) (nLit lenv rfl) λmu' Sm=>?_
    exact(next (by kst_p) (by kst_p) (by kst_p) (by kst_p) (by kst_p) (Sub.rfl.new hc) Sm (by unfold loopOne;rw[if_pos (Int.ofNat_lt.mp hd)]))
   ·intro c hc
    refine zPu (l:=l) (p:=x) (lazy:=lazy) (M:=[]) (by kst_p) (by kst_p) (by kst_p) (by kst_p) (by kst_p) asL_new (Mt.keep (Mt.ne_of n1 hc) n1) (by decide) (nLit lenv rfl) λmu' Sm=>?_
    exact(next (by kst_p) (by kst_p) (by kst_p) (by kst_p) (by kst_p) (Sub.rfl.new hc) Sm (by unfold loopOne;rw[if_neg (λq=>hd (Int.ofNat_lt.mpr q))]))
end
section
def eT(t:zAa):DV:=.lst (t.map eWs)
theorem zTo{text:List Nat}{k:Nat}(h:k<text.length)(hb:∀ x∈text,x<256):nthB (text.map UInt8.ofNat).toArray (k:Int)=some (.int (text.getD k 0:Nat)):=by
 show((text.map UInt8.ofNat).toArray.toList[k]?).map _=_
 rw[List.toList_toArray,List.getElem?_map,List.getElem?_eq_getElem h,List.getD_eq_getElem?_getD,List.getElem?_eq_getElem h]
 have:=hb _ (List.getElem_mem h)
 simp
 exact congrArg DV.int (by omega)
theorem zQt(t:zAa):(List.range t.length).map (row t)=t:=by
 apply List.ext_getElem
 ·simp
 ·intro i h1 h2
  simp[row,h2]
variable {W:Wd}(G:Gd W){n:Nat}{m:Mt}{Q X:DV->Mt->Prop}
theorem zOf(hl:Wf N l)(ht:WfT N t):(∀ p∈l,p.1<t.length/\p.2.length<=4)/\(∀ l∈t,l.length<=5/\∀ p∈l,p.2.length<=4):=
 ⟨λp hp=>by rw[ht.1];exact hl.2 p hp,λl hl=>⟨(ht.2 l hl).1,λp hp=>((ht.2 l hl).2 p hp).2⟩⟩
theorem hit(m:Mt)(k:Nat):zE0 m (.rng 0 (Int.ofNat k+1) 1)=some ((List.range (k+1)).map λi=>.int (i:Nat)):=zGq m (k+1)
theorem zKb{e:En}{r b:C}{loc:Loc}{lo:Nat->Loc}{x:Nat}(k:Nat)(f:Nat->List Way)(hk:k<=4)(hb:∀ a:Nat,bindC loc m (.one x) (.int (a:Nat))=some (lo a))(hB:∀ a,a<k+1->∀ K:Option DV->Mt->Prop,K (some (eWs (f a))) m->run b (e.cmp K) [] (lo a) m)
  (h:∀ A,m A=none->run r e (.ref A::s) loc (m.set A (.lst (((List.range (k+1)).map f).map eWs)))):cpI m (.rng 0 (Int.ofNat k+1) 1) (λl=>zD4 (.rng 0 (Int.ofNat k+1) 1)/\small l.length/\zEc (zB6 (.rng 0 (Int.ofNat k+1) 1) l) (λd K m=>opt (bindC loc m (.one x) d) λlo=>run b (e.cmp K) [] lo m) loc (λd V=>run r e (d::s) V.loc V.mu) l [] m):=
 zDj (l:=List.range (k+1)) (λi=>.int (i:Nat)) (λa=>eWs (f a)) (hit m k) ⟨zA7 (k:=0) (n5),zA7 (k:=k+1) (n17 hk),.inl rfl⟩ (by rw[List.length_range];exact n17 hk) trivial hb (λa ha=>hB a (List.mem_range.mp ha)) (by rw[List.map_map]at h;exact h)
theorem finT(h:Q (eT t) m)(hA:m A=none):run .ret (fnE W n Q X) [.ref A] loc (m.set A (.lst (t.map eWs))):=fin (Fz.new hA) h
theorem zQk(h:asL m o=some (tt.map eWs))(wf:WfT k tt)(hk:k<=5)(ha:a<k)(q:run r e (eWs (row tt a)::s) loc m):subX m o (.int (a:Nat)) λd=>run r e (d::s) loc m:=
 zCq h (nLtl ha hk rfl) (by rw[List.getElem?_map,zI6 (by rw[wf.1];exact ha)];rfl) q
theorem zM7(k:Nat)(hi:i=(k:Int))(ht:asL m dt=some (tables.map eT))(hk:k<tables.length)(hl:tables.length<=2)(q:run r e (eT (tab tables k)::s) loc m):subT m dt i λd=>run r e (d::s) loc m:=
 zBv k hi ht (nLtl hk hl rfl) (by rw[List.getElem?_map,List.getElem?_eq_getElem hk];unfold tab;rw[List.getD_eq_getElem?_getD,List.getElem?_eq_getElem hk];rfl) q
theorem lenB(text:List Nat):lenV m (eB text)=some text.length:=by show some _=_;simp
include G
theorem zPs{loc:Loc}(text:List Nat)(lazy:Bool)(tt:zAa)(hL:text.length<=4)(wf:WfT (text.length+1) tt)(h1:look loc 566630696248834=some (.bool lazy))(h2:look loc 28481783181=some (eT tt))(h3:look loc 4172336439038=some (.rng 0 (Int.ofNat text.length+1) 1))
  (h:Q (eT ((List.range (text.length+1)).map λa=>first (if lazy then[(a,zAc)]++row tt a else row tt a++[(a,zAc)]))) m):run (xSs zGv .nil) (fnE W (n+3) Q X) [] loc m:=by
 delta zGv
 kst_mem
 refine zGl (λq=>?_) λq=>?_
 ·kst_mem
  refine zKb text.length _ hL (λU=>rfl) (λa ha K hK=>?_) λA hA=>finT h hA
  have w1:=(zCi wf a).1
  refine zGk G ?_
  intro b hb
  kst_mem
  refine zQk (zB0 (m:=m) (Sub.rfl.new hb) rfl) wf (n2 hL) ha ?_
  refine zH0 (l:=[(a,zAc)].map eW) (l':=(row tt a).map eW) asL_new (by rfl) (by rw[List.length_map,List.length_map];exact Nat.le_trans (Nat.add_le_add_left w1 _) (Nat.le_of_ble_eq_true rfl)) λc hc=>?_
  rw[if_pos q]at hK
  refine zFq G ([(a,zAc)]++row tt a) (zA3 (Mt.at_ List.map_append.symm)) (by rw[List.length_append];exact Nat.le_trans (Nat.add_le_add_left w1 _) (Nat.le_of_ble_eq_true rfl)) ?_
  exact zIk (Sub.fz ((Sub.rfl.new hb).new hc)) hK
 ·kst_mem
  refine zKb text.length _ hL (λU=>rfl) (λa ha K hK=>?_) λA hA=>finT h hA
  have w1:=(zCi wf a).1
  kst_mem
  refine zQk (m:=m) rfl wf (n2 hL) ha ?_
  refine zGk G ?_
  intro b hb
  refine zH0 (l:=(row tt a).map eW) (l':=[(a,zAc)].map eW) (by rfl) asL_new (by rw[List.length_map,List.length_map];exact Nat.le_trans (Nat.add_le_add_right w1 _) (Nat.le_of_ble_eq_true rfl)) λc hc=>?_
  rw[if_neg (by rw[q];decide)]at hK
  refine zFq G (row tt a++[(a,zAc)]) (zA3 (Mt.at_ List.map_append.symm)) (by rw[List.length_append];exact Nat.le_trans (Nat.add_le_add_right w1 _) (Nat.le_of_ble_eq_true rfl)) ?_
  exact zIk (Sub.fz ((Sub.rfl.new hb).new hc)) hK
set_option maxHeartbeats 1000000 in
theorem zWt{dt dh:DV}(o:Ord)(tables:List zAa)(r:Row)(text holds:List Nat)(ht:asL m dt=some (tables.map eT))(hh:asL m dh=some (holds.map eN))(hL:text.length<=4)(hT:∀ x∈text,x<256)(hH:holds.length=5)(wf:∀ t∈tables,WfT (text.length+1) t)(hm:tables.length=many o)(h:Q (eT (meant o tables r text holds)) m):zA4 W 45 (n+4) 371 [eO o,dt,eR r,eB text,dh] m Q X:=by
 refine G.fn G.k_law_meant .nil rfl ?_
 refine zDh (lenB text) (nLit hL rfl) (zP4 (zA7 (k:=text.length+1) (n17 hL)) ?_)
 have h2:tables.length<=2:=by rw[hm];cases o<;>decide
 cases o with
 |none=>exact zKb text.length (λU=>[]) hL (λU=>rfl) (λa ha K hK b hb=>zIk (Fz.new hb) hK) λA hA=>finT h hA
 |nop=>
  refine zKb text.length (λa=>[(a,zAc)]) hL (λU=>rfl) (λa ha K hK=>?_) λA hA=>finT h hA
  refine zGk G ?_
  exact λb hb=>zIk (Fz.new hb) hK
 |empty=>
  refine zKb text.length (λa=>if zDd r.bits holds a then[(a,zAc)]else[]) hL (λU=>rfl) (λa ha K hK=>?_) λA hA=>finT h hA
  refine zCq (l:=holds.map eN) (d:=eN (holds.getD a 0)) hh (by omega) (by rw[List.getElem?_map,List.getElem?_eq_getElem (n30 ha hH hL),List.getD_eq_getElem?_getD,List.getElem?_eq_getElem (n30 ha hH hL)];rfl) ?_
  refine zSc (i:=holds.getD a 0) (j:=r.bits) (zBk (p:=Int.ofNat (holds.getD a 0&&& r.bits)=(r.bits:Int)) (λhd=>?_) λhd=>?_)
  ·rw[zDd,decide_eq_true (Int.ofNat.inj hd),if_pos rfl]at hK
   refine zGk G ?_
   exact λb hb=>zIk (Fz.new hb) hK
  ·rw[zDd,decide_eq_false (λq=>hd (congrArg Int.ofNat q)),if_neg (by decide)]at hK
   exact λb hb=>zIk (Fz.new hb) hK
 |range=>
  refine zKb text.length (λa=>if zC9 r.lo r.hi r.fold text a then[(a+1,zAc)]else[]) hL (λU=>rfl) (λa ha K hK=>?_) λA hA=>finT h hA
  refine zDh (lenB text) (nLit hL rfl) (zBk (p:=(a:Int)<(text.length:Nat)) (λhd=>?_) λhd=>?_)
  ·have hd:=Int.ofNat_lt.mp hd
   rw[zC9,decide_eq_true hd,Bool.true_and]at hK
   refine zZl (zA7 (by omega)) (zAq (by simp;exact nLit hL rfl)) (zTo hd hT) ?_
   refine zSr G _ _ _ _ ?_
   refine zGl (λhf=>?_) λhf=>?_
   ·rw[if_pos hf]at hK
    refine zGk G ?_
    exact λb hb=>zIk (Fz.new hb) hK
   ·rw[if_neg (by rw[hf];decide)]at hK
    exact λb hb=>zIk (Fz.new hb) hK
  ·rw[zC9,decide_eq_false (λq=>hd (Int.ofNat_lt.mpr q)),Bool.false_and,if_neg (by decide)]at hK
   exact λb hb=>zIk (Fz.new hb) hK
 |cat=>
  refine zKb text.length (λa=>joined (row (tab tables 0) a) (tab tables 1)) hL (λU=>rfl) (λa ha K hK=>?_) λA hA=>finT h hA
  have hm:tables.length=2:=hm
  have w0:=zH2 wf 0 (n12 hm)
  have w1:=zCi w0 a
  have w2:=zH2 wf 1 (n13 hm)
  have jc:=zOf w1 w2
  refine zM7 0 rfl ht (n12 hm) h2 (zQk (m:=m) rfl w0 (n2 hL) ha (zM7 1 rfl ht (n13 hm) h2 ?_))
  refine zMk G _ _ rfl rfl jc.1 jc.2 w1.1 (by rw[w2.1];exact n2 hL) ?_
  exact finC hK
 |alt=>
  refine zKb text.length (λa=>first (row (tab tables 0) a++row (tab tables 1) a)) hL (λU=>rfl) (λa ha K hK=>?_) λA hA=>finT h hA
  have hm:tables.length=2:=hm
  have w0:=zH2 wf 0 (n12 hm)
  have w1:=zH2 wf 1 (n13 hm)
  have l:(row (tab tables 0) a).length+(row (tab tables 1) a).length<=10:=Nat.add_le_add (zCi w0 a).1 (zCi w1 a).1
  refine zM7 0 rfl ht (n12 hm) h2 (zQk (m:=m) rfl w0 (n2 hL) ha (zM7 1 rfl ht (n13 hm) h2 (zQk (m:=m) rfl w1 (n2 hL) ha ?_)))
  refine zH0 (l:=(row (tab tables 0) a).map eW) (l':=(row (tab tables 1) a).map eW) (by rfl) (by rfl) (by rw[List.length_map,List.length_map];exact nLit l rfl) λb hb=>?_
  refine zFq G (row (tab tables 0) a++row (tab tables 1) a) (zA3 (Mt.at_ List.map_append.symm)) (by rw[List.length_append];exact nLit l rfl) ?_
  exact zIk (Sub.fz (Sub.rfl.new hb)) hK
 |capture=>
  refine zKb text.length (λa=>group (row (tab tables 0) a) a r.s0 r.s1) hL (λU=>rfl) (λa ha K hK=>?_) λA hA=>finT h hA
  have hm:tables.length=1:=hm
  have w0:=zH2 wf 0 (n4 hm)
  have w1:=zCi w0 a
  refine zM7 0 rfl ht (n4 hm) h2 (zQk (m:=m) rfl w0 (n2 hL) ha ?_)
  refine zWw G _ a _ _ rfl (λp hp=>(w1.2 p hp).2) (by have:=w1.1;exact nLit this rfl) ?_
  exact finC hK
 |plus=>
  have hm:tables.length=1:=hm
  have w0:=zH2 wf 0 (n4 hm)
  refine zM7 0 rfl ht (n4 hm) h2 ?_
  refine zPb G _ r.lazy rfl (text.length+1) (n2 hL) w0 ?_
  have e:meant .plus tables r text holds=loops (tab tables 0) r.lazy:=by
   conv=>rhs;rw[<-zQt (loops (tab tables 0) r.lazy),(zL3 (lazy:=r.lazy) (n2 hL) w0).1]
   rfl
  rw[e]at h
  exact fin0 h
 |quest=>
  have hm:tables.length=1:=hm
  refine zM7 0 rfl ht (n4 hm) h2 ?_
  exact zPs G text r.lazy (tab tables 0) hL (zH2 wf 0 (n4 hm)) (by rfl) (by rfl) (by rfl) h
 |star=>
  have hm:tables.length=1:=hm
  have w0:=zH2 wf 0 (n4 hm)
  refine zM7 0 rfl ht (n4 hm) h2 ?_
  refine zPb G _ r.lazy rfl (text.length+1) (n2 hL) w0 ?_
  exact zPs G text r.lazy (loops (tab tables 0) r.lazy) hL (zL3 (n2 hL) w0) (by rfl) (by rfl) (by rfl) h
end
section
theorem inL(h:mu A=some (.lst l)):cmpV mu .inn d (.ref A)=memV d l:=by
 show ob none (mu A) (inO d)=_
 rw[h];rfl
variable {W:Wd}(G:Gd W){n:Nat}{m:Mt}{Q X:DV->Mt->Prop}
include G
theorem zWs(o:Ord)(shapes:List zJ8)(hs:asL m ds=some (shapes.map eS))(hm:shapes.length=many o)(h:Q (.int (needs o shapes:Nat)) m):zA4 W 45 (n+1) 376 [eO o,ds] m Q X:=by
 refine G.fn G.k_law_needs .nil rfl ?_
 have hl:shapes.length<=2:=by rw[hm];cases o<;>decide
 refine zDj (l:=shapes) eS (λs=>.bool s.1) (zBb hs) (zEv hs) (nLit hl rfl) (zBr hs) (λU=>rfl) (λs U K hK=>finC hK) λa ha=>?_
 have S0:Sub m (m.set a (.lst (shapes.map λs=>.bool s.1))):=Sub.rfl.new ha
 have ma:=Mt.set_self m a (.lst (shapes.map λs=>.bool s.1))
 cases o with
 |alt=>
  obtain⟨⟨a1,b1⟩,⟨a2,b2⟩,rfl⟩:=len2 hm
  cases a1
  ·cases a2
   ·exact zNa ((inL ma).trans rfl) (fin (Sub.fz S0) h)
   ·exact zOh ((inL ma).trans rfl) (fin (Sub.fz S0) h)
  ·cases a2<;>exact zOh ((inL ma).trans rfl) (fin (Sub.fz S0) h)
 |plus=>
  obtain⟨⟨a1,b1⟩,rfl⟩:=len1 hm
  cases a1
  ·exact zNa ((inL ma).trans rfl) (fin (Sub.fz S0) h)
  ·exact zOh ((inL ma).trans rfl) (fin (Sub.fz S0) h)
 |capture=>
  obtain⟨⟨a1,b1⟩,rfl⟩:=len1 hm
  cases a1
  ·exact zNa ((inL ma).trans rfl) (fin (Sub.fz S0) h)
  ·exact zOh ((inL ma).trans rfl) (fin (Sub.fz S0) h)
 |star=>
  obtain⟨⟨a1,b1⟩,rfl⟩:=len1 hm
  refine zBv 0 rfl (zB0 S0 hs) (n5) rfl ?_
  cases b1<;>exact fin (Sub.fz S0) h
 |_=>exact fin (Sub.fz S0) h
theorem zWr(o:Ord)(shapes:List zJ8)(hs:asL m ds=some (shapes.map eS))(hm:shapes.length=many o)(h:Q (eS (zMm o shapes)) m):zA4 W 45 (n+1) 383 [eO o,ds] m Q X:=by
 refine G.fn G.k_law_shape .nil rfl ?_
 cases o with
 |plus=>
  obtain⟨s,rfl⟩:=len1 hm
  exact zBv 0 rfl hs (Nat.zero_le _) rfl (fin0 (d:=eS s) h)
 |capture=>
  obtain⟨s,rfl⟩:=len1 hm
  exact zBv 0 rfl hs (Nat.zero_le _) rfl (fin0 (d:=eS s) h)
 |cat=>
  obtain⟨⟨a1,b1⟩,⟨a2,b2⟩,rfl⟩:=len2 hm
  refine zBv 0 rfl hs (Nat.zero_le _) rfl ?_
  cases a1 with
  |true=>exact fin0 (d:=eS (true,false)) h
  |false=>
   refine zBv 1 rfl hs (Nat.le_of_ble_eq_true rfl) rfl ?_
   cases a2 with
   |true=>exact fin0 (d:=eS (true,false)) h
   |false=>
    refine zBv 0 rfl hs (Nat.zero_le _) rfl ?_
    cases b1 with
    |false=>exact fin0 (d:=eS (false,false)) h
    |true=>exact zBv 1 rfl hs (Nat.le_of_ble_eq_true rfl) rfl (fin0 (d:=eS (false,b2)) h)
 |alt=>
  obtain⟨⟨a1,b1⟩,⟨a2,b2⟩,rfl⟩:=len2 hm
  refine zBv 0 rfl hs (Nat.zero_le _) rfl ?_
  cases a1 with
  |false=>
   refine zBv 0 rfl hs (Nat.zero_le _) rfl ?_
   cases b1 with
   |true=>exact fin0 (d:=eS (false,true)) h
   |false=>exact zBv 1 rfl hs (Nat.le_of_ble_eq_true rfl) rfl (fin0 (d:=eS (false,b2)) h)
  |true=>
   refine zBv 1 rfl hs (Nat.le_of_ble_eq_true rfl) rfl (zBv 0 rfl hs (Nat.zero_le _) rfl ?_)
   cases b1 with
   |true=>exact fin0 (d:=eS (a2,true)) h
   |false=>exact zBv 1 rfl hs (Nat.le_of_ble_eq_true rfl) rfl (fin0 (d:=eS (a2,b2)) h)
 |none=>exact fin0 (d:=eS (true,false)) h
 |range=>exact fin0 (d:=eS (false,false)) h
 |_=>exact fin0 (d:=eS (false,true)) h
end
noncomputable def insN:List Nat:=[14689,1962331,1745597,2011477,227146788,7806419509700087986,543339266573686]
noncomputable def Ins.vals(i:Ins):List DV:=[.int (i.op:Nat),.int (i.out:Nat),.int (i.arg:Nat),.int (i.low:Nat),.int (i.high:Nat),.bool i.fold,.bool false]
structure Lay where
 M:Addr
 D:Addr
 L:Addr
 ps:List (Addr×Addr)
structure Mk(l:Lay)(most:Nat)(is:List Ins)(r m:Mt):Prop where
 hM:m l.M=some (.inst 200 l.D)
 hD:m l.D=some (.attrs [253107527,32376161590] [.int (most:Nat),.ref l.L])
 hL:m l.L=some (.lst (l.ps.map λp=>.ref p.1))
 len:l.ps.length=is.length
 hI:∀ k p,l.ps[k]?=some p->m p.1=some (.inst 65 p.2)/\m p.2=some (.attrs insN (zA0 is k).vals)
 nd1:(l.ps.map (·.1)).Nodup
 nd2:(l.ps.map (·.2)).Nodup
 out:∀ b,b≠l.M->b≠l.D->b≠l.L->(∀ p∈l.ps,b≠p.1/\b≠p.2)->m b=r b
 dis:r l.M=none/\r l.D=none/\r l.L=none/\∀ p∈l.ps,r p.1=none/\r p.2=none
theorem Mk.at(H:Mk l most is r m)(hk:k<is.length):∃ p,l.ps[k]?=some p/\m p.1=some (.inst 65 p.2)/\m p.2=some (.attrs insN (zA0 is k).vals):=by
 have:k<l.ps.length:=by rw[H.len];exact hk
 exact⟨l.ps[k],List.getElem?_eq_getElem this,H.hI k _ (List.getElem?_eq_getElem this)⟩
theorem zTt{α:Type}{l:List α}(nd:l.Nodup){i j:Nat}{x:α}(hi:l[i]?=some x)(hj:l[j]?=some x):i=j:=by
 obtain⟨h1,e1⟩:=List.getElem?_eq_some_iff.mp hi
 obtain⟨h2,e2⟩:=List.getElem?_eq_some_iff.mp hj
 exact(List.getElem_inj nd).mp (e1.trans e2.symm)
theorem Mk.setI{l:Lay}{most:Nat}{is:List Ins}{r m:Mt}(H:Mk l most is r m){k:Nat}{p:Addr×Addr}(hp:l.ps[k]?=some p)(i:Ins):Mk l most (is.set k i) r (m.set p.2 (.attrs insN i.vals)):=by
 refine e02 (λh1 h2=>?_) (H.hI k p hp)
 have hk:k<is.length:=by rw[<-H.len];exact(List.getElem?_eq_some_iff.mp hp).1
 refine⟨?_,?_,?_,by rw[List.length_set];exact H.len,?_,H.nd1,H.nd2,?_,H.dis⟩
 ·rw[Mt.set_ne _ _ (λe=>by have:=H.hM;rw[e,h2]at this;cases this)];exact H.hM
 ·rw[Mt.set_ne _ _ (λe=>by have:=H.hD;rw[e,h2]at this;cases this)];exact H.hD
 ·rw[Mt.set_ne _ _ (λe=>by have:=H.hL;rw[e,h2]at this;cases this)];exact H.hL
 ·intro j q hq
  refine e02 (λg1 g2=>?_) (H.hI j q hq)
  refine⟨by rw[Mt.set_ne _ _ (λe=>by rw[e,h2]at g1;cases g1)];exact g1,?_⟩
  rw[zDr hk]
  by_cases e:j=k
  ·subst e
   rw[hp]at hq;cases hq
   rw[Mt.set_self,if_pos rfl]
  ·rw[if_neg e,Mt.set_ne _ _ (λe'=>e (zTt H.nd2 (x:=q.2) (by rw[List.getElem?_map,hq];rfl) (by rw[List.getElem?_map,hp,e'];rfl)))]
   exact g2
 ·intro b b1 b2 b3 b4
  rw[Mt.set_ne _ _ (b4 p (List.mem_of_getElem? hp)).2]
  exact H.out b b1 b2 b3 b4
theorem Mk.setMost(H:Mk l most is r m)(most':Nat):Mk l most' is r (m.set l.D (.attrs [253107527,32376161590] [.int (most':Nat),.ref l.L])):=by
 refine⟨?_,Mt.set_self _ _ _,?_,H.len,?_,H.nd1,H.nd2,?_,H.dis⟩
 ·rw[Mt.set_ne _ _ (λe=>by have:=H.hM;rw[e,H.hD]at this;cases this)];exact H.hM
 ·rw[Mt.set_ne _ _ (λe=>by have:=H.hL;rw[e,H.hD]at this;cases this)];exact H.hL
 ·intro j q hq
  refine e02 (λg1 g2=>?_) (H.hI j q hq)
  refine⟨by rw[Mt.set_ne _ _ (λe=>by rw[e,H.hD]at g1;cases g1)];exact g1,?_⟩
  rw[Mt.set_ne _ _ (λe=>by rw[e,H.hD]at g2;injection Option.some.inj g2 with q;exact absurd q (by decide))];exact g2
 ·intro b b1 b2 b3 b4
  rw[Mt.set_ne _ _ b2]
  exact H.out b b1 b2 b3 b4
theorem Mk.fresh(H:Mk l most is r m)(h:m a=none):a≠l.M/\a≠l.D/\a≠l.L/\(∀ p∈l.ps,a≠p.1/\a≠p.2):=by
 refine⟨(λe=>by rw[e,H.hM]at h;cases h),(λe=>by rw[e,H.hD]at h;cases h),(λe=>by rw[e,H.hL]at h;cases h),λp hp=>?_⟩
 refine e11 (λk hk=>?_) (List.getElem?_of_mem hp)
 refine e02 (λg1 g2=>?_) (H.hI k p hk)
 exact⟨(λe=>by rw[e,g1]at h;cases h),(λe=>by rw[e,g2]at h;cases h)⟩
theorem Mk.push(H:Mk l most is r m)(ha:m a=none)(hb:m b=none)(h1:mu a=some (.inst 65 b))(h2:mu b=some (.attrs insN i.vals))(h3:mu l.L=some (.lst (l.ps.map (λp=>.ref p.1)++[.ref a])))(h4:∀ c,c≠a->c≠b->c≠l.L->mu c=m c) :
  Mk {l with ps:=l.ps++[(a,b)]} most (is++[i]) r mu:=by
 refine e04 (λa1 a2 a3 a4=>?_) (H.fresh ha)
 refine e04 (λb1 b2 b3 b4=>?_) (H.fresh hb)
 have MD:l.M≠l.L:=λe=>by have:=H.hM;rw[e,H.hL]at this;cases this
 have DL:l.D≠l.L:=λe=>by have:=H.hD;rw[e,H.hL]at this;cases this
 refine⟨?_,?_,?_,by simp[H.len],?_,?_,?_,?_,?_⟩
 ·show mu l.M=_;rw[h4 _ a1.symm b1.symm MD];exact H.hM
 ·show mu l.D=_;rw[h4 _ a2.symm b2.symm DL];exact H.hD
 ·show mu l.L=_;rw[h3];simp
 ·intro k p hk
  by_cases g:k<l.ps.length
  ·have hk:l.ps[k]?=some p:=by rw[<-hk];exact(List.getElem?_append_left g).symm
   refine e02 (λg1 g2=>?_) (H.hI k p hk)
   have hp:=List.mem_of_getElem? hk
   rw[zB1,if_neg (by rw[<-H.len];exact Nat.ne_of_lt g)]
   rw[h4 _ (a4 p hp).1.symm (b4 p hp).1.symm (λe=>by rw[e,H.hL]at g1;cases g1),h4 _ (a4 p hp).2.symm (b4 p hp).2.symm (λe=>by rw[e,H.hL]at g2;cases g2)]
   exact⟨g1,g2⟩
  ·have:k=l.ps.length:=by
    have:=(List.getElem?_eq_some_iff.mp hk).1
    simp at this;exact Nat.eq_of_lt_succ_of_not_lt this g
   subst this
   have hk:some (a,b)=some p:=by rw[<-hk];simp
   cases hk
   rw[zB1,if_pos H.len]
   exact⟨h1,h2⟩
 ·rw[List.map_append,List.nodup_append]
  refine⟨H.nd1,by simp,λx hx y hy=>?_⟩
  obtain⟨p,hp,rfl⟩:=List.mem_map.mp hx
  simp at hy;subst hy
  exact(a4 p hp).1.symm
 ·rw[List.map_append,List.nodup_append]
  refine⟨H.nd2,by simp,λx hx y hy=>?_⟩
  obtain⟨p,hp,rfl⟩:=List.mem_map.mp hx
  simp at hy;subst hy
  exact(b4 p hp).2.symm
 ·intro c c1 c2 c3 c4
  have c5:=c4 (a,b) (by simp)
  rw[h4 c c5.1 c5.2 c3]
  exact H.out c c1 c2 c3 λp hp=>c4 p (by simp[hp])
 ·refine⟨H.dis.1,H.dis.2.1,H.dis.2.2.1,λp hp=>?_⟩
  rcases List.mem_append.mp hp with hp|hp
  ·exact H.dis.2.2.2 p hp
  ·simp at hp;subst hp
   exact⟨by rw[<-H.out a a1 a2 a3 a4];exact ha,by rw[<-H.out b b1 b2 b3 b4];exact hb⟩
theorem Mk.rest(H:Mk l most is r m):Sub r m:=by
 intro b o h
 rw[H.out b (λe=>by rw[e,H.dis.1]at h;cases h) (λe=>by rw[e,H.dis.2.1]at h;cases h) (λe=>by rw[e,H.dis.2.2.1]at h;cases h) (λp hp=>⟨(λe=>by rw[e,(H.dis.2.2.2 p hp).1]at h;cases h),(λe=>by rw[e,(H.dis.2.2.2 p hp).2]at h;cases h)⟩)]
 exact h
theorem Mk.grow(H:Mk l most is r m)(h1:∀ b,r b=none->m b≠none->m' b=m b/\r' b=none)(h2:∀ b,¬(r b=none/\m b≠none)->m' b=r' b):Mk l most is r' m':=by
 have K:∀ b o,r b=none->m b=some o->m' b=some o/\r' b=none:=λb o e1 e2=>by
  refine e02 (λg1 g2=>?_) (h1 b e1 (by rw[e2];simp))
  exact⟨g1.trans e2,g2⟩
 refine⟨(K _ _ H.dis.1 H.hM).1,(K _ _ H.dis.2.1 H.hD).1,(K _ _ H.dis.2.2.1 H.hL).1,H.len,λk p hp=>?_,H.nd1,H.nd2,λb b1 b2 b3 b4=>?_,(K _ _ H.dis.1 H.hM).2,(K _ _ H.dis.2.1 H.hD).2,(K _ _ H.dis.2.2.1 H.hL).2,λp hp=>?_⟩
 ·refine e02 (λg1 g2=>?_) (H.hI k p hp)
  have:=H.dis.2.2.2 p (List.mem_of_getElem? hp)
  exact⟨(K _ _ this.1 g1).1,(K _ _ this.2 g2).1⟩
 ·refine h2 b λe=>e.2 ?_
  rw[H.out b b1 b2 b3 b4];exact e.1
 ·refine e11 (λk hk=>?_) (List.getElem?_of_mem hp)
  refine e02 (λg1 g2=>?_) (H.hI k p hk)
  have:=H.dis.2.2.2 p hp
  exact⟨(K _ _ this.1 g1).2,(K _ _ this.2 g2).2⟩
section
theorem zPq{m:Mt}{x dx C:Addr}{vs:List DV}(h1:m x=some (.inst C dx))(h2:m dx=some (.attrs ns vs)):x≠dx:=λe=>by rw[e,h2]at h1;cases h1
variable {W:Wd}(G:Gd W){n:Nat}{m:Mt}{Q X:DV->Mt->Prop}
include G
theorem zNy{x dx:Addr}(op:Nat)(h1:m x=some (.inst 65 dx))(h2:m dx=some (.attrs [] []))(h:Q .none (m.set dx (.attrs insN (opI op).vals))):zA4 W 45 (n+1) 62 [.ref x,.int (op:Nat)] m Q X:=by
 have ne:=zPq h1 h2
 refine G.fn G.k_Inst_init (.cons (.int _ _) (.cons (.int _ _) (.cons (.int _ _) (.cons (.int _ _) (.cons (.bool _) .nil))))) rfl ?_
 exact zBt h1 h2 rfl rfl (zB7 h1 ne rfl rfl (zB7 h1 ne rfl rfl (zB7 h1 ne rfl rfl (zB7 h1 ne rfl rfl (zB7 h1 ne rfl rfl (zB7 h1 ne rfl rfl (fin0 h)))))))
theorem zWz{x dx:Addr}(f:Fr)(h1:m x=some (.inst 137 dx))(h2:m dx=some (.attrs [] []))(h:Q .none (m.set dx (.attrs [30967732746,250711086,131251851267392784618517] [.int (f.b:Nat),.tup [.int (f.e0:Nat),.int (f.e1:Nat)],.bool f.nl]))):zA4 W 45 (n+1) 134 [.ref x,.int (f.b:Nat),.tup [.int (f.e0:Nat),.int (f.e1:Nat)],.bool f.nl] m Q X:=by
 have ne:=zPq h1 h2
 refine G.fn G.k_Frag_init4 .nil rfl ?_
 exact zBt h1 h2 rfl rfl (zB7 h1 ne rfl rfl (zB7 h1 ne rfl rfl (fin0 h)))
theorem zX0{x dx:Addr}(b e0 e1:Nat)(h1:m x=some (.inst 137 dx))(h2:m dx=some (.attrs [] []))(h:Q .none (m.set dx (.attrs [30967732746,250711086,131251851267392784618517] [.int (b:Nat),.tup [.int (e0:Nat),.int (e1:Nat)],.bool false]))):zA4 W 45 (n+1) 134 [.ref x,.int (b:Nat),.tup [.int (e0:Nat),.int (e1:Nat)]] m Q X:=by
 have ne:=zPq h1 h2
 refine G.fn G.k_Frag_init3 (.cons (.bool _) .nil) rfl ?_
 exact zBt h1 h2 rfl rfl (zB7 h1 ne rfl rfl (zB7 h1 ne rfl rfl (fin0 h)))
theorem zX1{x dx:Addr}(b:Nat)(h1:m x=some (.inst 137 dx))(h2:m dx=some (.attrs [] []))(h:Q .none (m.set dx (.attrs [30967732746,250711086,131251851267392784618517] [.int (b:Nat),.tup [.int 0,.int 0],.bool false]))):zA4 W 45 (n+1) 134 [.ref x,.int (b:Nat)] m Q X:=by
 have ne:=zPq h1 h2
 refine G.fn G.k_Frag_init (.cons G.f119 (.cons (.bool _) .nil)) rfl ?_
 exact zBt h1 h2 rfl rfl (zB7 h1 ne rfl rfl (zB7 h1 ne rfl rfl (fin0 h)))
theorem zBo(k:Nat)(h:Q (.tup [.int (k:Nat),.int (k:Nat)]) m):zA4 W 45 (n+1) 211 [.int (k:Nat)] m Q X:=G.fn G.k_ends_one .nil rfl (fin0 h)
theorem zSq(k:Nat)(H:Mk l most is r m)(hs:is.length<=1000)(hX:most<is.length+k->X (.int (most:Nat)) m)(hQ:is.length+k<=most->Q .none m):zA4 W 45 (n+1) 162 [.ref l.M,.int (k:Nat)] m Q X:=by
 refine G.fn G.k_need .nil rfl ?_
 refine x_attr H.hM H.hD rfl rfl (zDh (k:=is.length) ((zCc (zA3 H.hL)).trans (by rw[List.length_map,H.len])) (nLit hs rfl) (x_attr H.hM H.hD rfl rfl (zBk (p:=(most:Int)<(is.length:Int)+(k:Int)) (λq=>?_) λq=>?_)))
 ·exact x_attr H.hM H.hD rfl rfl (hX (Int.ofNat_lt.mp q))
 ·exact fin0 (hQ (by omega))
theorem yEp(op:Nat)(H:Mk l most is r m)(hs:is.length<=1000)(hX:most<is.length+1->X (.int (most:Nat)) m)
  (hQ:is.length+1<=most->∀ a b m',l.ps++[(a,b)]≠[]->Mk {l with ps:=l.ps++[(a,b)]} most (is++[opI op]) r m'->Q (.int (is.length:Nat)) m'):zA4 W 45 (n+3) 169 [.ref l.M,.int (op:Nat)] m Q X:=by
 refine G.fn G.k_new .nil rfl ?_
 refine x_meI H.hM H.hD rfl rfl ?_
 refine zSq G 1 H hs hX λhle=>?_
 refine x_attr H.hM H.hD rfl rfl (x_meA H.hL ?_)
 intro a b ha hb hab
 refine e04 (λa1 a2 a3 a4=>?_) (H.fresh ha)
 refine e04 (λb1 b2 b3 b4=>?_) (H.fresh hb)
 refine zNy G op (x:=a) (dx:=b) (Mt.set_self _ _ _) (Mt.keep hab.symm (Mt.set_self _ _ _)) ?_
 refine⟨rfl,?_⟩
 have HK:=H.push (mu:=(((m.set b (.attrs [] [])).set a (.inst 65 b)).set b (.attrs insN (opI op).vals)).set l.L (.lst (l.ps.map (λp=>.ref p.1)++[.ref a]))) (i:=opI op) ha hb (Mt.keep a3 (Mt.keep hab (Mt.set_self _ _ _))) (Mt.keep b3 (Mt.set_self _ _ _)) (Mt.set_self _ _ _) (λc c1 c2 c3=>by rw[Mt.set_ne _ _ c3,Mt.set_ne _ _ c2,Mt.set_ne _ _ c1,Mt.set_ne _ _ c2])
 refine zM8 (Mt.keep b3.symm (Mt.keep a3.symm (Mt.keep b3.symm H.hL))) (by rw[List.length_map,H.len];exact nLit hs rfl) ?_
 refine x_attr HK.hM HK.hD rfl rfl (zDh (k:=is.length+1) ((zCc (zA3 HK.hL)).trans (by rw[List.length_map,HK.len,List.length_append];rfl)) (by omega) (fin0 ?_))
 rw[show((is.length+1:Nat):Int)-1=(is.length:Int) by exact n58]
 exact hQ hle a b _ (by simp) HK
end
section
def MkM(M:Addr)(most:Nat)(is:List Ins)(r m:Mt):Prop:=∃ l,l.M=M/\Mk l most is r m
theorem MkM.get(H:MkM M most is r m):∃ D L ps,m M=some (.inst 200 D)/\m D=some (.attrs [253107527,32376161590] [.int (most:Nat),.ref L])/\m L=some (.lst ((ps:List (Addr×Addr)).map λp=>.ref p.1))/\ps.length=is.length/\
  (∀ k,k<is.length->∃ p,(ps.map λp:Addr×Addr=>DV.ref p.1)[k]?=some (.ref p.1)/\ps[k]?=some p/\m p.1=some (.inst 65 p.2)/\m p.2=some (.attrs insN (zA0 is k).vals)/\p.1≠p.2/\∀ i:Ins,MkM M most (is.set k i) r (m.set p.2 (.attrs insN i.vals))):=by
 obtain⟨l,rfl,H⟩:=H
 refine⟨l.D,l.L,l.ps,H.hM,H.hD,H.hL,H.len,λk hk=>?_⟩
 refine e13 (λp hp h1 h2=>?_) (H.at hk)
 exact⟨p,by rw[List.getElem?_map,hp];rfl,hp,h1,h2,(λe=>by rw[e,h2]at h1;cases h1),λi=>⟨l,rfl,H.setI hp i⟩⟩
theorem MkM.rest(H:MkM M most is r m):Sub r m:=by
 obtain⟨l,rfl,H⟩:=H
 exact H.rest
theorem MkM.drop(H:MkM M most is r m)(S:Sub m mu):Sub m mu:=S
theorem x_mM(H:MkM M most is q mu)(h3:∀ a b,fld [253107527,32376161590] [a,b] x=none)(h4:T0.me 200 x=some F)(k:run c e (.fn F::.ref M::s) loc mu):opt (calX mu (.ref M) x) λq=>run c e (encC q::.ref M::s) loc mu:=
 e35 (λU U U hM hD U U U=>x_meI hM hD (h3 _ _) h4 k) H.get
variable {W:Wd}(G:Gd W){n:Nat}{m:Mt}{Q X:DV->Mt->Prop}{M:Addr}{most:Nat}{is:List Ins}{r:Mt}
include G
theorem zT1(k:Nat)(H:MkM M most is r m)(hs:is.length<=1000)(hX:most<is.length+k->X (.int (most:Nat)) m)(hQ:is.length+k<=most->Q .none m):zA4 W 45 (n+1) 162 [.ref M,.int (k:Nat)] m Q X:=by
 obtain⟨l,rfl,H⟩:=H
 exact zSq G k H hs hX hQ
theorem zH3(op:Nat)(H:MkM M most is r m)(hs:is.length<=1000)(hX:most<is.length+1->X (.int (most:Nat)) m)(hQ:is.length+1<=most->∀ m',MkM M most (is++[opI op]) r m'->Q (.int (is.length:Nat)) m'):zA4 W 45 (n+3) 169 [.ref M,.int (op:Nat)] m Q X:=by
 obtain⟨l,rfl,H⟩:=H
 exact yEp G op H hs hX λhle a b m' U H'=>hQ hle m' ⟨{l with ps:=l.ps++[(a,b)]},rfl,H'⟩
theorem yF1(k:Nat)(H:MkM M most is r m)(hk:k / 2<is.length)(hs:is.length<=1000)(h:Q (.int (wayP is k:Nat)) m):zA4 W 45 (n+1) 176 [.ref M,.int (k:Nat)] m Q X:=by
 refine e35 (λD L ps hM hD hL hl hI=>?_) H.get
 refine e16 (λp g0 g1 g2 g3 U U=>?_) (hI _ hk)
 refine G.fn G.k_way .nil rfl ?_
 refine x_attr hM hD rfl rfl ?_
 refine zSb (i:=k) (j:=2) (by decide) (zA7 (k:=2) (by decide)) ?_
 refine zCq (i:=k / 2) (zA3 hL) (nLtl hk hs rfl) g0 ?_
 refine zWe (i:=k) (j:=2) (by decide) ?_
 unfold wayP at h
 refine zBk (p:=(k:Int) % 2=0) (λhd=>?_) λhd=>?_
 ·rw[if_pos (n59 hd)]at h
  exact x_attr g2 g3 rfl rfl (fin0 h)
 ·rw[if_neg (n60 hd)]at h
  exact x_attr g2 g3 rfl rfl (fin0 h)
theorem zT2(k v:Nat)(H:MkM M most is r m)(hk:k / 2<is.length)(hs:is.length<=1000)(h:∀ m',MkM M most (zD5 is k v) r m'->Q .none m'):zA4 W 45 (n+1) 183 [.ref M,.int (k:Nat),.int (v:Nat)] m Q X:=by
 refine e35 (λD L ps hM hD hL hl hI=>?_) H.get
 refine e16 (λp g0 g1 g2 g3 U g4=>?_) (hI _ hk)
 refine G.fn G.k_lead .nil rfl ?_
 refine x_attr hM hD rfl rfl ?_
 refine zSb (i:=k) (j:=2) (by decide) (zA7 (k:=2) (by decide)) ?_
 refine zCq (i:=k / 2) (zA3 hL) (nLtl hk hs rfl) g0 ?_
 refine zWe (i:=k) (j:=2) (by decide) ?_
 unfold zD5 zLa at h
 refine zBk (p:=(k:Int) % 2=0) (λhd=>?_) λhd=>?_
 ·rw[if_pos (n59 hd)]at h
  exact zBt g2 g3 rfl rfl (fin0 (h _ (g4 _)))
 ·rw[if_neg (n60 hd)]at h
  exact zBt g2 g3 rfl rfl (fin0 (h _ (g4 _)))
theorem zMo(a0 a1 b0 b1:Nat)(H:MkM M most is r m)(hk:a0≠0->b0≠0->a1 / 2<is.length)(hs:is.length<=1000)(h:∀ m',MkM M most (zN9 is a0 a1 b0) r m'->Q (.tup [.int ((zOg a0 a1 b0 b1).1:Nat),.int ((zOg a0 a1 b0 b1).2:Nat)]) m'):zA4 W 45 (n+2) 197 [.ref M,.tup [.int (a0:Nat),.int (a1:Nat)],.tup [.int (b0:Nat),.int (b1:Nat)]] m Q X:=by
 refine G.fn G.k_joined .nil rfl ?_
 unfold zN9 zOg at h
 refine zBk (p:=(a0:Int)=0) (λhd=>?_) λhd=>?_
 ·have hd:=Int.ofNat.inj hd
  rw[if_pos hd,if_pos hd]at h
  exact fin0 (h _ H)
 ·have hd:¬ a0=0:=λq=>hd (congrArg Int.ofNat q)
  rw[if_neg hd,if_neg hd]at h
  refine zBk (p:=(b0:Int)=0) (λhd'=>?_) λhd'=>?_
  ·have hd':=Int.ofNat.inj hd'
   rw[if_pos hd',if_pos hd']at h
   exact fin0 (h _ H)
  ·have hd':¬ b0=0:=λq=>hd' (congrArg Int.ofNat q)
   rw[if_neg hd',if_neg hd']at h
   refine x_mM H (λU U=>rfl) rfl ?_
   refine zT2 G a1 b0 H (hk hd hd') hs λm' H'=>?_
   exact fin0 (h _ H')
end
section
variable {W:Wd}(G:Gd W){n:Nat}{m:Mt}{Q X:DV->Mt->Prop}{M:Addr}{most:Nat}{is:List Ins}{r:Mt}
include G
theorem ret4(b e0 e1:Nat)(nl:Bool)(h:Q (eF ⟨b,e0,e1,nl⟩) m):∀ x dx,m x=none->m dx=none->x≠dx->zA4 W 45 (n+1) 134 [.ref x,.int (b:Nat),.tup [.int (e0:Nat),.int (e1:Nat)],.bool nl] ((m.set dx (.attrs [] [])).set x (.inst 137 dx)) (λd m'=>d=.none/\∃ m'' d',Fz m' ((some (DV.ref x)).getD .none) m'' d'/\Q d' m'') X':=by
 intro x dx hx hd ne
 refine zWz G ⟨b,e0,e1,nl⟩ (x:=x) (dx:=dx) (Mt.set_self _ _ _) (by rw[Mt.set_ne _ _ ne.symm,Mt.set_self]) ⟨rfl,m,_,?_,h⟩
 refine Sub.inst (a:=x) (x:=dx) (((Sub.rfl.put hd).put hx).put hd) ?_ (Mt.set_self _ _ _) hx hd ne
 rw[Mt.set_ne _ _ ne,Mt.set_self]
theorem ret3(b e0 e1:Nat)(h:Q (eF ⟨b,e0,e1,false⟩) m):∀ x dx,m x=none->m dx=none->x≠dx->zA4 W 45 (n+1) 134 [.ref x,.int (b:Nat),.tup [.int (e0:Nat),.int (e1:Nat)]] ((m.set dx (.attrs [] [])).set x (.inst 137 dx)) (λd m'=>d=.none/\∃ m'' d',Fz m' ((some (DV.ref x)).getD .none) m'' d'/\Q d' m'') X':=by
 intro x dx hx hd ne
 refine zX0 G b e0 e1 (x:=x) (dx:=dx) (Mt.set_self _ _ _) (by rw[Mt.set_ne _ _ ne.symm,Mt.set_self]) ⟨rfl,m,_,?_,h⟩
 refine Sub.inst (a:=x) (x:=dx) (((Sub.rfl.put hd).put hx).put hd) ?_ (Mt.set_self _ _ _) hx hd ne
 rw[Mt.set_ne _ _ ne,Mt.set_self]
theorem ret2(b:Nat)(h:Q (eF ⟨b,0,0,false⟩) m):∀ x dx,m x=none->m dx=none->x≠dx->zA4 W 45 (n+1) 134 [.ref x,.int (b:Nat)] ((m.set dx (.attrs [] [])).set x (.inst 137 dx)) (λd m'=>d=.none/\∃ m'' d',Fz m' ((some (DV.ref x)).getD .none) m'' d'/\Q d' m'') X':=by
 intro x dx hx hd ne
 refine zX1 G b (x:=x) (dx:=dx) (Mt.set_self _ _ _) (by rw[Mt.set_ne _ _ ne.symm,Mt.set_self]) ⟨rfl,m,_,?_,h⟩
 refine Sub.inst (a:=x) (x:=dx) (((Sub.rfl.put hd).put hx).put hd) ?_ (Mt.set_self _ _ _) hx hd ne
 rw[Mt.set_ne _ _ ne,Mt.set_self]
omit G in
def yHp(M:Addr)(most:Nat)(r:Mt)(I:List Ins)(t:Nat)(j:Nat)(loc:Loc)(mu:Mt):Prop:=∃(ms:List Nat) (is:List Ins) (e:Nat),ms.length=j/\look loc 222936110=some (.ref M)/\look loc 4208068358925=some (.int (t:Nat))/\look loc 233768879=some (.int (e:Nat))/\MkM M most is r mu/\is.length<=1000/\Chain is e ms/\ms.Nodup/\zAd is ms t=I
theorem zCs(e0 e1 t:Nat)(ms:List Nat)(H:MkM M most is r m)(hs:is.length<=1000)(hc:Chain is e0 ms)(nd:ms.Nodup)(h:∀ m',MkM M most (zAd is ms t) r m'->Q .none m'):zA4 W 45 (n+2) 190 [.ref M,.tup [.int (e0:Nat),.int (e1:Nat)],.int (t:Nat)] m Q X:=by
 refine G.fn G.k_patch .nil rfl ?_
 refine yE3 (yHp M most r (zAd is ms t) t) ms.length ⟨ms,is,e0,rfl,rfl,rfl,rfl,H,hs,hc,nd,rfl⟩ λj loc mu K p hK=>e39 (λms' is' e hj l1 l2 l3 H' hs' hc' nd' hp=>?_) p
 refine x_var l3 ?_
 cases ms' with
 |nil=>
  have:e=0:=hc'
  subst this
  exact fin0 (h _ (hp▸H'))
 |cons k rs=>
  obtain⟨rfl,k0,k1,k2⟩:=hc'
  refine zT0 (p:=(e:Int)=0) (λq=>absurd (Int.ofNat.inj q) k0) λU=>?_
  rw[List.nodup_cons]at nd'
  refine x_var l1 (x_mM H' (λU U=>rfl) rfl (x_var l3 ?_))
  refine yF1 G e H' k1 hs' ?_
  refine x_var (d:=.ref M) (by kst_p) (x_mM H' (λU U=>rfl) rfl ?_)
  kst_mem
  refine zT2 G e t H' k1 hs' λm' H2=>?_
  kst_mem
  exact hK rs.length _ _ (by rw[<-hj];exact Nat.lt_succ_self _) ⟨rs,zD5 is' e t,wayP is' e,rfl,by kst_p,by kst_p,by kst_p,H2,by rw[zBg];exact hs',k2.lead t k1 nd'.1,nd'.2,hp⟩
end
section
theorem zX6:(is++[i]).set is.length j=is++[j]:=by
 apply List.ext_getElem?
 intro k
 simp only[List.getElem?_set,List.getElem?_append]
 by_cases h:is.length=k
 ·subst h;simp
 ·simp only[h,if_false]
  by_cases g:k<is.length
  ·simp[g]
  ·have:k-is.length≠0:=by omega
   simp[g]
   rw[List.getElem?_eq_none (by simp;exact n39 this),List.getElem?_eq_none (by simp;exact n39 this)]
variable {W:Wd}(G:Gd W){n:Nat}{m:Mt}{Q X:DV->Mt->Prop}{M:Addr}{most:Nat}{is:List Ins}{r:Mt}
include G
theorem zI2(h:Q (eF zJb) m):zA4 W 45 (n+3) 218 [] m Q X:=by
 refine G.fn G.k_frag_none .nil rfl ?_
 exact ret2 G 0 h
theorem zC0(f:Fr)(h:Q (.bool (decide (f.b=0))) m):zA4 W 45 (n+1) 225 [eF f] m Q X:=by
 refine G.fn G.k_frag_is_none .nil rfl (fin0 (d:=.bool (decide ((f.b:Int)=0))) ?_)
 rw[show decide ((f.b:Int)=0)=decide (f.b=0) by rw[decide_eq_decide];exact n40];exact h
omit G in
theorem yHj{p:Addr×Addr}{m':Mt}(g4:∀ i:Ins,MkM M most ((is++[opI op]).set is.length i) r (m'.set p.2 (.attrs insN i.vals)))(i:Ins):MkM M most (is++[i]) r (m'.set p.2 (.attrs insN i.vals)):=by
 have:=g4 i
 rw[zX6]at this
 exact this
omit G in
theorem zMy(H':MkM M most (is++[opI op]) r m'):∃(L D:Addr) (ps:List (Addr×Addr)) (p:Addr×Addr),m' M=some (.inst 200 D)/\m' D=some (.attrs [253107527,32376161590] [.int (most:Nat),.ref L])/\m' L=some (.lst (ps.map λp=>.ref p.1))/\(ps.map λp:Addr×Addr=>DV.ref p.1)[is.length]?=some (.ref p.1)/\m' p.1=some (.inst 65 p.2)/\m' p.2=some (.attrs insN (opI op).vals)/\p.1≠p.2/\∀ i:Ins,MkM M most (is++[i]) r (m'.set p.2 (.attrs insN i.vals)):=by
 refine e35 (λD L ps hM hD hL hl hI=>?_) H'.get
 refine e16 (λp g0 g1 g2 g3 ne g4=>?_) (hI is.length (by simp))
 rw[zB1,if_pos rfl]at g3
 exact⟨L,D,ps,p,hM,hD,hL,g0,g2,g3,ne,yHj g4⟩
theorem zSv(H:MkM M most is r m)(hs:is.length<=900)(hX:most<is.length+1->X (.int (most:Nat)) m)(hQ:is.length+1<=most->∀ m',MkM M most (nopP is).1 r m'->Q (eF (nopP is).2.f) m'):zA4 W 45 (n+4) 232 [.ref M] m Q X:=by
 refine G.fn G.k_frag_nop .nil rfl ?_
 refine x_mM H (λU U=>rfl) rfl ?_
 refine zH3 G 5 H (nLit hs rfl) hX λhle m' H'=>?_
 refine zF8 (i:=is.length) (j:=2) (zA7 (nLit hs rfl)) (zA7 (k:=2) (by decide)) ?_
 refine zBo G (is.length * 2) ?_
 exact ret4 G is.length (is.length * 2) (is.length * 2) true (hQ hle m' H')
theorem zSx(f:Fr)(H:MkM M most is r m)(hs:is.length<=900)(hb:f.b<is.length)(h:Q (.bool (zE9 is f)) m):zA4 W 45 (n+4) 239 [.ref M,eF f] m Q X:=by
 refine e35 (λD L ps hM hD hL hl hI=>?_) H.get
 refine e16 (λp g0 g1 g2 g3 U g4=>?_) (hI _ hb)
 refine G.fn G.k_frag_is_nop .nil rfl ?_
 refine x_attr hM hD rfl rfl ?_
 refine zCq (i:=f.b) (zA3 hL) (nLtl hb hs rfl) g0 ?_
 refine x_attr g2 g3 rfl rfl ?_
 unfold zE9 at h
 refine zBk (p:=((zA0 is f.b).op:Int)=5) (λhd=>?_) λhd=>?_
 ·rw[decide_eq_true (Int.ofNat.inj hd),Bool.true_and]at h
  refine zF8 (i:=f.b) (j:=2) (zA7 (nLtl hb hs rfl)) (zA7 (k:=2) (by decide)) ?_
  refine zBo G (f.b * 2) ?_
  refine yI1 (fin0 ?_)
  rw[show decide ((f.e0:Int)=((f.b * 2:Nat):Int))=decide (f.e0=f.b * 2) by rw[decide_eq_decide];exact n41,show decide ((f.e1:Int)=((f.b * 2:Nat):Int))=decide (f.e1=f.b * 2) by rw[decide_eq_decide];exact n41]
  exact h
 ·rw[decide_eq_false (λq=>hd (congrArg Int.ofNat q)),Bool.false_and]at h
  refine fin0 (d:=.bool (decide (((zA0 is f.b).op:Int)=5))) ?_
  rw[decide_eq_false hd];exact h
theorem zX3(lo hi:Nat)(fold:Bool)(H:MkM M most is r m)(hs:is.length<=900)(hX:most<is.length+1->X (.int (most:Nat)) m)
  (hQ:is.length+1<=most->∀ m',MkM M most (is++[(⟨1,0,0,lo,hi,fold⟩: Ins)]) r m'->Q (eF (oneF is.length (is.length * 2) false)) m'):zA4 W 45 (n+4) 247 [.ref M,.int (lo:Nat),.int (hi:Nat),.bool fold] m Q X:=by
 refine G.fn G.k_frag_range4 .nil rfl ?_
 refine x_mM H (λU U=>rfl) rfl ?_
 refine zH3 G 1 H (nLit hs rfl) hX λhle m' H'=>?_
 refine e48 (λL D ps p hM hD hL g0 g2 g3 ne g4=>?_) (zMy H')
 refine x_attr hM hD rfl rfl ?_
 refine zCq (i:=is.length) (zA3 hL) (nLit hs rfl) g0 ?_
 refine zBt g2 g3 rfl rfl (zB7 g2 ne rfl rfl (zB7 g2 ne rfl rfl ?_))
 refine zF8 (i:=is.length) (j:=2) (zA7 (nLit hs rfl)) (zA7 (k:=2) (by decide)) ?_
 refine zBo G (is.length * 2) ?_
 exact ret3 G is.length (is.length * 2) (is.length * 2) (hQ hle _ (g4 ⟨1,0,0,lo,hi,fold⟩))
theorem zX5(bits:Nat)(H:MkM M most is r m)(hs:is.length<=900)(hX:most<is.length+1->X (.int (most:Nat)) m)
  (hQ:is.length+1<=most->∀ m',MkM M most (is++[(⟨3,0,bits,0,0,false⟩: Ins)]) r m'->Q (eF (oneF is.length (is.length * 2) true)) m'):zA4 W 45 (n+4) 254 [.ref M,.int (bits:Nat)] m Q X:=by
 refine G.fn G.k_frag_empty .nil rfl ?_
 refine x_mM H (λU U=>rfl) rfl ?_
 refine zH3 G 3 H (nLit hs rfl) hX λhle m' H'=>?_
 refine e48 (λL D ps p hM hD hL g0 g2 g3 ne g4=>?_) (zMy H')
 refine x_attr hM hD rfl rfl ?_
 refine zCq (i:=is.length) (zA3 hL) (nLit hs rfl) g0 ?_
 refine zBt g2 g3 rfl rfl ?_
 refine zF8 (i:=is.length) (j:=2) (zA7 (nLit hs rfl)) (zA7 (k:=2) (by decide)) ?_
 refine zBo G (is.length * 2) ?_
 exact ret4 G is.length (is.length * 2) (is.length * 2) true (hQ hle _ (g4 ⟨3,0,bits,0,0,false⟩))
theorem zX4(H:MkM M most is r m)(hs:is.length<=900)(hle:is.length+1<=most)
  (hQ:∀ m',MkM M most (is++[opI 4]) r m'->Q (eF ⟨is.length,0,0,false⟩) m'):zA4 W 45 (n+4) 261 [.ref M,.int 0] m Q X:=by
 refine G.fn G.k_frag_match .nil rfl ?_
 refine x_mM H (λU U=>rfl) rfl ?_
 refine zH3 G 4 H (nLit hs rfl) (λh=>by omega) λhle m' H'=>?_
 refine e48 (λL D ps p hM hD hL g0 g2 g3 ne g4=>?_) (zMy H')
 refine x_attr hM hD rfl rfl ?_
 refine zCq (i:=is.length) (zA3 hL) (nLit hs rfl) g0 ?_
 refine zBt g2 g3 rfl rfl ?_
 exact ret2 G is.length (hQ _ (g4 (opI 4)))
theorem zI3(b:Nat)(lazy:Bool)(H:MkM M most is r m)(hs:is.length<=900)(hX:most<is.length+1->X (.int (most:Nat)) m)
  (hQ:is.length+1<=most->∀ m',MkM M most (is++[zBs b lazy]) r m'->Q (.tup [.int (is.length:Nat),.tup [.int (zA5 is.length lazy:Nat),.int (zA5 is.length lazy:Nat)]]) m'):zA4 W 45 (n+4) 282 [.ref M,.int (b:Nat),.bool lazy] m Q X:=by
 refine G.fn G.k_frag_choice .nil rfl ?_
 refine x_mM H (λU U=>rfl) rfl ?_
 refine zH3 G 0 H (nLit hs rfl) hX λhle m' H'=>?_
 refine e48 (λL D ps p hM hD hL g0 g2 g3 ne g4=>?_) (zMy H')
 refine x_attr hM hD rfl rfl ?_
 refine zCq (i:=is.length) (zA3 hL) (nLit hs rfl) g0 ?_
 have hQ:=hQ hle _ (g4 (zBs b lazy))
 cases lazy with
 |true=>
  refine zBt g2 g3 rfl rfl ?_
  refine zF8 (i:=is.length) (j:=2) (zA7 (nLit hs rfl)) (zA7 (k:=2) (by decide)) ?_
  refine zBo G (is.length * 2) ?_
  exact fin0 hQ
 |false=>
  refine zBt g2 g3 rfl rfl ?_
  refine zF8 (i:=is.length) (j:=2) (zA7 (nLit hs rfl)) (zA7 (k:=2) (by decide)) ?_
  refine zBo G (is.length * 2+1) ?_
  exact fin0 hQ
end
section
variable {W:Wd}(G:Gd W){n:Nat}{m:Mt}{Q X:DV->Mt->Prop}{M:Addr}{most:Nat}{is:List Ins}{r:Mt}
include G
theorem zZr(a b:Part)(H:MkM M most is r m)(hs:is.length<=900)(pa:PartOk is a)(pb:PartOk is b)(dj:∀ k∈a.ms,k∉b.ms)
  (hQ:∀ m',MkM M most (catP is a b).1 r m'->Q (eF (catP is a b).2.f) m'):zA4 W 45 (n+5) 268 [.ref M,eF a.f,eF b.f] m Q X:=by
 refine G.fn G.k_frag_cat .nil rfl ?_
 have two:Chain (zAd is a.ms 0) b.f.e0 b.ms:=pb.ch.patch 0 λk hk=>⟨(pa.ch.mem k hk).2,dj k hk⟩
 have fin:(a.f.b=0\/b.f.b=0)->∀ m',MkM M most (zAd (zAd is a.ms 0) b.ms 0) r m'->Q (eF zJb) m':=λh m' H'=>by
  have e:catP is a b=(zAd (zAd is a.ms 0) b.ms 0,⟨zJb,[]⟩):=by unfold catP;rw[if_pos h]
  rw[e]at hQ
  exact hQ m' H'
 refine zC0 G a.f ?_
 refine zBk (p:=a.f.b=0) (λha=>?_) λha=>?_
 ·refine x_mM H (λU U=>rfl) rfl ?_
  refine zCs G a.f.e0 a.f.e1 0 a.ms H (nLit hs rfl) pa.ch pa.nd λm' H'=>?_
  refine x_mM H' (λU U=>rfl) rfl ?_
  refine zCs G b.f.e0 b.f.e1 0 b.ms H' (by rw[zAh];exact nLit hs rfl) two pb.nd λm' H'=>?_
  refine zI2 G ?_
  exact fin0 (fin (.inl ha) _ H')
 ·refine zC0 G b.f ?_
  refine zBk (p:=b.f.b=0) (λhb=>?_) λhb=>?_
  ·refine x_mM H (λU U=>rfl) rfl ?_
   refine zCs G a.f.e0 a.f.e1 0 a.ms H (nLit hs rfl) pa.ch pa.nd λm' H'=>?_
   refine x_mM H' (λU U=>rfl) rfl ?_
   refine zCs G b.f.e0 b.f.e1 0 b.ms H' (by rw[zAh];exact nLit hs rfl) two pb.nd λm' H'=>?_
   refine zI2 G ?_
   exact fin0 (fin (.inr hb) _ H')
  ·have e:catP is a b=(if zE9 (zAd is a.ms b.f.b) a.f then(zAd is a.ms b.f.b,b)else(zAd is a.ms b.f.b,⟨⟨a.f.b,b.f.e0,b.f.e1,a.f.nl&&b.f.nl⟩,b.ms⟩)):=by
    unfold catP;rw[if_neg (λh=>h.elim ha hb)]
   rw[e]at hQ
   refine x_mM H (λU U=>rfl) rfl ?_
   refine zCs G a.f.e0 a.f.e1 b.f.b a.ms H (nLit hs rfl) pa.ch pa.nd λm' H'=>?_
   refine zSx G a.f H' (by rw[zAh];exact hs) (by rw[zAh];exact pa.b) ?_
   refine zGl (λhn=>?_) λhn=>?_
   ·rw[if_pos hn]at hQ
    exact fin0 (hQ m' H')
   ·rw[if_neg (by rw[hn];decide)]at hQ
    refine zGl (v:=a.f.nl) (λhz=>?_) λhz=>?_
    ·rw[hz]at hQ
     exact ret4 G a.f.b b.f.e0 b.f.e1 b.f.nl (hQ m' H')
    ·rw[hz]at hQ
     exact ret4 G a.f.b b.f.e0 b.f.e1 a.f.nl (by rw[hz];exact hQ m' H')
theorem yEr(a b:Part)(H:MkM M most is r m)(hs:is.length<=900)(pa:PartOk is a)(pb:PartOk is b)(hX:a.f.b≠0->b.f.b≠0->most<is.length+1->X (.int (most:Nat)) m)
  (hQ:(a.f.b≠0->b.f.b≠0->is.length+1<=most)->∀ m',MkM M most (altP is a b).1 r m'->Q (eF (altP is a b).2.f) m'):zA4 W 45 (n+4) 275 [.ref M,eF a.f,eF b.f] m Q X:=by
 refine G.fn G.k_frag_alt .nil rfl ?_
 refine zC0 G a.f ?_
 unfold altP at hQ
 refine zBk (p:=a.f.b=0) (λha=>?_) λha=>?_
 ·rw[if_pos ha]at hQ
  exact fin0 (hQ (λh=>absurd ha h) _ H)
 ·rw[if_neg ha]at hQ
  refine zC0 G b.f ?_
  refine zBk (p:=b.f.b=0) (λhb=>?_) λhb=>?_
  ·rw[if_pos hb]at hQ
   exact fin0 (hQ (λU h=>absurd hb h) _ H)
  ·rw[if_neg hb]at hQ
   refine x_mM H (λU U=>rfl) rfl ?_
   refine zH3 G 0 H (nLit hs rfl) (hX ha hb) λhle m' H'=>?_
   refine e48 (λL D ps p hM hD hL g0 g2 g3 ne g4=>?_) (zMy H')
   refine x_attr hM hD rfl rfl ?_
   refine zCq (i:=is.length) (zA3 hL) (nLit hs rfl) g0 ?_
   refine zBt g2 g3 rfl rfl (zB7 g2 ne rfl rfl ?_)
   have H2:=g4 ⟨0,a.f.b,b.f.b,0,0,false⟩
   have hQ:=hQ λU U=>hle
   refine x_mM H2 (λU U=>rfl) rfl ?_
   refine zMo G a.f.e0 a.f.e1 b.f.e0 b.f.e1 H2 (λh U=>by have:=pa.last h;simp;exact n8 this) (by simp;exact nLit hs rfl) λm' H'=>?_
   refine zGl (v:=a.f.nl) (λhz=>?_) λhz=>?_
   ·rw[hz]at hQ
    exact ret4 G is.length _ _ a.f.nl (by rw[hz];exact hQ m' H')
   ·rw[hz]at hQ
    exact ret4 G is.length _ _ b.f.nl (hQ m' H')
end
section
variable {W:Wd}(G:Gd W){n:Nat}{m:Mt}{Q X:DV->Mt->Prop}{M:Addr}{most:Nat}{is:List Ins}{r:Mt}
include G
theorem zSu(a:Part)(lazy:Bool)(H:MkM M most is r m)(hs:is.length<=900)(pa:PartOk is a)(hX:a.f.b≠0->most<is.length+1->X (.int (most:Nat)) m)
  (hQ:(a.f.b≠0->is.length+1<=most)->∀ m',MkM M most (zCt is a lazy).1 r m'->Q (eF (zCt is a lazy).2.f) m'):zA4 W 45 (n+5) 289 [.ref M,eF a.f,.bool lazy] m Q X:=by
 refine G.fn G.k_frag_plus .nil rfl ?_
 refine zC0 G a.f ?_
 unfold zCt at hQ
 refine zBk (p:=a.f.b=0) (λha=>?_) λha=>?_
 ·rw[if_pos ha]at hQ
  refine zI2 G ?_
  exact fin0 (hQ (λh=>absurd ha h) _ H)
 ·rw[if_neg ha]at hQ
  refine zI3 G a.f.b lazy H hs (hX ha) λhle m' H'=>?_
  refine x_mM H' (λU U=>rfl) rfl ?_
  refine zCs G a.f.e0 a.f.e1 is.length a.ms H' (by simp;exact nLit hs rfl) (pa.ch.push _) pa.nd λm' H'=>?_
  exact ret4 G _ _ _ _ (hQ (λU=>hle) _ H')
theorem zPd(a:Part)(lazy:Bool)(H:MkM M most is r m)(hs:is.length<=900)(pa:PartOk is a)(hX:most<is.length+1->X (.int (most:Nat)) m)
  (hQ:is.length+1<=most->∀ m',MkM M most (zEh is a lazy).1 r m'->Q (eF (zEh is a lazy).2.f) m'):zA4 W 45 (n+5) 296 [.ref M,eF a.f,.bool lazy] m Q X:=by
 refine G.fn G.k_frag_quest .nil rfl ?_
 refine zC0 G a.f ?_
 unfold zEh at hQ
 refine zBk (p:=a.f.b=0) (λha=>?_) λha=>?_
 ·rw[if_pos ha]at hQ
  refine zSv G H hs hX λhle m' H'=>?_
  exact fin0 (hQ hle _ H')
 ·rw[if_neg ha]at hQ
  refine zI3 G a.f.b lazy H hs hX λhle m' H'=>?_
  refine x_mM H' (λU U=>rfl) rfl ?_
  refine zMo G (zA5 is.length lazy) (zA5 is.length lazy) a.f.e0 a.f.e1 H' (λU U=>by rw[zBf];simp) (by simp;exact nLit hs rfl) λm' H'=>?_
  exact ret4 G _ _ _ _ (hQ hle _ H')
theorem yAx(a:Part)(lazy:Bool)(H:MkM M most is r m)(hs:is.length<=800)(pa:PartOk is a)(hX:most<is.length+(if a.f.b≠0/\a.f.nl=true then 2 else 1)->X (.int (most:Nat)) m)
  (hQ:is.length+(if a.f.b≠0/\a.f.nl=true then 2 else 1)<=most->∀ m',MkM M most (zKk is a lazy).1 r m'->Q (eF (zKk is a lazy).2.f) m'):zA4 W 45 (n+6) 303 [.ref M,eF a.f,.bool lazy] m Q X:=by
 refine G.fn G.k_frag_star .nil rfl ?_
 refine zC0 G a.f ?_
 unfold zKk at hQ
 refine zBk (p:=a.f.b=0) (λha=>?_) λha=>?_
 ·rw[if_pos ha,if_neg (λq=>q.1 ha)]at hQ
  rw[if_neg (λq=>q.1 ha)]at hX
  refine zSv G H (nLit hs rfl) hX λhle m' H'=>?_
  exact fin0 (hQ hle _ H')
 ·rw[if_neg ha]at hQ
  refine zGl (v:=a.f.nl) (λhz=>?_) λhz=>?_
  ·rw[hz]at hQ hX
   rw[if_pos ⟨ha,rfl⟩]at hX hQ
   refine x_mM H (λU U=>rfl) rfl ?_
   refine zT1 G 2 H (nLit hs rfl) hX λhle=>?_
   have lp:(zCt is a lazy).1.length=is.length+1:=by unfold zCt;rw[if_neg ha];simp[zAh]
   refine zSu G a lazy H (nLit hs rfl) pa (λU h=>n55 h hle) λU m' H'=>?_
   refine zPd G _ lazy H' (by rw[lp];omega) (yBc pa lazy ha) (λh=>by rw[lp]at h;omega) λU m' H'=>?_
   exact fin0 (hQ hle _ H')
  ·rw[hz]at hQ hX
   rw[if_neg (λq=>Bool.noConfusion q.2)]at hX hQ
   refine zI3 G a.f.b lazy H (nLit hs rfl) hX λhle m' H'=>?_
   refine x_mM H' (λU U=>rfl) rfl ?_
   refine zCs G a.f.e0 a.f.e1 is.length a.ms H' (by simp;exact nLit hs rfl) (pa.ch.push _) pa.nd λm' H'=>?_
   exact ret4 G _ _ _ _ (hQ hle _ H')
omit G in
theorem zQl(i:Ins)(H:MkM M most is r mu)(hs:is.length<=1000)(hk:k<is.length)(hx:look loc x=some (.int (k:Nat)))(hf:T0.st 65 f=true)(hp:fput insN (zA0 is k).vals f d=(insN,i.vals))
  (K:∀ mu',MkM M most (is.set k i) r mu'->run c e s loc mu'):opt (getI mu M 32376161590) λp=>sel (T0.rd p.1 32376161590) (run (.var x (.sub (.setA f c))) e (p.2::d::s) loc mu) False:=by
 refine e35 (λD L ps hM hD hL hlen hI=>?_) H.get
 refine e16 (λp g0 g1 g2 g3 ne g4=>?_) (hI k hk)
 refine x_attr hM hD rfl rfl (x_var hx ?_)
 refine zCq (i:=k) (zA3 hL) (nLtl hk hs rfl) g0 ?_
 refine zBt g2 g3 hf rfl ?_
 rw[hp]
 exact K _ (g4 i)
omit G in
theorem yA6(is:List Ins)(b x y:Nat):(((is++[opI 2]++[opI 2]).set is.length ⟨2,0,x,0,0,false⟩).set (is.length+1) ⟨2,0,y,0,0,false⟩).set is.length ⟨2,b,x,0,0,false⟩=is++[(⟨2,b,x,0,0,false⟩: Ins),⟨2,0,y,0,0,false⟩]:=by
 rw[List.append_assoc,List.set_append_right _ _ (Nat.le_refl _),List.set_append_right _ _ (Nat.le_succ _),List.set_append_right _ _ (Nat.le_refl _),Nat.sub_self,show is.length+1-is.length=1 by exact Nat.add_sub_self_left _ 1]
 rfl
theorem zR0(a:Part)(g:Nat)(rev:Bool)(H:MkM M most is r m)(hs:is.length<=800)(hg:g<=100)(pa:PartOk is a)(hX:a.f.b≠0->most<is.length+2->X (.int (most:Nat)) m)
  (hQ:(a.f.b≠0->is.length+2<=most)->∀ m',MkM M most (capP is a g rev).1 r m'->Q (eF (capP is a g rev).2.f) m'):zA4 W 45 (n+5) 311 [.ref M,eF a.f,.int (g:Nat),.bool rev] m Q X:=by
 refine G.fn G.k_frag_capture4 .nil rfl ?_
 refine zC0 G a.f ?_
 unfold capP at hQ
 refine zBk (p:=a.f.b=0) (λha=>?_) λha=>?_
 ·rw[if_pos ha]at hQ
  refine zI2 G ?_
  exact fin0 (hQ (λh=>absurd ha h) _ H)
 ·rw[if_neg ha]at hQ
  have b2:=zA7 (k:=2) (by decide)
  have bg:bigI (g:Int):=zA7 (nLit hg rfl)
  refine x_mM H (λU U=>rfl) rfl ?_
  refine zT1 G 2 H (nLit hs rfl) (hX ha) λhle=>?_
  refine x_mM H (λU U=>rfl) rfl ?_
  refine zH3 G 2 H (nLit hs rfl) (λh=>n55 h hle) λU m' H'=>?_
  refine x_mM H' (λU U=>rfl) rfl ?_
  refine zH3 G 2 H' (by simp;exact nLit hs rfl) (λh=>by simp at h;omega) λU m' H'=>?_
  rw[List.length_append,List.length_singleton]
  have i0:zA0 (is++[opI 2]++[opI 2]) is.length=opI 2:=by rw[zB1,if_neg (by simp),zB1,if_pos rfl]
  have i1:zA0 (is++[opI 2]++[opI 2]) (is.length+1)=opI 2:=by rw[zB1,if_pos (by simp)]
  have fin:∀{x y:Nat} {mu:Mt},x=(if rev then 2 * g+1 else 2 * g)->y=(if rev then 2 * g else 2 * g+1)->MkM M most (zAd (is++[(⟨2,a.f.b,x,0,0,false⟩: Ins),⟨2,0,y,0,0,false⟩]) a.ms (is.length+1)) r mu->Q (eF ⟨is.length,(is.length+1) * 2,(is.length+1) * 2,a.f.nl⟩) mu:=λex ey H'=>by
   subst ex;subst ey
   exact hQ (λU=>hle) _ H'
  have ch:∀ x y:Nat,Chain (is++[(⟨2,a.f.b,x,0,0,false⟩: Ins),⟨2,0,y,0,0,false⟩]) a.f.e0 a.ms:=λx y=>by
   have:=(pa.ch.push (⟨2,a.f.b,x,0,0,false⟩: Ins)).push (⟨2,0,y,0,0,false⟩: Ins)
   rwa [List.append_assoc]at this
  have v1:∀ x:Nat,fput insN (zA0 (is++[opI 2]++[opI 2]) is.length).vals 1745597 (.int (x:Nat))=(insN,(⟨2,0,x,0,0,false⟩: Ins).vals):=λx=>by rw[i0];rfl
  have v2:∀ x y:Nat,fput insN (zA0 ((is++[opI 2]++[opI 2]).set is.length ⟨2,0,x,0,0,false⟩) (is.length+1)).vals 1745597 (.int (y:Nat))=(insN,(⟨2,0,y,0,0,false⟩: Ins).vals):=λx y=>by rw[zDr (by simp),if_neg (Nat.succ_ne_self _),i1];rfl
  have v3:∀ x y:Nat,fput insN (zA0 (((is++[opI 2]++[opI 2]).set is.length ⟨2,0,x,0,0,false⟩).set (is.length+1) ⟨2,0,y,0,0,false⟩) is.length).vals 1962331 (.int (a.f.b:Nat))=(insN,(⟨2,a.f.b,x,0,0,false⟩: Ins).vals):=λx y=>by rw[zDr (by simp),if_neg (Nat.ne_add_one _),zDr (by simp),if_pos rfl];rfl
  have l0:is.length<=998:=nLit hs rfl
  have l2:(is++[opI 2]++[opI 2]).length=is.length+2:=by simp
  cases rev with
  |true=>
   refine zF8 (i:=2) (j:=g) b2 bg ?_
   refine zQl (k:=is.length) (d:=.int ((2 * g+1:Nat):Int)) ⟨2,0,2 * g+1,0,0,false⟩ H' (n7 l2 hs) (n16 l2) (by rfl) rfl (v1 _) λm' H'=>?_
   refine zF8 (i:=2) (j:=g) b2 bg ?_
   refine zQl (k:=is.length+1) (d:=.int ((2 * g:Nat):Int)) ⟨2,0,2 * g,0,0,false⟩ H' (by rw[List.length_set];exact n7 l2 hs) (by rw[List.length_set];exact n15 l2) (by rfl) rfl (v2 _ _) λm' H'=>?_
   refine zQl (k:=is.length) (d:=.int (a.f.b:Nat)) ⟨2,a.f.b,2 * g+1,0,0,false⟩ H' (by rw[List.length_set,List.length_set];exact n7 l2 hs) (by rw[List.length_set,List.length_set];exact n16 l2) (by rfl) rfl (v3 _ _) λm' H'=>?_
   rw[yA6]at H'
   refine x_mM H' (λU U=>rfl) rfl ?_
   refine zCs G a.f.e0 a.f.e1 (is.length+1) a.ms H' (by simp;exact nLit hs rfl) (ch _ _) pa.nd λm' H'=>?_
   refine zF8 (i:=(is.length+1:Nat)) (j:=2) (zA7 (k:=is.length+1) (n56 hs)) b2 ?_
   refine zBo G ((is.length+1) * 2) ?_
   exact ret4 G _ _ _ _ (fin rfl rfl H')
  |false=>
   refine zF8 (i:=2) (j:=g) b2 bg ?_
   refine zQl (k:=is.length) (d:=.int ((2 * g:Nat):Int)) ⟨2,0,2 * g,0,0,false⟩ H' (n7 l2 hs) (n16 l2) (by rfl) rfl (v1 _) λm' H'=>?_
   refine zF8 (i:=2) (j:=g) b2 bg ?_
   refine zQl (k:=is.length+1) (d:=.int ((2 * g+1:Nat):Int)) ⟨2,0,2 * g+1,0,0,false⟩ H' (by rw[List.length_set];exact n7 l2 hs) (by rw[List.length_set];exact n15 l2) (by rfl) rfl (v2 _ _) λm' H'=>?_
   refine zQl (k:=is.length) (d:=.int (a.f.b:Nat)) ⟨2,a.f.b,2 * g,0,0,false⟩ H' (by rw[List.length_set,List.length_set];exact n7 l2 hs) (by rw[List.length_set,List.length_set];exact n16 l2) (by rfl) rfl (v3 _ _) λm' H'=>?_
   rw[yA6]at H'
   refine x_mM H' (λU U=>rfl) rfl ?_
   refine zCs G a.f.e0 a.f.e1 (is.length+1) a.ms H' (by simp;exact nLit hs rfl) (ch _ _) pa.nd λm' H'=>?_
   refine zF8 (i:=(is.length+1:Nat)) (j:=2) (zA7 (k:=is.length+1) (n56 hs)) b2 ?_
   refine zBo G ((is.length+1) * 2) ?_
   exact ret4 G _ _ _ _ (fin rfl rfl H')
end
section
variable {W:Wd}(G:Gd W){n:Nat}{m:Mt}{Q X:DV->Mt->Prop}{M:Addr}{most:Nat}{is:List Ins}{r:Mt}
include G
omit G in
theorem yJb(e:i=j)(h:zA4 W 45 n f [o,d1,.int j,d2] m Q X):zA4 W 45 n f [o,d1,.int i,d2] m Q X:=e▸h
theorem zSw(o:Ord)(parts:List Part)(row:Row)(rev:Bool)(H:MkM M most is r m)(hs:is.length<=800)(hm0:is.length<=most)(hp:asL m dp=some (parts.map λp=>eF p.f))(hm:parts.length=many o)(ok:∀ p∈parts,PartOk is p/\(p.f.b=0->p.f.nl=false))(dj:o=.cat->∀ k∈(part parts 0).ms,k∉(part parts 1).ms)(h0:row.s0<=3)(h1:row.s1<=3)
  (hX:most<is.length+needs o (parts.map zAt)->X (.int (most:Nat)) m)
  (hQ:is.length+needs o (parts.map zAt)<=most->∀ m',MkM M most (made is o parts row rev).1 r m'->Q (eF (made is o parts row rev).2.f) m'):zA4 W 45 (n+7) 390 [.ref M,eO o,dp,eR row,.bool rev] m Q X:=by
 refine G.fn G.k_law_made .nil rfl ?_
 cases o with
 |range=>
  refine zX3 G row.lo row.hi row.fold H (nLit hs rfl) hX λhle m' H'=>?_
  exact fin0 (hQ hle m' H')
 |nop=>
  refine zSv G H (nLit hs rfl) hX λhle m' H'=>?_
  exact fin0 (hQ hle m' H')
 |none=>
  refine zI2 G ?_
  exact fin0 (hQ hm0 m H)
 |empty=>
  refine zX5 G row.bits H (nLit hs rfl) hX λhle m' H'=>?_
  exact fin0 (hQ hle m' H')
 |cat=>
  obtain⟨a,b,rfl⟩:=len2 hm
  refine zBv 0 rfl hp (Nat.zero_le _) rfl (zBv 1 rfl hp (Nat.le_of_ble_eq_true rfl) rfl ?_)
  refine zZr G a b H (nLit hs rfl) (ok a (.head _)).1 (ok b (.tail _ (.head _))).1 (dj rfl) λm' H'=>?_
  exact fin0 (hQ hm0 m' H')
 |alt=>
  obtain⟨a,b,rfl⟩:=len2 hm
  refine zBv 0 rfl hp (Nat.zero_le _) rfl (zBv 1 rfl hp (Nat.le_of_ble_eq_true rfl) rfl ?_)
  refine yEr G a b H (nLit hs rfl) (ok a (.head _)).1 (ok b (.tail _ (.head _))).1 (λx y h=>hX ?_) λhle m' H'=>?_
  ·simp[needs,zAt,x,y];exact n31 h hm0
  ·refine fin0 (hQ ?_ m' H')
   by_cases x:a.f.b=0
   ·simp[needs,zAt,x];exact hm0
   ·by_cases y:b.f.b=0
    ·simp[needs,zAt,y];exact hm0
    ·simp[needs,zAt,x,y];exact hle x y
 |plus=>
  obtain⟨a,rfl⟩:=len1 hm
  refine zBv 0 rfl hp (Nat.zero_le _) rfl ?_
  refine zSu G a row.lazy H (nLit hs rfl) (ok a (.head _)).1 (λx h=>hX ?_) λhle m' H'=>?_
  ·simp[needs,zAt,x];exact n31 h hm0
  ·refine fin0 (hQ ?_ m' H')
   by_cases x:a.f.b=0
   ·simp[needs,zAt,x];exact hm0
   ·simp[needs,zAt,x];exact hle x
 |quest=>
  obtain⟨a,rfl⟩:=len1 hm
  refine zBv 0 rfl hp (Nat.zero_le _) rfl ?_
  refine zPd G a row.lazy H (nLit hs rfl) (ok a (.head _)).1 hX λhle m' H'=>?_
  exact fin0 (hQ hle m' H')
 |star=>
  obtain⟨a,rfl⟩:=len1 hm
  have en:needs .star ([a].map zAt)=if a.f.b≠0/\a.f.nl=true then 2 else 1:=by
   have:=(ok a (.head _)).2
   by_cases x:a.f.b=0
   ·simp[needs,zAt,shp,x,this x]
   ·simp[needs,zAt,shp,x]
  rw[en]at hX hQ
  refine zBv 0 rfl hp (Nat.zero_le _) rfl ?_
  refine yAx G a row.lazy H (n32 hs) (ok a (.head _)).1 hX λhle m' H'=>?_
  exact fin0 (hQ hle m' H')
 |capture=>
  obtain⟨a,rfl⟩:=len1 hm
  refine zBv 0 rfl hp (Nat.zero_le _) rfl ?_
  refine zSb (j:=2) (by decide) (zA7 (k:=2) (by decide)) ?_
  have eg:(1:Int)+(if(row.s1:Int)<(row.s0:Int)then(row.s1:Int)else(row.s0:Int)) / 2=((1+min row.s0 row.s1 / 2:Nat):Int):=by
   split<;>omega
  refine yJb eg ?_
  refine zR0 G a (1+min row.s0 row.s1 / 2) rev H (n32 hs) (by omega) (ok a (.head _)).1 (λx h=>hX ?_) λhle m' H'=>?_
  ·simp[needs,zAt,x];exact Nat.lt_of_succ_le h
  ·refine fin0 (hQ ?_ m' H')
   by_cases x:a.f.b=0
   ·simp[needs,zAt,x];exact hm0
   ·simp[needs,zAt,x];exact hle x
end
section
theorem zLm(h:∀ x∈l,f x x=some true):eqL f l l=some true:=by
 induction l with
 |nil=>rfl
 |cons x r ih=>
  show ob none (f x x) _=_
  rw[h x (List.mem_cons_self ..)]
  show ob none (eqL f r r) _=_
  rw[ih λy hy=>h y (List.mem_cons_of_mem _ hy)];rfl
theorem zQ3(ih:t=true->∀ y,g y=true->f y y=some true)(x:DV)(h:plA g t x=true):eqA f x x=some true:=by
 cases x with
 |none=>rfl
 |bool a=>exact congrArg some (by cases a<;>rfl:(a==a)=true)
 |int a=>exact congrArg some (decide_eq_true rfl:decide (a=a)=true)
 |str a=>exact congrArg some (Nat.beq_refl a)
 |tup l=>exact e02 (λh1 h2=>zLm λy hy=>ih h1 y (List.all_eq_true.mp h2 y hy)) ((Bool.and_eq_true _ _).mp h)
 |lst l=>exact e02 (λh1 h2=>zLm λy hy=>ih h1 y (List.all_eq_true.mp h2 y hy)) ((Bool.and_eq_true _ _).mp h)
 |_=>exact Bool.noConfusion h
theorem zYu:∀(n:Nat) (x:DV),zBu n x=true->eqN n x x=some true:=
 Nat.rec (zQ3 λh=>Bool.noConfusion h) λn ih=>zQ3 λU=>ih
theorem zC2(ha:asL m a=some x)(hb:asL m b=some x)(hp:x.all (zBu 8)=true):zLl m a b=some true:=by
 unfold zLl
 rw[ha]
 show ob none (asL m b) _=_
 rw[hb]
 show(match Nat.beq x.length x.length with|true=>(match x.all (zBu 8)&&x.all (zBu 8)with|true=>eqL (eqN 8) x x|false=>none)|false=>some false)=_
 rw[Nat.beq_refl,hp]
 exact zLm λy hy=>zYu 8 y (List.all_eq_true.mp hp y hy)
theorem zEo(ha:asL m a=some x)(hb:asL m b=some y)(h:x.length≠y.length):zLl m a b=some false:=by
 unfold zLl
 rw[ha]
 show ob none (asL m b) _=_
 rw[hb]
 show(match Nat.beq x.length y.length with|true=>(match x.all (zBu 8)&&y.all (zBu 8)with|true=>eqL (eqN 8) x y|false=>none)|false=>some false)=_
 rw[zA9 h]
theorem MkM.getM(H:MkM M most is r m):∃ D L ps,m M=some (.inst 200 D)/\m D=some (.attrs [253107527,32376161590] [.int (most:Nat),.ref L])/\m L=some (.lst ((ps:List (Addr×Addr)).map λp=>.ref p.1))/\ps.length=is.length/\
  (∀ k p,ps[k]?=some p->m p.1=some (.inst 65 p.2)/\m p.2=some (.attrs insN (zA0 is k).vals))/\(∀ most':Nat,MkM M most' is r (m.set D (.attrs [253107527,32376161590] [.int (most':Nat),.ref L]))):=by
 obtain⟨l,rfl,H⟩:=H
 exact⟨l.D,l.L,l.ps,H.hM,H.hD,H.hL,H.len,H.hI,λmost'=>⟨l,rfl,H.setMost most'⟩⟩
noncomputable def rowD(i:Ins):DV:=.tup [.int (i.op:Nat),.int (i.out:Nat),.int (i.arg:Nat),.int (i.low:Nat),.int (i.high:Nat),.bool i.fold]
theorem zFx(l:List α)(d:α):(List.range l.length).map (λk=>l.getD k d)=l:=by
 apply List.ext_getElem
 ·simp
 ·intro i h1 h2
  simp[h2]
variable {W:Wd}(G:Gd W){n:Nat}{m:Mt}{Q X:DV->Mt->Prop}{M:Addr}{most:Nat}{is:List Ins}{r:Mt}
include G
theorem zSp{ps:List (Addr×Addr)}(hL:m L=some (.lst (ps.map λp=>.ref p.1)))(hl:ps.length=is.length)(hI:∀ k p,ps[k]?=some p->m p.1=some (.inst 65 p.2)/\m p.2=some (.attrs insN (zA0 is k).vals))(hs:is.length<=1000)(h:Q (.lst (is.map rowD)) m):zA4 W 45 (n+1) 395 [.ref L] m Q X:=by
 refine G.fn G.k_law_rows .nil rfl ?_
 have e1:(ps.map λp=>DV.ref p.1)=(List.range is.length).map λk=>DV.ref (ps.getD k (0,0)).1:=by
  conv=>lhs;rw[<-zFx ps (0,0)]
  rw[List.map_map,hl];rfl
 have e2:is.map rowD=(List.range is.length).map λk=>rowD (zA0 is k):=by
  conv=>lhs;rw[<-zFx is (opI 6)]
  rw[List.map_map];rfl
 rw[e1]at hL
 rw[e2]at h
 refine zDj (l:=List.range is.length) (λk=>DV.ref (ps.getD k (0,0)).1) (λk=>rowD (zA0 is k)) (zBb (zA3 hL)) trivial (by rw[List.length_range];exact nLit hs rfl) hL (λU=>rfl) (λk hk K hK=>?_) λa ha=>fin (Fz.new ha) h
 have hk:k<ps.length:=by rw[hl];exact List.mem_range.mp hk
 have e3:ps.getD k (0,0)=ps[k]:=by rw[List.getD_eq_getElem?_getD,List.getElem?_eq_getElem hk];rfl
 refine e02 (λg1 g2=>?_) (hI k _ (List.getElem?_eq_getElem hk))
 rw[e3]
 exact x_attr g1 g2 rfl rfl (x_attr g1 g2 rfl rfl (x_attr g1 g2 rfl rfl (x_attr g1 g2 rfl rfl (x_attr g1 g2 rfl rfl (x_attr g1 g2 rfl rfl (finC hK))))))
omit G in
theorem zR3(is:List Ins):(is.map rowD).all (zBu 8)=true:=by
 rw[List.all_map,List.all_eq_true]
 intro i _
 rfl
omit G in
theorem zL9(is:List Ins):lenV m (.lst (is.map rowD))=some is.length:=congrArg some (List.length_map ..)
omit G in
theorem zP8(H:MkM M most is' r mu)(hs:is'.length<=1000)(h1:look loc 32066903573=some (.ref M))(h2:look loc 28181297528=some (.lst (is.map rowD)))(h3:look loc 32341580436=some (.int (k:Nat)))(h4:look loc 220655771=some d)(hl:is'.length=is.length+k)(h:Q d mu) :
  run (xSs zGu .nil) (fnE W (n+7) Q X) [] loc mu:=by
 refine e35 (λD L ps hM hD hL hl' hI=>?_) H.get
 delta zGu
 refine x_var h1 (x_attr hM hD rfl rfl (zDh (k:=is'.length) ((zCc (zA3 hL)).trans (by rw[List.length_map,hl'])) (nLit hs rfl) (x_var h2 (zDh (zL9 is) (by omega) (x_var h3 (zT0 (p:=(is'.length:Int)=(is.length:Int)+(k:Int)) (λU=>x_var h4 (fin0 h)) λq=>absurd ?_ q))))))
 exact Int.neg_inj.mp (congrArg Neg.neg (congrArg Nat.cast hl))
theorem zWq{dp:DV}(o:Ord)(parts:List Part)(row:Row)(rev:Bool)(room:Nat)(H:MkM M most is r m)(hs:is.length<=800)(hr:room<=1000)(hp:asL m dp=some (parts.map λp=>eF p.f))(hpr:asL r dp=some (parts.map λp=>eF p.f))(hm:parts.length=many o)(ok:∀ p∈parts,PartOk is p/\(p.f.b=0->p.f.nl=false))(dj:o=.cat->∀ k∈(part parts 0).ms,k∉(part parts 1).ms)(h0:row.s0<=3)(h1:row.s1<=3)
  (hQ:∀ most' m',MkM M most' (made is o parts row rev).1 r m'->Q (eF (made is o parts row rev).2.f) m'):zA4 W 45 (n+8) 402 [.ref M,.int (room:Nat),.int (needs o (parts.map zAt):Nat),eO o,dp,eR row,.bool rev] m Q X:=by
 refine e36 (λD L ps hM hD hL hl hI hmost=>?_) H.getM
 refine G.fn G.k_law_tried .nil rfl ?_
 refine x_attr hM hD rfl rfl ?_
 refine zSp G hL hl hI (nLit hs rfl) ?_
 refine zDh (zL9 is) (nLit hs rfl) (zBt hM hD rfl rfl ?_)
 have ml:=zPt (row:=row) (rev:=rev) (is:=is) hm (λp hp=>(ok p hp).2)
 have mn:needs o (parts.map zAt)<=2:=zKz
 have H1:=hmost (is.length+room)
 refine zSw (is:=is) (r:=r) (most:=is.length+room) G o parts row rev H1 hs (n38) (zB0 H1.rest hpr) hm ok dj h0 h1 (λhlt=>?_) λhle m' H'=>?_
 ·refine e36 (λD L ps hM hD hL hl hI hmost=>?_) H1.getM
  refine yEt (p:=(room:Int)<(needs o (parts.map zAt):Nat)) (by omega) ?_
  refine zDh (zL9 is) (nLit hs rfl) (zT0 (p:=((is.length+room:Nat):Int)=(is.length:Int)+(room:Int)) (λU=>?_) λq=>absurd (Int.natCast_add _ _) q)
  refine x_attr hM hD rfl rfl ?_
  refine zSp G hL hl hI (nLit hs rfl) ?_
  refine j_V (congrArg (Option.map (!·)) (zC2 rfl rfl (zR3 is)):cmpX _ .ne (.lst (is.map rowD)) (.lst (is.map rowD))=some (!true)) (λq=>Bool.noConfusion q) λU=>?_
  refine zBt hM hD rfl rfl ?_
  have H2:=hmost 1000
  refine zSw (is:=is) (r:=r) (most:=1000) G o parts row rev H2 hs (nLit hs rfl) (zB0 H2.rest hpr) hm ok dj h0 h1 (λhlt=>by omega) λhle m' H'=>?_
  exact zP8 (is:=is) (k:=needs o (parts.map zAt)) H' (n53 ml hs mn) (by rfl) (by rfl) (by rfl) (by rfl) ml (hQ _ _ H')
 ·refine yEu (p:=(room:Int)<(needs o (parts.map zAt):Nat)) (by omega) ?_
  exact zP8 (is:=is) (k:=needs o (parts.map zAt)) H' (n53 ml hs mn) (by rfl) (by rfl) (by rfl) (by rfl) ml (hQ _ _ H')
end
section
def eC(c:Conf):DV:=.tup [.int (c.1:Nat),.int (c.2.1:Nat),eK c.2.2]
variable {W:Wd}(G:Gd W){n:Nat}{m:Mt}{Q X:DV->Mt->Prop}{M:Addr}{most:Nat}{is:List Ins}{r:Mt}
include G
theorem yAw(i:Ins)(at_:Nat)(k:Kept)(text holds:List Nat)(h1:m a=some (.inst 65 x))(h2:m x=some (.attrs insN i.vals))(hh:asL m dh=some (holds.map eN))(hH:holds.length=5)(hL:text.length<=4)(hT:∀ x∈text,x<256)(hat:at_<=text.length)(hk:k.length<=4)(hc:i.op=2->2<=i.arg)(h:Q (.lst ((ways i at_ k text holds).map eC)) m):zA4 W 45 (n+2) 409 [.ref a,.int (at_:Nat),eK k,eB text,dh] m Q X:=by
 refine G.fn G.k_law_ways .nil rfl ?_
 have A:∀{x':Nat} {d:DV} {e:En} {c:C} {s:List DV} {lo:Loc},fld insN i.vals x'=some d->T0.rd 65 x'=true->run c e (d::s) lo m->opt (getI m a x') λp=>sel (T0.rd p.1 x') (run c e (p.2::s) lo m) False:=λhf hr k=>x_attr h1 h2 hf hr k
 unfold ways at h
 refine A rfl rfl (zBk (p:=(i.op:Int)=0) (λc0=>?_) λc0=>?_)
 ·rw[if_pos (Int.ofNat.inj c0)]at h
  refine A rfl rfl (A rfl rfl ?_)
  exact λb hb=>fin (Fz.new hb) h
 ·have c0:¬ i.op=0:=λq=>c0 (congrArg Int.ofNat q)
  rw[if_neg c0]at h
  have rest:(Q (.lst ((if i.op=2 then[(i.out,at_,kept k (zCm (i.arg-2) at_))]else if(decide (i.op=1)&&zC9 i.low i.high i.fold text at_)=true then[(i.out,at_+1,k)]else[]).map eC)) m)->run (xSs zIq .nil) (fnE W (n+1) Q X) [] ([253107394,15191,253056312,253189449,32341698207].zip ([.ref a,.int (at_:Nat),eK k,eB text,dh]++[])) m:=λh=>by
   delta zIq
   refine A rfl rfl (zBk (p:=(i.op:Int)=2) (λc2=>?_) λc2=>?_)
   ·have c2:=Int.ofNat.inj c2
    rw[if_pos c2]at h
    refine A rfl rfl (A rfl rfl ?_)
    refine zWu G _ (i.arg-2) at_ (by have:=hc c2;omega) ?_
    refine zKm G k _ hk (Nat.le_of_eq (zD2 _ _)) ?_
    exact λb hb=>fin (Fz.new hb) h
   ·rw[if_neg (λq=>c2 (congrArg Int.ofNat q))]at h
    have no:(decide (i.op=1)&&zC9 i.low i.high i.fold text at_)=false->Q (.lst []) m:=λq=>by
     rw[q,if_neg (by decide)]at h;exact h
    refine A rfl rfl (zBk (p:=(i.op:Int)=1) (λc1=>?_) λc1=>?_)
    ·have c1:=Int.ofNat.inj c1
     rw[decide_eq_true c1,Bool.true_and]at h no
     refine zDh (lenB text) (nLit hL rfl) (zBk (p:=(at_:Int)<(text.length:Nat)) (λhd=>?_) λhd=>?_)
     ·have hd:=Int.ofNat_lt.mp hd
      rw[zC9,decide_eq_true hd,Bool.true_and]at h no
      refine A rfl rfl (A rfl rfl (A rfl rfl ?_))
      refine zZl (zA7 (by omega)) (zAq (by simp;exact nLit hL rfl)) (zTo hd hT) ?_
      refine zSr G i.low i.high i.fold (text.getD at_ 0) ?_
      refine zGl (λhf=>?_) λhf=>?_
      ·rw[if_pos hf]at h
       refine A rfl rfl ?_
       exact λb hb=>fin (Fz.new hb) h
      ·exact λb hb=>fin (Fz.new hb) (no hf)
     ·refine λb hb=>fin (Fz.new hb) (no ?_)
      rw[zC9,decide_eq_false (λq=>hd (Int.ofNat_lt.mpr q)),Bool.false_and]
    ·refine λb hb=>fin (Fz.new hb) (no ?_)
     rw[decide_eq_false (λq=>c1 (congrArg Int.ofNat q)),Bool.false_and]
  have yes:(i.op=5\/i.op=3/\zDd i.arg holds at_=true)->Q (.lst [eC (i.out,at_,k)]) m:=λq=>by
   rw[if_pos (by rcases q with q|q<;>simp[q])]at h;exact h
  refine A rfl rfl (zBk (p:=(i.op:Int)=5) (λc5=>?_) λc5=>?_)
  ·refine A rfl rfl ?_
   exact λb hb=>fin (Fz.new hb) (yes (.inl (Int.ofNat.inj c5)))
  ·have c5:¬ i.op=5:=λq=>c5 (congrArg Int.ofNat q)
   refine A rfl rfl (zBk (p:=(i.op:Int)=3) (λc3=>?_) λc3=>?_)
   ·have c3:=Int.ofNat.inj c3
    refine zCq (l:=holds.map eN) (i:=at_) (d:=eN (holds.getD at_ 0)) hh (by omega) (by rw[List.getElem?_map,List.getElem?_eq_getElem (n68 hH hat hL),List.getD_eq_getElem?_getD,List.getElem?_eq_getElem (n68 hH hat hL)];rfl) ?_
    refine A rfl rfl ?_
    refine zSc (i:=holds.getD at_ 0) (j:=i.arg) ?_
    refine A rfl rfl (zBk (p:=Int.ofNat (holds.getD at_ 0&&& i.arg)=(i.arg:Int)) (λhd=>?_) λhd=>?_)
    ·refine A rfl rfl ?_
     exact λb hb=>fin (Fz.new hb) (yes (.inr ⟨c3,decide_eq_true (Int.ofNat.inj hd)⟩))
    ·rw[if_neg (by simp[c5,c3,zDd];exact λq=>hd (congrArg Int.ofNat q))]at h
     exact rest h
   ·rw[if_neg (by simp[c5];exact λq=>absurd (congrArg Int.ofNat q) c3)]at h
    exact rest h
end
section
noncomputable def dTof:List (Nat×Nat)->MObj
 |[]=>.dE
 |l=>.dT (l.map λp=>[(p.1:Int),(p.2:Int)])
theorem yIu(h:μ b=some (dTof met)):inV μ (.tup [.int (i:Nat),.int (j:Nat)]) (.ref b)=some (decide ((i,j)∈met)):=by
 show ob none (μ b) (inO (.tup [.int (i:Nat),.int (j:Nat)]))=_
 rw[h]
 have key:∀ l:List (Nat×Nat),(l.map λp=>[(p.1:Int),(p.2:Int)]).contains [(i:Int),(j:Int)]=decide ((i,j)∈l):=by
  intro l
  rw[Bool.eq_iff_iff,List.contains_iff_mem,decide_eq_true_eq,List.mem_map]
  constructor
  ·rintro⟨p,hp,e⟩
   simp only[List.cons.injEq,and_true]at e
   have:p=(i,j):=by cases p;simp only[Prod.mk.injEq];exact n72 e
   rwa [<-this]
  ·intro h;exact⟨_,h,rfl⟩
 cases met with
 |nil=>rfl
 |cons x r=>exact congrArg some (key (x::r))
theorem yF5(hc:(i,j)∉met):zQ7 (.tup [.int (i:Nat),.int (j:Nat)]) (dTof met)=some (dTof (met++[(i,j)])):=by
 cases met with
 |nil=>rfl
 |cons x r=>
  have:(List.map (λp:Nat×Nat=>[(p.1:Int),(p.2:Int)]) (x::r)).contains [(i:Int),(j:Int)]=false:=by
   rw[Bool.eq_false_iff];intro h
   rw[List.contains_iff_mem,List.mem_map]at h
   (revert h;refine e12 λp hp e=>?_)
   simp only[List.cons.injEq,and_true]at e
   have:p=(i,j):=by cases p;simp only[Prod.mk.injEq];exact n72 e
   exact hc (this▸hp)
  show some (MObj.dT (if(List.map (λp:Nat×Nat=>[(p.1:Int),(p.2:Int)]) (x::r)).contains [(i:Int),(j:Int)]=true then _ else _))=_
  rw[this]
  exact congrArg (λl=>some (MObj.dT l)) (List.map_append (f:=λp:Nat×Nat=>[(p.1:Int),(p.2:Int)]) (l₁:=x::r) (l₂:=[(i,j)])).symm
theorem zSz{mu:Mt}{b:Addr}{met:List (Nat×Nat)}{i j:Nat}{K:St->Prop}(h:mu b=some (dTof met))(hc:(i,j)∉met)(hs:met.length<=1000)(k:K ⟨loc,mu.set b (dTof (met++[(i,j)]))⟩):zI4 (.ref b) (.tup [.int (i:Nat),.int (j:Nat)]) (.bool true) K ⟨loc,mu⟩:=by
 have hl:zNi (dTof met)=met.length:=by cases met<;>simp[dTof,zNi]
 have q:∀ mo,dTof met=mo->lstO mo=none:=by cases met<;>(rintro _ rfl;rfl)
 refine zAy (a:=b) rfl (zAy h ?_)
 rw[q _ rfl]
 exact zAy (yF5 hc) ⟨zAq (by rw[hl];exact nLit hs rfl),k⟩
theorem zSe(hk:k.length<=4):∀ c∈ways i at_ k text holds,c.2.2.length<=4:=by
 intro c hc
 unfold ways at hc
 split at hc
 ·simp at hc;rcases hc with rfl|rfl<;>exact hk
 ·split at hc
  ·simp at hc;subst hc;exact hk
  ·split at hc
   ·simp at hc;subst hc;exact zEz (by simp[zD2])
   ·split at hc
    ·simp at hc;subst hc;exact hk
    ·simp at hc
theorem zWh:(ways i at_ k text holds).length<=2:=by
 unfold ways
 split
 ·simp
 ·split
  ·simp
  ·split
   ·simp
   ·split<;>simp
theorem yI0(PP:List Conf->List (Nat×Nat)->List Way->Loc->Mt->Prop)(hp:PP S met found loc mu)(D:Dfs is text holds S met found res)
  (hdone:∀ met lo mu K,PP [] met res lo mu->run b (e.loop K λV=>run c e [] V.loc V.mu) [] lo mu)
  (hstep:∀ n a k left met found lo mu K,left.length<=1000->PP ((n,a,k)::left) met found lo mu->((n,a)∈met->∀ lo mu,PP left met found lo mu->K ⟨lo,mu⟩)->
   ((n,a)∉met->n<is.length/\a<=text.length/\met.length<=1000/\found.length<=1000/\∀ lo mu,PP (ways (zA0 is n) a k text holds++left) ((n,a)::met) (if(zA0 is n).op=4 then found++[(a,k)]else found) lo mu->K ⟨lo,mu⟩)->run b (e.loop K λV=>run c e [] V.loc V.mu) [] lo mu):run (.whl b c) e [] loc mu:=by
 refine Exists.imp (λU f=>f loc mu hp) (?_:∃ k,∀ lo mu,PP S met found lo mu->zH1 (λK V=>run b (e.loop K λV=>run c e [] V.loc V.mu) [] V.loc V.mu) k ⟨lo,mu⟩)
 clear hp
 induction D with
 |done=>exact⟨1,λlo mu q=>hdone _ lo mu _ q⟩
 |old h1 h2 _ ih=>
  refine e11 (λk hk=>?_) (ih hdone)
  exact⟨k+1,λlo mu q=>hstep _ _ _ _ _ _ lo mu _ h2 q (λU=>hk) λq=>absurd h1 q⟩
 |new h1 h2 h3 h4 h5 h6 _ ih=>
  refine e11 (λk hk=>?_) (ih hdone)
  exact⟨k+1,λlo mu q=>hstep _ _ _ _ _ _ lo mu _ h4 q (λq=>absurd q h1) λU=>⟨h2,h3,h5,h6,hk⟩⟩
theorem yFu(h:μ b=some (dTof met)):cmpV μ .nin (.tup [.int (i:Nat),.int (j:Nat)]) (.ref b)=some (!decide ((i,j)∈met)):=congrArg (Option.map (!·)) (yIu h)
theorem yE8{r:C}{loc:Loc}{mu:Mt}{b:Addr}{met:List (Nat×Nat)}{i j:Nat}(h:mu b=some (dTof met))(hc:(i,j)∉met)(hs:met.length<=1000)(k:run r en s loc (mu.set b (dTof (met++[(i,j)])))):setY (.ref b) (.tup [.int (i:Nat),.int (j:Nat)]) (.bool true) (λV=>run r en s V.loc V.mu) ⟨loc,mu⟩:=by
 rw[zKo];exact zSz (loc:=loc) h hc hs k
variable {W:Wd}(G:Gd W){n:Nat}{m:Mt}{Q X:DV->Mt->Prop}{is:List Ins}
include G
theorem zQ2{ps:List (Addr×Addr)}{dh:DV}{n' a:Nat}{k:Kept}{left:List Conf}(text holds:List Nat)(mL:mu L=some (.lst (ps.map λp=>.ref p.1)))(hl:ps.length=is.length)(hI:∀ k p,ps[k]?=some p->mu p.1=some (.inst 65 p.2)/\mu p.2=some (.attrs insN (zA0 is k).vals))(hs:is.length<=1000)(hn:n'<is.length)
  (hh:asL mu dh=some (holds.map eN)) (hH:holds.length=5) (hLt:text.length<=4) (hT:∀ x∈text,x<256) (hat:a<=text.length) (hk:k.length<=4) (hop:(zA0 is n').op=2->2<=(zA0 is n').arg)
  (l3:look loc 252889903=some (.ref l)) (l4:look loc 32376161590=some (.ref L)) (l5:look loc 253189449=some (eB text)) (l6:look loc 32341698207=some dh) (l7:look loc 4136611441551=some (.int (n':Nat))) (l8:look loc 15191=some (.int (a:Nat))) (l9:look loc 253056312=some (eK k))
  (m3:mu l=some (.lst (left.reverse.map eC))) (hlen:left.length<=1000) (hn2:e.n=n+2) (hW:e.W=W)
  (K:∀ mu',Sub mu mu'->run .nil e [] loc (mu'.set l (.lst ((ways (zA0 is n') a k text holds++left).reverse.map eC)))):run (xSs zGx .nil) e [] loc mu:=by
 delta zGx
 have hn':n'<ps.length:=by rw[hl];exact hn
 have wl:=@zWh (zA0 is n') a k text holds
 refine e02 (λg1 g2=>?_) (hI n' _ (List.getElem?_eq_getElem hn'))
 refine x_var l3 (x_meX m3 (x_var l4 (x_var l7 ?_)))
 refine zCq (i:=n') (zA3 mL) (d:=.ref (ps[n']).1) (nLtl hn hs rfl) (by rw[List.getElem?_map,List.getElem?_eq_getElem hn'];rfl) ?_
 refine x_var l8 (x_var l9 (x_var l5 (x_var l6 ?_)))
 obtain⟨eW,en,eQ,eX,eZ⟩:=e
 dsimp only at hn2 hW
 subst hn2;subst hW
 refine yAw G (zA0 is n') a k text holds g1 g2 hh hH hLt hT hat hk hop ?_
 refine yHw (l:=(ways (zA0 is n') a k text holds).map eC) rfl (by rw[List.length_map];exact nLit wl rfl) λc hc=>?_
 refine yAf (Mt.keep (Mt.ne_of m3 hc) m3) asL_new (by rw[List.length_map,List.length_reverse,List.length_reverse,List.length_map];omega) ?_
 have:=K _ (Sub.rfl.new (o:=.lst (((ways (zA0 is n') a k text holds).map eC).reverse)) hc)
 rw[List.reverse_append,List.map_append,List.map_reverse (l:=ways (zA0 is n') a k text holds)]at this
 exact this
omit G in
def yHt(m:Mt)(f b l L:Addr)(text:List Nat)(dh:DV)(S:List Conf)(met:List (Nat×Nat))(found:List Way)(loc:Loc)(mu:Mt):Prop:=(∀ c∈S,c.2.2.length<=4)/\look loc 28209471649=some (.ref f)/\look loc 1960265=some (.ref b)/\look loc 252889903=some (.ref l)/\look loc 32376161590=some (.ref L)/\look loc 253189449=some (eB text)/\look loc 32341698207=some dh/\
  mu f=some (.lst (found.map eW))/\mu b=some (dTof met.reverse)/\mu l=some (.lst (S.reverse.map eC))/\Sub m mu
theorem zWx{ps:List (Addr×Addr)}{dh:DV}(b0:Nat)(text holds:List Nat)(res:List Way)(hL:m L=some (.lst (ps.map λp=>.ref p.1)))(hl:ps.length=is.length)(hI:∀ k p,ps[k]?=some p->m p.1=some (.inst 65 p.2)/\m p.2=some (.attrs insN (zA0 is k).vals))(hs:is.length<=1000)
  (hh:asL m dh=some (holds.map eN)) (hH:holds.length=5) (hLt:text.length<=4) (hT:∀ x∈text,x<256) (hop:∀ k,(zA0 is k).op=2->2<=(zA0 is k).arg) (D:Dfs is text holds [(b0,0,zAc)] [] [] res) (h:Q (eWs res) m):zA4 W 45 (n+3) 416 [.ref L,.int (b0:Nat),eB text,dh] m Q X:=by
 refine G.fn G.k_law_found .nil rfl ?_
 intro f hf b hb
 have nbf:=Mt.ne_new hb
 have hb:=Mt.old hb
 refine zGk G ?_
 intro l hl0
 have nlb:=Mt.ne_new hl0
 have hl0:=Mt.old hl0
 have nlf:=Mt.ne_new hl0
 have hl0:=Mt.old hl0
 refine yI0 (yHt m f b l L text dh) (S:=[(b0,0,zAc)]) ⟨λc hc=>by rw[List.mem_singleton.mp hc];exact Nat.le_of_ble_eq_true rfl,rfl,rfl,rfl,rfl,rfl,rfl,Mt.keep nlf.symm (Mt.keep nbf.symm (Mt.set_self _ _ _)),Mt.keep nlb.symm (Mt.set_self _ _ _),Mt.set_self _ _ _,((Sub.rfl.new hf).put hb).put hl0⟩ D
  (λmet lo mu K p=>e0b (λhk l1 l2 l3 l4 l5 l6 m1 m2 m3 S=>?_) p) λn' a k left met found lo mu K hlen p hold hnew=>e0b (λhk l1 l2 l3 l4 l5 l6 m1 m2 m3 S=>?_) p
 ·refine x_var l3 λc hc=>?_
  refine zNa (congrArg (Option.map (!·)) (zC2 (x:=[]) (zA3 (Mt.keep (Mt.ne_of m3 hc) m3)) asL_new rfl):cmpV _ .ne (.ref l) (.ref c)=some (!true)) ?_
  exact x_var l1 (fin ((S.new hc).list (Mt.keep (Mt.ne_of m1 hc) m1) hf) h)
 ·refine x_var l3 λc hc=>?_
  have Sc:=S.new (o:=.lst []) hc
  have g3:(mu.set c (.lst [])) l=some (.lst ((left.reverse.map eC)++[eC (n',a,k)])):=by rw[Mt.keep (Mt.ne_of m3 hc) m3];simp
  have g2:=Mt.keep (o:=.lst []) (Mt.ne_of m2 hc) m2
  have g1:=Mt.keep (o:=.lst []) (Mt.ne_of m1 hc) m1
  refine zOh (congrArg (Option.map (!·)) (zEo (y:=[]) (zA3 g3) asL_new (by simp)):cmpV _ .ne (.ref l) (.ref c)=some (!false)) ?_
  refine x_var l3 (yEb g3 ?_)
  refine yHx g3 (by simp;omega) ?_
  have g2:=Mt.keep (o:=.lst (left.reverse.map eC)) nlb.symm g2
  have g1:=Mt.keep (o:=.lst (left.reverse.map eC)) nlf.symm g1
  refine x_var (d:=.int (n':Nat)) (by kst_p) (x_var (d:=.int (a:Nat)) (by kst_p) (x_var (d:=.ref b) (by kst_p) ?_))
  refine j_c (yFu (i:=n') (j:=a) g2) (λq=>?_) λq=>?_
  ·have q:(n',a)∉met:=λh=>by rw[decide_eq_true (List.mem_reverse.mpr h)]at q;cases q
   refine e05 (λhn ha hmet hfl hK=>?_) (hnew q)
   refine x_var (d:=.ref b) (by kst_p) (x_var (d:=.int (n':Nat)) (by kst_p) (x_var (d:=.int (a:Nat)) (by kst_p) ?_))
   refine yE8 g2 (λh=>q (List.mem_reverse.mp h)) (by rw[List.length_reverse];exact hmet) ?_
   have Sd:=(Sc.put (o:=.lst (left.reverse.map eC)) hl0).put (o:=dTof (met.reverse++[(n',a)])) hb
   have e1:=Mt.keep (o:=dTof (met.reverse++[(n',a)])) nbf.symm g1
   have e2:(((mu.set c (.lst [])).set l (.lst (left.reverse.map eC))).set b (dTof (met.reverse++[(n',a)]))) b=some (dTof ((n',a)::met).reverse):=by rw[Mt.set_self,List.reverse_cons]
   have e3:=Mt.keep (o:=dTof (met.reverse++[(n',a)])) nlb (Mt.set_self (mu.set c (.lst [])) l (.lst (left.reverse.map eC)))
   have hn'':n'<ps.length:=by rw[hl];exact hn
   have hk0:=hk _ (.head _)
   have hks:∀ c∈ways (zA0 is n') a k text holds++left,c.2.2.length<=4:=λc hc=>(List.mem_append.mp hc).elim (zSe hk0 c) λhc=>hk c (.tail _ hc)
   have next:∀{mu3 mu':Mt} {lo:Loc} {fo:List Way},look lo 28209471649=some (.ref f)->look lo 1960265=some (.ref b)->look lo 252889903=some (.ref l)->look lo 32376161590=some (.ref L)->look lo 253189449=some (eB text)->look lo 32341698207=some dh->Sub m mu3->mu3 f=some (.lst (fo.map eW))->mu3 b=some (dTof ((n',a)::met).reverse)->
     (if(zA0 is n').op=4 then found++[(a,k)]else found)=fo->Sub mu3 mu'->K ⟨lo,mu'.set l (.lst ((ways (zA0 is n') a k text holds++left).reverse.map eC))⟩:=λa1 a2 a3 a4 a5 a6 S3 f1 f2 e Sm=>hK _ _ ⟨hks,a1,a2,a3,a4,a5,a6,Mt.keep nlf.symm (by rw[e];exact Sm _ _ f1),Mt.keep nlb.symm (Sm _ _ f2),Mt.set_self _ _ _,(S3.trans Sm).put hl0⟩
   refine e02 (λq1 q2=>?_) (hI n' _ (List.getElem?_eq_getElem hn''))
   refine x_var (d:=.ref L) (by kst_p) (x_var (d:=.int (n':Nat)) (by kst_p) ?_)
   refine zCq (i:=n') (d:=.ref (ps[n']).1) (zA3 (Sd _ _ hL)) (by omega) (by rw[List.getElem?_map,List.getElem?_eq_getElem hn''];rfl) ?_
   refine x_attr (Sd _ _ q1) (Sd _ _ q2) rfl rfl ?_
   refine zBk (p:=((zA0 is n').op:Int)=4) (λc4=>?_) λc4=>?_
   ·have Se:=Sd.put (o:=.lst (found.map eW++[eW (a,k)])) hf
    refine x_var (d:=.ref f) (by kst_p) (x_meA e1 ?_)
    kst_mem
    refine zM8 e1 (by rw[List.length_map];omega) ?_
    refine zQ2 G (L:=L) (l:=l) (ps:=ps) (dh:=dh) (n':=n') (a:=a) (k:=k) (left:=left) text holds (Se _ _ hL) hl (λk p hp=>⟨Se _ _ (hI k p hp).1,Se _ _ (hI k p hp).2⟩) hs hn (zB0 Se hh) hH hLt hT ha hk0 (hop n') (by kst_p) (by kst_p) (by kst_p) (by kst_p) (by kst_p) (by kst_p) (by kst_p) (Mt.keep nlf e3) hlen rfl rfl λmu' Sm=>?_
    exact next (by kst_p) (by kst_p) (by kst_p) (by kst_p) (by kst_p) (by kst_p) Se (Mt.at_ (List.map_append (l₂:=[(a,k)])).symm) (Mt.keep nbf e2) (if_pos (Int.ofNat.inj c4)) Sm
   ·refine zQ2 G (L:=L) (l:=l) (ps:=ps) (dh:=dh) (n':=n') (a:=a) (k:=k) (left:=left) text holds (Sd _ _ hL) hl (λk p hp=>⟨Sd _ _ (hI k p hp).1,Sd _ _ (hI k p hp).2⟩) hs hn (zB0 Sd hh) hH hLt hT ha hk0 (hop n') (by kst_p) (by kst_p) (by kst_p) (by kst_p) (by kst_p) (by kst_p) (by kst_p) e3 hlen rfl rfl λmu' Sm=>?_
    exact next (by kst_p) (by kst_p) (by kst_p) (by kst_p) (by kst_p) (by kst_p) Sd e1 e2 (if_neg (λq=>c4 (congrArg Int.ofNat q))) Sm
  ·have q:(n',a)∈met:=by
    apply Classical.byContradiction
    intro h
    rw[decide_eq_false (λh'=>h (List.mem_reverse.mp h'))]at q;cases q
   exact hold q _ _ ⟨λc hc=>hk c (.tail _ hc),by kst_p,by kst_p,by kst_p,by kst_p,by kst_p,by kst_p,g1,g2,Mt.set_self _ _ _,Sc.put hl0⟩
end
section
variable {W:Wd}(G:Gd W){n:Nat}{m:Mt}{Q X:DV->Mt->Prop}{is:List Ins}
include G
theorem zKn(i:Ins)(h1:m a=some (.inst 65 x))(h2:m x=some (.attrs insN i.vals))(ok:InsOk i N)(h:Q .none m):zA4 W 45 (n+1) 104 [.ref a] m Q X:=by
 refine G.fn G.k_inst_fault .nil rfl ?_
 have A:∀{x':Nat} {d:DV} {e:En} {c:C} {s:List DV} {lo:Loc},fld insN i.vals x'=some d->T0.rd 65 x'=true->run c e (d::s) lo m->opt (getI m a x') λp=>sel (T0.rd p.1 x') (run c e (p.2::s) lo m) False:=λhf hr k=>x_attr h1 h2 hf hr k
 have no:∀{j:Nat} {A B:Prop},i.op≠j->B->sel (decide ((i.op:Int)=(j:Int))) A B:=λq k=>yB0 (λh=>q (Int.ofNat.inj h)) k
 have ye:∀{j:Nat} {A B:Prop},i.op=j->A->sel (decide ((i.op:Int)=(j:Int))) A B:=λq k=>zR2 (congrArg Int.ofNat q) k
 by_cases c1:i.op=1
 ·refine e02 (λo1 o2=>?_) (ok.range c1)
  refine A rfl rfl (ye (j:=1) c1 (A rfl rfl (A rfl rfl (zR2 (p:=(i.low:Int)<=i.high) (Int.ofNat_le.mpr o1) (zR2 (p:=(i.high:Int)<=255) (Nat.ToInt.of_le rfl rfl o2) ?_)))))
  exact A rfl rfl (no (j:=2) (by omega) (A rfl rfl (no (j:=3) (by omega) (A rfl rfl (no (j:=4) (by omega) (fin0 h))))))
 ·refine A rfl rfl (no (j:=1) c1 (A rfl rfl ?_))
  by_cases c2:i.op=2
  ·have o1:=ok.cap c2
   exact ye (j:=2) c2 (A rfl rfl (yB0 (p:=(i.arg:Int)<2) (by omega) (A rfl rfl (no (j:=3) (by omega) (A rfl rfl (no (j:=4) (by omega) (fin0 h)))))))
  ·refine no (j:=2) c2 (A rfl rfl ?_)
   by_cases c3:i.op=3
   ·refine e02 (λo1 o2=>?_) (ok.empty c3)
    refine ye (j:=3) c3 (A rfl rfl (yB0 (p:=(i.arg:Int)=0) (Int.ofNat_ne_zero.mpr o1) (A rfl rfl ?_)))
    refine zSc (i:=i.arg) (j:=63) (A rfl rfl (zT0 (p:=Int.ofNat (i.arg&&& 63)=(i.arg:Int)) (λU=>?_) λq=>absurd (congrArg Int.ofNat o2) q))
    exact A rfl rfl (no (j:=4) (by omega) (fin0 h))
   ·refine no (j:=3) c3 (A rfl rfl ?_)
    by_cases c4:i.op=4
    ·exact ye (j:=4) c4 (A rfl rfl (fin0 h))
    ·exact no (j:=4) c4 (fin0 h)
end
section
noncomputable def prN:List Nat:=[32376161590,32648492339,131322104223801899105978,129907780876443790661926,693329460861025571136594217707607069,35998791720882497672107593410212,542699284915561,32341513866,4352065896212,4640661148044596755148102409466918,8965708764269794395]
noncomputable def prV(L hd:Addr)(a b:Int):List DV:=[.ref L,.int a,.int b,.bool false,.bool false,.bool false,.bool false,.ref hd,.bytes #[],.bool false,.none]
def yHo(p:Addr)(N:Nat)(mu:Mt)(us:List Nat)(loc:Loc)(mu':Mt):Prop:=(∀ w∈us,w<N)/\look loc 225134396=some (.ref p)/\mu'=mu
variable {W:Wd}(G:Gd W){n:Nat}{m:Mt}{Q X:DV->Mt->Prop}{is:List Ins}
include G
theorem zKl{ps:List (Addr×Addr)}{b0 b1:Int}(k:Nat)(hp:m p=some (.inst 86 pd))(hpd:m pd=some (.attrs prN (prV L hd b0 b1)))(hL:m L=some (.lst (ps.map λp=>.ref p.1)))(hl:ps.length=is.length)(hI:∀ k p,ps[k]?=some p->m p.1=some (.inst 65 p.2)/\m p.2=some (.attrs insN (zA0 is k).vals))(hs':is.length<=1000)(hk:k<is.length)
  (ok:InsOk (zA0 is k) is.length) (h:Q .none m):zA4 W 45 (n+1) 111 [.ref p,.int (k:Nat),.ref hs] m Q X:=by
 refine G.fn G.k_program_ways_fault .nil rfl ?_
 have hk':k<ps.length:=by rw[hl];exact hk
 refine e02 (λg1 g2=>?_) (hI k _ (List.getElem?_eq_getElem hk'))
 refine x_attr hp hpd rfl rfl (zCq (i:=k) (zA3 hL) (d:=.ref (ps[k]).1) (nLtl hk hs' rfl) (by rw[List.getElem?_map,List.getElem?_eq_getElem hk'];rfl) (x_attr g1 g2 rfl rfl ?_))
 refine yEs (p:=(4:Int)=((zA0 is k).op:Int)) (λU=>fin0 h) λc4=>yEs (p:=(6:Int)=((zA0 is k).op:Int)) (λU=>fin0 h) λc6=>?_
 have o1:=ok.out (λq=>c4 (by rw[q];rfl)) (λq=>c6 (by rw[q];rfl))
 refine x_attr g1 g2 rfl rfl (zBk (p:=((zA0 is k).op:Int)=0) (λc0=>?_) λc0=>?_)
 ·have o2:=ok.alt (Int.ofNat.inj c0)
  refine x_attr g1 g2 rfl rfl (x_attr g1 g2 rfl rfl λc hc=>?_)
  have Sc:Sub m (m.set c (.lst ([(zA0 is k).out,(zA0 is k).arg].map eN))):=Sub.rfl.new hc
  have mc:=Mt.set_self m c (.lst ([(zA0 is k).out,(zA0 is k).arg].map eN))
  refine zDi (l:=[(zA0 is k).out,(zA0 is k).arg]) eN (lo:=λx loc=>put loc 2042964 (eN x)) (yHo p is.length _) (zBb (zA3 mc)) trivial (λU U U=>rfl) ⟨by simp;exact n74 o1 o2,rfl,rfl⟩ (λU U U q=>by rw[q.2.2];exact mc) (λlo mu q=>?_) λw us lo mu K q hK=>?_
  ·rw[q.2.2];exact fin (Sub.fz Sc) h
  ·obtain⟨hw,l1,rfl⟩:=q
   refine x_var (d:=eN w) (by kst_p) ?_
   refine x_var (d:=.ref p) (by kst_p) (x_attr (Sc _ _ hp) (Sc _ _ hpd) rfl rfl (zDh (k:=is.length) ((zCc (zA3 (Sc _ _ hL))).trans (by rw[List.length_map,hl])) (nLit hs' rfl) (zR2 (p:=(w:Int)<(is.length:Nat)) (Int.ofNat_lt.mpr (hw _ (.head _))) (x_var (d:=.ref p) (by kst_p) (x_attr (Sc _ _ hp) (Sc _ _ hpd) rfl rfl ?_)))))
   exact hK _ _ ⟨λw' h'=>hw w' (.tail _ h'),by kst_p,rfl⟩
 ·refine x_attr g1 g2 rfl rfl λc hc=>?_
  have Sc:Sub m (m.set c (.lst ([(zA0 is k).out].map eN))):=Sub.rfl.new hc
  have mc:=Mt.set_self m c (.lst ([(zA0 is k).out].map eN))
  refine zDi (l:=[(zA0 is k).out]) eN (lo:=λx loc=>put loc 2042964 (eN x)) (yHo p is.length _) (zBb (zA3 mc)) trivial (λU U U=>rfl) ⟨by simp;exact Nat.lt_of_succ_le o1,rfl,rfl⟩ (λU U U q=>by rw[q.2.2];exact mc) (λlo mu q=>?_) λw us lo mu K q hK=>?_
  ·rw[q.2.2];exact fin (Sub.fz Sc) h
  ·obtain⟨hw,l1,rfl⟩:=q
   refine x_var (d:=eN w) (by kst_p) ?_
   refine x_var (d:=.ref p) (by kst_p) (x_attr (Sc _ _ hp) (Sc _ _ hpd) rfl rfl (zDh (k:=is.length) ((zCc (zA3 (Sc _ _ hL))).trans (by rw[List.length_map,hl])) (nLit hs' rfl) (zR2 (p:=(w:Int)<(is.length:Nat)) (Int.ofNat_lt.mpr (hw _ (.head _))) (x_var (d:=.ref p) (by kst_p) (x_attr (Sc _ _ hp) (Sc _ _ hpd) rfl rfl ?_)))))
   exact hK _ _ ⟨λw' h'=>hw w' (.tail _ h'),by kst_p,rfl⟩
end
section
def yHr(p f:Addr)(N:Nat)(mu:Mt)(us:List Nat)(loc:Loc)(mu':Mt):Prop:=(∀ w∈us,w<N)/\look loc 225134396=some (.ref p)/\look loc 28209471649=some (.ref f)/\mu'=mu
def zW8(p f e:Addr)(N:Nat)(mu:Mt)(us:List Nat)(loc:Loc)(mu':Mt):Prop:=(∀ w∈us,w<N)/\look loc 225134396=some (.ref p)/\look loc 28209471649=some (.ref f)/\look loc 32341513866=some (.ref e)/\mu'=mu
variable {W:Wd}(G:Gd W){n:Nat}{m:Mt}{Q X:DV->Mt->Prop}{is:List Ins}
include G
theorem zWv{ps:List (Addr×Addr)}{b0 b1:Int}(hp:m p=some (.inst 86 pd))(hpd:m pd=some (.attrs prN (prV L hd b0 b1)))(hL:m L=some (.lst (ps.map λp=>.ref p.1)))(hl:ps.length=is.length)(hI:∀ k p,ps[k]?=some p->m p.1=some (.inst 65 p.2)/\m p.2=some (.attrs insN (zA0 is k).vals))(hs':is.length<=1000)(h0:0<is.length)
  (h:Q (.lst [.int 0]) m):zA4 W 45 (n+1) 97 [.ref p] m Q X:=by
 refine G.fn G.k_program_heads .nil rfl ?_
 intro f hf
 have S0:Sub m (m.set f (.lst [.int 0])):=Sub.rfl.new hf
 have e0:(is.length:Int)-1=((is.length-1:Nat):Int):=by omega
 refine x_attr (S0 _ _ hp) (S0 _ _ hpd) rfl rfl (zDh (k:=is.length) ((zCc (zA3 (S0 _ _ hL))).trans (by rw[List.length_map,hl])) (nLit hs' rfl) (zP4 (a:=(is.length:Int)-1) (by rw[e0];exact zA7 (n44 e0 hs')) ?_))
 refine zDi (l:=List.range (is.length-1)) eN (lo:=λx loc=>put loc 4136611441551 (eN x)) (yHr p f is.length (m.set f (.lst [.int 0]))) (by rw[e0];exact zGq _ _) ⟨zA7 (k:=0) (n5),by rw[e0];exact zA7 (n44 e0 hs'),.inl rfl⟩ (λU U U=>rfl)
  ⟨λw hw=>by have:=List.mem_range.mp hw;exact Nat.lt_of_lt_pred this,rfl,rfl,rfl⟩ (λU U U U=>trivial) (λlo mu q=>?_) λw us lo mu K q hK=>?_
 ·obtain⟨_,_,l2,rfl⟩:=q
  exact x_var l2 (fin (Fz.new hf) h)
 ·obtain⟨hw,l1,l2,rfl⟩:=q
  have hw0:=hw w (.head _)
  have hk':w<ps.length:=by rw[hl];exact hw0
  refine e02 (λg1 g2=>?_) (hI w _ (List.getElem?_eq_getElem hk'))
  refine x_var (d:=.ref p) (by kst_p) (x_attr (S0 _ _ hp) (S0 _ _ hpd) rfl rfl (x_var (d:=eN w) (by kst_p) ?_))
  refine zCq (i:=w) (zA3 (S0 _ _ hL)) (d:=.ref (ps[w]).1) (nLtl hw0 hs' rfl) (by rw[List.getElem?_map,List.getElem?_eq_getElem hk'];rfl) (x_attr (S0 _ _ g1) (S0 _ _ g2) rfl rfl ?_)
  exact hK _ _ ⟨λw' h'=>hw w' (.tail _ h'),by kst_p,by kst_p,rfl⟩
theorem zSs{p pd L hd:Addr}{ps:List (Addr×Addr)}(b:Nat)(hp:m p=some (.inst 86 pd))(hpd:m pd=some (.attrs prN (prV L hd b b)))(hL:m L=some (.lst (ps.map λp=>.ref p.1)))(hl:ps.length=is.length)(hI:∀ k p,ps[k]?=some p->m p.1=some (.inst 65 p.2)/\m p.2=some (.attrs insN (zA0 is k).vals))(hs':is.length<=1000)(h0:0<is.length)
  (f0:(zA0 is 0).op=6) (ok:∀ k<is.length,InsOk (zA0 is k) is.length) (hb:b<is.length) (h:Q (.lst []) m):zA4 W 45 (n+2) 118 [.ref p] m Q X:=by
 refine G.fn G.k_program_faults .nil rfl ?_
 intro f hf
 have S0:Sub m (m.set f (.lst [])):=Sub.rfl.new hf
 refine x_attr (S0 _ _ hp) (S0 _ _ hpd) rfl rfl λc hc=>?_
 have S1:=S0.new (o:=.lst []) hc
 have q3:=zA3 (S1 _ _ hL)
 have hk0:0<ps.length:=Nat.lt_of_lt_of_eq h0 ((Eq.symm hl))
 refine zNa (zEo (y:=[]) q3 asL_new (by rw[List.length_map];exact Nat.ne_of_gt hk0)) ?_
 refine e02 (λg1 g2=>?_) (hI 0 _ (List.getElem?_eq_getElem hk0))
 refine x_attr (S1 _ _ hp) (S1 _ _ hpd) rfl rfl (zBv 0 rfl q3 (d:=.ref (ps[0]).1) (n5) (by rw[List.getElem?_map,List.getElem?_eq_getElem hk0];rfl) (x_attr (S1 _ _ g1) (S1 _ _ g2) rfl rfl (zT0 (p:=((zA0 is 0).op:Int)=6) (λU=>?_) λq=>absurd (congrArg Int.ofNat f0) q)))
 refine zWv G (S1 _ _ hp) (S1 _ _ hpd) (S1 _ _ hL) hl (λk p hp=>⟨S1 _ _ (hI k p hp).1,S1 _ _ (hI k p hp).2⟩) hs' h0 ?_
 have mf:=Mt.keep (o:=.lst []) (Mt.ne_new hc).symm (Mt.set_self m f (.lst []))
 intro e he
 have nfe:=Mt.ne_of mf he
 have me:m e=none:=S1.absent he
 refine yEc (x:=.int 0) rfl trivial trivial rfl ?_
 refine zZn (met:=[]) (e:=0) (Mt.set_self _ _ _) rfl (Nat.zero_le _) ⟨trivial,?_⟩
 have S4:=(S1.new (o:=.dE) he).put (o:=dOf [0]) me
 have mf4:=Mt.keep (o:=dOf [0]) nfe (Mt.keep (o:=.dE) nfe mf)
 have hp4:=S4 _ _ hp
 have hpd4:=S4 _ _ hpd
 have q4:=zA3 (S4 _ _ hL)
 have len4:=(zCc q4).trans (show some _=some is.length by rw[List.length_map,hl])
 refine x_attr hp4 hpd4 rfl rfl (zDh len4 (nLit hs' rfl) (zP4 (zA7 (k:=is.length) (nLit hs' rfl)) ?_))
 refine zDi (l:=List.range is.length) eN (lo:=λx loc=>put loc 4136611441551 (eN x)) (zW8 p f e is.length _) (zGq _ _) ⟨zA7 (k:=0) (n5),zA7 (k:=is.length) (nLit hs' rfl),.inl rfl⟩ (λU U U=>rfl)
  ⟨λw hw=>List.mem_range.mp hw,by rfl,by rfl,by rfl,rfl⟩ (λU U U U=>trivial) (λlo mu q=>?_) λw us lo mu K q hK=>?_
 ·obtain⟨_,l1,l2,l3,rfl⟩:=q
  refine x_var l1 (x_attr hp4 hpd4 rfl rfl (x_var l1 (x_attr hp4 hpd4 rfl rfl ?_)))
  refine zDi (l:=[b,b]) eN (lo:=λx loc=>put loc 4136611441551 (eN x)) (zW8 p f e is.length _) rfl trivial (λU U U=>rfl) ⟨by simp;exact hb,l1,l2,l3,rfl⟩ (λU U U U=>trivial) (λlo mu q=>?_) λw us lo mu K q hK=>?_
  ·obtain⟨_,l1,l2,l3,rfl⟩:=q
   exact x_var l1 (x_attr hp4 hpd4 rfl rfl (x_var l2 (fin (S4.list mf4 hf) h)))
  ·obtain⟨hw,l1,l2,l3,rfl⟩:=q
   refine x_var (d:=eN w) (by kst_p) ?_
   refine x_var (d:=.ref p) (by kst_p) (x_attr hp4 hpd4 rfl rfl (zDh len4 (nLit hs' rfl) (zR2 (p:=(w:Int)<(is.length:Nat)) (Int.ofNat_lt.mpr (hw _ (.head _))) (x_var (d:=.ref p) (by kst_p) (x_attr hp4 hpd4 rfl rfl ?_)))))
   exact hK _ _ ⟨λw' h'=>hw w' (.tail _ h'),by kst_p,by kst_p,by kst_p,rfl⟩
 ·obtain⟨hw,l1,l2,l3,rfl⟩:=q
  have hw0:=hw w (.head _)
  have hk':w<ps.length:=by rw[hl];exact hw0
  refine e02 (λg1 g2=>?_) (hI w _ (List.getElem?_eq_getElem hk'))
  refine x_var (d:=.ref p) (by kst_p) (x_attr hp4 hpd4 rfl rfl (x_var (d:=eN w) (by kst_p) ?_))
  refine zCq (i:=w) q4 (d:=.ref (ps[w]).1) (nLtl hw0 hs' rfl) (by rw[List.getElem?_map,List.getElem?_eq_getElem hk'];rfl) ?_
  refine x_var (d:=.ref (ps[w]).1) (by kst_p) ?_
  refine zKn G (N:=is.length) (zA0 is w) (S4 _ _ g1) (S4 _ _ g2) (ok w hw0) ?_
  refine x_var (d:=.ref p) (by kst_p) (x_var (d:=eN w) (by kst_p) (x_var (d:=.ref e) (by kst_p) ?_))
  refine zKl G (is:=is) w hp4 hpd4 (S4 _ _ hL) hl (λk p hp=>⟨S4 _ _ (hI k p hp).1,S4 _ _ (hI k p hp).2⟩) hs' hw0 (ok w hw0) ?_
  refine zDi (l:=[0,0]) (λ_:Nat=>DV.none) (lo:=λU loc=>put loc 32635942561 .none) (zW8 p f e (is.length+1) _) rfl trivial (λU U U=>rfl) ⟨by simp,by kst_p,by kst_p,by kst_p,rfl⟩ (λU U U U=>trivial) (λlo mu q=>?_) λw' us' lo mu K' q hK'=>?_
  ·obtain⟨_,l1,l2,l3,rfl⟩:=q
   exact x_var l1 (x_attr hp4 hpd4 rfl rfl (hK _ _ ⟨λw' h'=>hw w' (.tail _ h'),l1,l2,l3,rfl⟩))
  ·obtain⟨hw,l1,l2,l3,rfl⟩:=q
   exact x_var (d:=.none) (by kst_p) (hK' _ _ ⟨λw' h'=>hw w' (.tail _ h'),by kst_p,by kst_p,by kst_p,rfl⟩)
end
section
variable {W:Wd}(G:Gd W){n:Nat}{m:Mt}{Q X:DV->Mt->Prop}{is:List Ins}
include G
theorem zWy(hx:m x=none)(hd:m dx=none)(ne:x≠dx)(h:∀ m',MkM x 1 [opI 6] m m'->Q .none m'):zA4 W 45 (n+3) 155 [.ref x,.int 1] ((m.set dx (.attrs [] [])).set x (.inst 200 dx)) Q X:=by
 refine G.fn G.k_Maker_init .nil rfl ?_
 have m1:=Mt.keep (o:=.attrs [253107527] [.int 1]) ne (Mt.set_self (m.set dx (.attrs [] [])) x (.inst 200 dx))
 have d1:=Mt.set_self ((m.set dx (.attrs [] [])).set x (.inst 200 dx)) dx (.attrs [253107527] [.int 1])
 refine zBt (Mt.set_self _ _ _) (Mt.keep ne.symm (Mt.set_self _ _ _)) rfl rfl ?_
 intro a b ha hb hab
 have ha0:=Mt.old (Mt.old (Mt.old ha))
 have hb0:=Mt.old (Mt.old (Mt.old hb))
 have xa:=Mt.ne_of m1 ha
 have xb:=Mt.ne_of m1 hb
 have da:=Mt.ne_of d1 ha
 have db:=Mt.ne_of d1 hb
 refine zNy G 6 (x:=a) (dx:=b) (Mt.set_self _ _ _) (Mt.keep hab.symm (Mt.set_self _ _ _)) ⟨rfl,?_⟩
 intro L hL
 have bL:=Mt.ne_new hL
 have aL:=Mt.ne_new (Mt.old hL)
 have dL:=Mt.ne_new (Mt.old (Mt.old (Mt.old hL)))
 have xL:=Mt.ne_new (Mt.old (Mt.old (Mt.old (Mt.old hL))))
 have hL0:=Mt.old (Mt.old (Mt.old (Mt.old (Mt.old (Mt.old hL)))))
 refine zBt (Mt.keep xL.symm (Mt.keep xb (Mt.keep xa (Mt.keep xb m1)))) (Mt.keep dL.symm (Mt.keep db (Mt.keep da (Mt.keep db d1)))) rfl rfl (fin0 (h _ ⟨⟨x,dx,L,[(a,b)]⟩,rfl,?_⟩))
 refine⟨Mt.keep ne (Mt.keep xL.symm (Mt.keep xb (Mt.keep xa (Mt.keep xb m1)))),Mt.set_self _ _ _,Mt.keep dL (Mt.set_self _ _ _),rfl,λk p hk=>?_,by simp,by simp,λc c1 c2 c3 c4=>?_,hx,hd,hL0,λp hp=>?_⟩
 ·cases k with
  |succ k=>cases hk
  |zero=>
   cases hk
   exact⟨Mt.keep da.symm (Mt.keep aL.symm (Mt.keep hab (Mt.set_self _ _ _))),Mt.keep db.symm (Mt.keep bL.symm (Mt.set_self _ _ _))⟩
 ·refine e02 (λc4 c5=>?_) (c4 (a,b) (.head _))
  exact(Mt.set_ne _ _ c2).trans ((Mt.set_ne _ _ c3).trans ((Mt.set_ne _ _ c5).trans ((Mt.set_ne _ _ c4).trans ((Mt.set_ne _ _ c5).trans ((Mt.set_ne _ _ c2).trans ((Mt.set_ne _ _ c1).trans (Mt.set_ne _ _ c2)))))))
 ·rw[List.mem_singleton.mp hp]
  exact⟨ha0,hb0⟩
set_option maxHeartbeats 2000000 in
theorem zQz(hx:m x=none)(hd:m dx=none)(ne:x≠dx)(h:∀ L hd m',Sub m m'->m' x=some (.inst 86 dx)->m' dx=some (.attrs prN (prV L hd 0 0))->Q .none m'):zA4 W 45 (n+3) 83 [.ref x] ((m.set dx (.attrs [] [])).set x (.inst 86 dx)) Q X:=by
 refine G.fn G.k_Program_init .nil rfl ?_
 have m1:=Mt.set_self (m.set dx (.attrs [] [])) x (.inst 86 dx)
 have d1:=Mt.keep (o:=.inst 86 dx) ne.symm (Mt.set_self m dx (.attrs [] []))
 intro a b ha hb hab
 have xa:=Mt.ne_of m1 ha
 have xb:=Mt.ne_of m1 hb
 have da:=Mt.ne_of d1 ha
 have db:=Mt.ne_of d1 hb
 refine zNy G 6 (x:=a) (dx:=b) (Mt.set_self _ _ _) (Mt.keep hab.symm (Mt.set_self _ _ _)) ⟨rfl,?_⟩
 intro L hL
 have S0:=(((((Sub.rfl (m:=m).put (o:=.attrs [] []) hd).put (o:=.inst 86 dx) hx).new (o:=.attrs [] []) hb).put (o:=.inst 65 b) (Mt.old (Mt.old ha))).put (o:=.attrs insN (opI 6).vals) (Mt.old (Mt.old hb))).new (o:=.lst [.ref a]) hL
 have m2:=Mt.keep xb (o:=.attrs insN (opI 6).vals) (Mt.keep xa (o:=.inst 65 b) (Mt.keep xb (o:=.attrs [] []) m1))
 have d2:=Mt.keep db (o:=.attrs insN (opI 6).vals) (Mt.keep da (o:=.inst 65 b) (Mt.keep db (o:=.attrs [] []) d1))
 have m3:=Mt.keep (Mt.ne_of m2 hL) (o:=.lst [.ref a]) m2
 have d3:=Mt.keep (Mt.ne_of d2 hL) (o:=.lst [.ref a]) d2
 refine zBt m3 d3 rfl rfl (zB7 m3 ne rfl rfl (zB7 m3 ne rfl rfl (zB7 m3 ne rfl rfl (zB7 m3 ne rfl rfl (zB7 m3 ne rfl rfl (zB7 m3 ne rfl rfl λhd' hh=>?_))))))
 have dh:=(Mt.ne_new hh).symm
 have xh:=Mt.ne_of m3 (Mt.old hh)
 refine zBt (ns:=[32376161590,32648492339,131322104223801899105978,129907780876443790661926,693329460861025571136594217707607069,35998791720882497672107593410212,542699284915561]) (vs:=[.ref L,.int 0,.int 0,.bool false,.bool false,.bool false,.bool false]) (Mt.keep xh (Mt.keep ne m3)) (Mt.keep dh (Mt.set_self _ _ _)) rfl rfl (zB7 (Mt.keep xh (Mt.keep ne m3)) ne rfl rfl (zB7 (Mt.keep xh (Mt.keep ne m3)) ne rfl rfl (zB7 (Mt.keep xh (Mt.keep ne m3)) ne rfl rfl (fin0 (h L hd' _ (((S0.put hd).new hh).put hd) (Mt.keep ne (Mt.keep xh (Mt.keep ne m3))) (Mt.set_self _ _ _))))))
end
section
def zBc(it:Item):DV:=.tup [eF it.part.f,eS it.sh,eT it.tb,.bool it.calm]
theorem zOk(n:Nat)(l:List Int):(l.map DV.int).all (zBu (n+1))=true:=by
 rw[List.all_map,List.all_eq_true]
 exact λU U=>rfl
theorem zQn(l:List Way):(l.map eW).all (zBu 8)=true:=by
 rw[List.all_map,List.all_eq_true]
 intro p _
 exact(Bool.and_eq_true _ _).mpr ⟨zOk 5 p.2,rfl⟩
theorem zJ7(l:List Int):zGz (l.map .int)=some l:=by
 induction l with
 |nil=>rfl
 |cons x r ih=>
  show ob none (zGz (r.map .int)) _=_
  rw[ih];rfl
theorem zRl(l:List Int):(l.map DV.int).all (zBu 8)=true:=by
 rw[List.all_map,List.all_eq_true]
 exact λU U=>rfl
theorem x_cV(h:cmpX mu op a b=some v)(k:run r e (.bool v::s) loc mu):run (.cmp op r) e (b::a::s) loc mu:=zAy h k
theorem zZm(h:asL mu d=some (is.map .int))(hl:is.length<64)(k:∀ is':List Int,is'.Perm is->is'.Pairwise (·<=·)->∀ A,mu A=none->run r e (.ref A::s) loc (mu.set A (.lst (is'.map .int)))):wpBi .sorted [d] (λd V=>run r e (d::s) V.loc V.mu) ⟨loc,mu⟩:=zAy h (zAy (zJ7 is) ⟨hl,k⟩)
theorem zQ5(l:List Way):(l.map λp=>DV.int (p.1:Nat))=(l.map λp=>(p.1:Int)).map .int:=by rw[List.map_map];rfl
variable {W:Wd}(G:Gd W){n:Nat}{m:Mt}{Q X:DV->Mt->Prop}{is:List Ins}{M:Addr}{most:Nat}{r:Mt}
include G
theorem yG7{aP:Addr}(it:Item)(f:Fr)(text holds:List Nat)(res:List Way)(l1:look loc 32066903573=some (.ref M))(l2:look loc 28482000420=some (eF f))(l3:look loc 253189449=some (eB text))(l4:look loc 32341698207=some (.lst (holds.map eN)))(l5:look loc 244219938=some (.ref aP))
  {D' L:Addr} {ps:List (Addr×Addr)} (hM:mu M=some (.inst 200 D')) (hD:mu D'=some (.attrs [253107527,32376161590] [.int (most:Nat),.ref L])) (hL:mu L=some (.lst (ps.map λp=>.ref p.1))) (hl:ps.length=is.length) (hI:∀ k p,ps[k]?=some p->mu p.1=some (.inst 65 p.2)/\mu p.2=some (.attrs insN (zA0 is k).vals)) (hs:is.length<=1000) (mP:mu aP=some (.lst [zBc it])) (tk:TextOk text holds) (hop:∀ k,(zA0 is k).op=2->2<=(zA0 is k).arg) (D:Dfs is text holds [(f.b,0,zAc)] [] [] res) (hr:res.length<=60) (wf:WfT (text.length+1) it.tb)
  (hcalm:it.calm=true->res=row it.tb 0) (hperm:(res.map (·.1)).Perm ((row it.tb 0).map (·.1))) (S:Sub m mu) (h:Q (.bool true) m) :
  run (xSs zLs .nil) (fnE W (n+5) Q X) [] loc mu:=by
 have tL:=tk.len
 have hrow:(it.tb.map eWs)[0]?=some (eWs (row it.tb 0)):=by
  rw[List.getElem?_map,zI6 (by rw[wf.1];exact Nat.zero_lt_succ _)];rfl
 have wr:=zCi wf 0
 delta zLs
 refine x_var l1 (x_attr hM hD rfl rfl (x_var l2 (x_var l3 (x_var l4 ?_))))
 refine zWx G f.b text holds res hL hl hI hs rfl tk.holds tk.len tk.byte hop D ?_
 refine x_var l5 (zBv 0 rfl (zA3 mP) (d:=zBc it) (Nat.zero_le _) rfl ?_)
 refine zBv (o:=eT it.tb) 0 rfl (l:=it.tb.map eWs) rfl (Nat.zero_le _) hrow ?_
 refine x_var (d:=.ref aP) (by kst_p) (zBv 0 rfl (zA3 mP) (d:=zBc it) (Nat.zero_le _) rfl ?_)
 refine zGl (v:=it.calm) (λhc=>?_) λhc=>?_
 ·refine x_var (d:=eWs res) (by kst_p) (x_var (d:=eWs (row it.tb 0)) (by kst_p) ?_)
  refine x_cV (zC2 (m:=mu) (a:=eWs res) (b:=eWs (row it.tb 0)) (x:=(row it.tb 0).map eW) (by rw[hcalm hc];rfl) rfl (zQn _):cmpX mu .eq (eWs res) (eWs (row it.tb 0))=some true) ?_
  exact fin (Sub.fz S) h
 ·refine x_var (d:=eWs res) (by kst_p) ?_
  refine zDj (l:=res) eW (λp=>.int (p.1:Nat)) rfl trivial (nLit hr rfl) trivial (λU=>rfl) (λp U K hK=>finC hK) λa ha=>?_
  refine zZm (asL_new.trans (congrArg some (zQ5 res))) (by rw[List.length_map];omega) λs1 p1 o1 b hb=>?_
  have S2:=(Sub.rfl.new (o:=.lst (res.map λp=>.int (p.1:Nat))) ha).new (o:=.lst (s1.map .int)) hb
  refine x_var (d:=eWs (row it.tb 0)) (by kst_p) ?_
  refine zDj (l:=row it.tb 0) eW (λp=>.int (p.1:Nat)) rfl trivial (by have:=wr.1;exact nLit this rfl) trivial (λU=>rfl) (λp U K hK=>finC hK) λc hc'=>?_
  refine zZm (asL_new.trans (congrArg some (zQ5 (row it.tb 0)))) (by rw[List.length_map];have:=wr.1;omega) λs2 p2 o2 d hd=>?_
  have S4:=(Sub.rfl.new (o:=.lst ((row it.tb 0).map λp=>.int (p.1:Nat))) hc').new (o:=.lst (s2.map .int)) hd
  have es:s1=s2:=by
   have pp:s1.Perm s2:=by
    refine p1.trans (.trans ?_ p2.symm)
    have:=hperm.map (λx:Nat=>(x:Int))
    rwa [List.map_map,List.map_map]at this
   exact pp.eq_of_pairwise (le:=(·<=·)) (λa b U U h1 h2=>Int.le_antisymm h1 h2) o1 o2
  subst es
  refine yAg (op:=.eq) (zC2 (x:=s1.map .int) (zA3 (S4 _ _ (Mt.set_self _ _ _))) asL_new (zRl _)) ?_
  exact fin (Sub.fz (S.trans (S2.trans S4))) h
end
section
theorem PartOk.push(h:PartOk is p)(i:Ins):PartOk (is++[i]) p:=
 ⟨h.ch.push i,h.nd,by have:=h.b;simp;exact n35 this,λe=>by have:=h.last e;simp;exact n8 this⟩
theorem zXx(is:List Ins):PartOk (is++[opI 4]) (zD0 is.length):=⟨rfl,by simp[zD0],by simp[zD0],λe=>absurd rfl e⟩
theorem zYz(is:List Ins)(a b:Part):(catP is a b).1.length=is.length:=by
 unfold catP
 by_cases x:a.f.b=0\/b.f.b=0
 ·simp[if_pos x,zAh]
 ·simp only[if_neg x]
  cases zE9 (zAd is a.ms b.f.b) a.f<;>simp[zAh]
variable {W:Wd}(G:Gd W){n:Nat}{m:Mt}{Q X:DV->Mt->Prop}{is:List Ins}{M:Addr}{most:Nat}{r:Mt}
include G
theorem yG8{loc:Loc}{Inv:List Nat->List Nat->List Ins->List Item->Prop}(LI:LawInv Inv)(it:Item)(text holds:List Nat)(l1:look loc 32066903573=some (.ref M))(l3:look loc 253189449=some (eB text))(l4:look loc 32341698207=some (.lst (holds.map eN)))(l5:look loc 244219938=some (.ref aP))
  (H:MkM M most is r mu) (hs:is.length<=60) (mP:r aP=some (.lst [zBc it])) (tk:TextOk text holds) (hi:Inv text holds is [it]) (S:Sub m mu) (hm0:Sub m r) (h:Q (.bool true) m) :
  run (xSs zHv .nil) (fnE W (n+6) Q X) [] loc mu:=by
 refine e36 (λD L ps hM hD hL hl hI hmost=>?_) H.getM
 refine e04 (λf0 fk fb q9=>e13 (λres hdfs hcalm hperm=>?_) q9) (LI.fin tk hi hs)
 have iok:=(LI.items tk hi).1 it (by simp)
 have wl:(zAl is it).1.length=is.length+1:=by unfold zAl;rw[zYz];simp
 delta zHv
 have H1:=hmost 1000
 refine x_var l1 (zBt hM hD rfl rfl ?_)
 refine x_var l1 (x_var l5 (zBv 0 rfl (zA3 (H1.rest _ _ mP)) (d:=zBc it) (Nat.zero_le _) rfl (x_var l1 ?_)))
 refine zX4 G H1 (nLit hs rfl) (by omega) λm2 H2=>?_
 refine zZr G it.part (zD0 is.length) H2 (by simp;exact nLit hs rfl) (iok.ok.push _) (zXx is) (λk U h=>by simp[zD0]at h) λm3 H3=>?_
 intro x dx hx hdx ne
 refine zQz G hx hdx ne λL' hd m4 S4 m4x m4d=>⟨rfl,?_⟩
 refine e36 (λD3 L3 ps3 hM3 hD3 hL3 hl3 hI3 U=>?_) H3.getM
 have ew:(catP (is++[opI 4]) it.part (zD0 is.length))=zAl is it:=rfl
 rw[ew]at hl3 hI3 ⊢
 refine x_var (d:=.ref M) (by kst_p) (x_attr (S4 _ _ hM3) (S4 _ _ hD3) rfl rfl (x_var (d:=eF (zAl is it).2.f) (by kst_p) (x_var (d:=eF (zAl is it).2.f) (by kst_p) ?_)))
 refine x_var (d:=.ref x) (by kst_p) (zBt m4x m4d rfl rfl (x_var (d:=.ref x) (by kst_p) (zB7 m4x ne rfl rfl (x_var (d:=.ref x) (by kst_p) (zB7 m4x ne rfl rfl (x_var (d:=.ref x) (by kst_p) ?_))))))
 have S5:Sub m3 (m4.set dx (.attrs prN (prV L3 hd (zAl is it).2.f.b (zAl is it).2.f.b))):=S4.put hdx
 refine zSs (m:=m4.set dx (.attrs prN (prV L3 hd (zAl is it).2.f.b (zAl is it).2.f.b))) G (is:=(zAl is it).1) (zAl is it).2.f.b (Mt.keep ne m4x) (Mt.set_self _ _ _) (S5 _ _ hL3) hl3 (λk p hp=>⟨S5 _ _ (hI3 k p hp).1,S5 _ _ (hI3 k p hp).2⟩) (n43 wl hs) (n19 wl) f0 fk fb ?_
 intro c hc
 have S6:=S5.new (o:=.lst []) hc
 refine zNa (congrArg (Option.map (!·)) (zC2 (x:=[]) rfl asL_new rfl):cmpV _ .ne (.lst []) (.ref c)=some (!true)) ?_
 have wr:=zCi iok.wf 0
 have lres:res.length<=60:=by
  have:=hperm.length_eq
  have:=wr.1
  simp at *;omega
 exact yG7 G (n:=n+1) (M:=M) (most:=1000) (is:=(zAl is it).1) it (zAl is it).2.f text holds res (by kst_p) (by kst_p) (by kst_p) (by kst_p) (by kst_p)
  (S6 _ _ hM3) (S6 _ _ hD3) (S6 _ _ hL3) hl3 (λk p hp=>⟨S6 _ _ (hI3 k p hp).1,S6 _ _ (hI3 k p hp).2⟩) (n43 wl hs) (S6 _ _ (H3.rest _ _ mP)) tk
  (λk e=>by
   by_cases hk:k<(zAl is it).1.length
   ·exact(fk k hk).cap e
   ·have:zA0 (zAl is it).1 k=opI 6:=by unfold zA0;rw[List.getD_eq_getElem?_getD,List.getElem?_eq_none (Nat.le_of_not_lt hk)];rfl
    rw[this]at e;cases e) hdfs lres iok.wf hcalm hperm ((hm0.trans H3.rest).trans S6) h
end
section
theorem MkM.new(H:MkM M most is r mu)(o:MObj)(h:mu a=none):MkM M most is (r.set a o) (mu.set a o):=by
 obtain⟨l,rfl,H⟩:=H
 refine⟨l,rfl,H.grow (λb h1 h2=>?_) (λb hb=>?_)⟩
 ·have ne:b≠a:=λe=>h2 (e▸h)
  rw[Mt.set_ne _ _ ne,Mt.set_ne _ _ ne];exact⟨rfl,h1⟩
 ·by_cases e:b=a
  ·subst e;rw[Mt.set_self,Mt.set_self]
  ·rw[Mt.set_ne _ _ e,Mt.set_ne _ _ e]
   by_cases h1:r b=none
   ·have h2:mu b=none:=Classical.byContradiction λh2=>hb ⟨h1,h2⟩
    rw[h1,h2]
   ·cases e':r b with
    |none=>exact absurd e' h1
    |some o'=>exact H.rest b o' e'
theorem MkM.upd(H:MkM M most is r mu)(o:MObj)(h:r a≠none):MkM M most is (r.set a o) (mu.set a o):=by
 obtain⟨l,rfl,H⟩:=H
 refine⟨l,rfl,H.grow (λb h1 h2=>?_) (λb hb=>?_)⟩
 ·have ne:b≠a:=λe=>h (e▸h1)
  rw[Mt.set_ne _ _ ne,Mt.set_ne _ _ ne];exact⟨rfl,h1⟩
 ·by_cases e:b=a
  ·subst e;rw[Mt.set_self,Mt.set_self]
  ·rw[Mt.set_ne _ _ e,Mt.set_ne _ _ e]
   by_cases h1:r b=none
   ·have h2:mu b=none:=Classical.byContradiction λh2=>hb ⟨h1,h2⟩
    rw[h1,h2]
   ·cases e':r b with
    |none=>exact absurd e' h1
    |some o'=>exact H.rest b o' e'
theorem MkM.absent(H:MkM M most is r mu)(h:mu a=none):r a=none:=H.rest.absent h
def zRx(it:Item):Option DV:=if it.calm then none else some (zBc it)
theorem zNm(l:List Item):l.filterMap zRx=[]↔l.all (·.calm)=true:=by
 induction l with
 |nil=>simp
 |cons x r ih=>
  rw[List.filterMap_cons,List.all_cons]
  cases h:x.calm<;>simp[zRx,h,ih]
theorem yCx(c:α->DV)(f:α->Option DV)(hg:gd ⟨loc,m⟩):∀(xs:List α) (acc:List DV),(∀ x∈xs,∀ K:Option DV->Mt->Prop,K (f x) m->B (c x) K m)->newL (acc++xs.filterMap f) Q ⟨loc,m⟩->zEc gd B loc Q (xs.map c) acc m:=
 List.rec (λacc U h=>⟨hg,by rw[List.filterMap_nil,List.append_nil]at h;exact h⟩) λx xs ih acc hB h=>⟨hg,hB x (List.mem_cons_self ..) _ (by
  rw[List.filterMap_cons]at h
  cases e:f x with
  |none=>rw[e]at h;exact ih acc (λy hy=>hB y (List.mem_cons_of_mem _ hy)) h
  |some d=>rw[e]at h;exact ih _ (λy hy=>hB y (List.mem_cons_of_mem _ hy)) (by rw[List.append_assoc];exact h))⟩
theorem yEe{α:Type}{l:List α}{r b:C}{e:En}{s:List DV}{loc:Loc}{ns:CN}(c:α->DV)(f:α->Option DV){lo:α->Loc}(h:zE0 mu d=some (l.map c))(hr:zD4 d)(hs:l.length<=100000)(hg:zB6 d (l.map c) ⟨loc,mu⟩)(hb:∀ x,bindC loc mu ns (c x)=some (lo x))
  (hB:∀ x∈l,∀ K:Option DV->Mt->Prop,K (f x) mu->run b (e.cmp K) [] (lo x) mu) (k:∀ A,mu A=none->run r e (.ref A::s) loc (mu.set A (.lst (l.filterMap f)))):cpI mu d (λl=>zD4 d/\small l.length/\zEc (zB6 d l) (λx K m=>opt (bindC loc m ns x) λlo=>run b (e.cmp K) [] lo m) loc (λd V=>run r e (d::s) V.loc V.mu) l [] mu):=by
 rw[zJt];exact zAy h ⟨hr,zAq (by rw[List.length_map];exact hs),yCx c f hg l [] (λx hx K q=>zAy (hb x) (hB x hx K q)) k⟩
theorem yCs(s:zJ8):zLl m (eS s) (eS s)=some true:=by
 obtain⟨a,b⟩:=s
 cases a<;>cases b<;>rfl
variable {W:Wd}(G:Gd W){n:Nat}{m:Mt}{is:List Ins}{M:Addr}{most:Nat}{r:Mt}
include G
theorem yGd{loc:Loc}(o:Ord)(given:List Item)(l2:look loc 32066789281=some (eO o))(l3:look loc 4172364345482=some (.ref aS))(l4:look loc 30959396126=some (.ref aG))(mS:mu aS=some (.lst (given.map λi=>eS i.sh)))(mG:mu aG=some (.lst (given.map zBc)))(hm:given.length=many o)
  {e:En} (K:∀ a b l,mu a=none->(mu.set a (.lst l)) b=none->run (xSs zLy .nil) e [] (put loc 510831270252895 (.bool (zD3 o given))) ((mu.set a (.lst l)).set b (.lst []))):run (xSs zLz .nil) e [] loc mu:=by
 delta zLz
 have hl:given.length<=2:=by rw[hm];cases o<;>decide
 refine x_var l4 (yEe (l:=given) zBc zRx (zBb (zA3 mG)) trivial (nLit hl rfl) (zBr (zA3 mG)) (λU=>rfl) (λit U K hK=>?_) λa ha b hb=>?_)
 ·unfold zRx at hK
  refine zGl (v:=it.calm) (λq=>?_) λq=>?_
  ·rw[if_pos q]at hK;exact hK
  ·rw[if_neg (by rw[q];decide)]at hK;exact finC hK
 ·have na:=(Mt.ne_new hb).symm
  have K:=K a b (given.filterMap zRx) ha hb
  unfold zD3 at K
  by_cases hc:given.all (·.calm)=true
  ·rw[hc,Bool.true_and]at K
   refine yAg (op:=.eq) (zC2 (x:=[]) (zA3 (Mt.keep na (Mt.at_ ((zNm given).mpr hc)))) asL_new rfl) ?_
   refine x_var l2 ?_
   have S:=(Sub.rfl.new (o:=.lst (given.filterMap zRx)) ha).new (o:=.lst []) hb
   cases o with
   |star=>
    obtain⟨g,rfl⟩:=len1 hm
    exact x_var l3 (zBv 0 rfl (zB0 S (zA3 mS)) (d:=eS g.sh) (Nat.zero_le _) rfl K)
   |plus=>
    obtain⟨g,rfl⟩:=len1 hm
    exact x_var l3 (zBv 0 rfl (zB0 S (zA3 mS)) (d:=eS g.sh) (Nat.zero_le _) rfl K)
   |_=>exact K
  ·rw[Bool.eq_false_iff.mpr hc,Bool.false_and]at K
   exact yAg (op:=.eq) (zEo (y:=[]) (zA3 (Mt.keep na (Mt.set_self _ _ _))) asL_new (λe=>hc ((zNm given).mp (List.eq_nil_of_length_eq_zero e)))) K
omit G in
theorem yJa(e:u=v)(h:zA4 W 45 n f [a,b,c,d,x,y,.bool v] m Q X):zA4 W 45 n f [a,b,c,d,x,y,.bool u] m Q X:=e▸h
theorem yGe{mu:Mt}{Inv:List Nat->List Nat->List Ins->List Item->Prop}(LI:LawInv Inv)(o:Ord)(heap given:List Item)(row:Row)(rev:Bool)(room:Nat)(text holds:List Nat)
  (l1:look loc 32066903573=some (.ref M)) (l2:look loc 32066789281=some (eO o)) (l3:look loc 238014145=some (.int (room:Nat))) (l4:look loc 2011483=some (eR row)) (l5:look loc 4172364345482=some (.ref aS)) (l6:look loc 32376143279=some (.ref aQ)) (l7:look loc 4172355774465=some (.ref aT)) (l8:look loc 30959396126=some (.ref aG)) (l9:look loc 244219938=some (.ref aHp)) (l10:look loc 474219854675971=some (.int (if rev then 1 else 0:Nat))) (l11:look loc 253189449=some (eB text)) (l12:look loc 32341698207=some (.lst (holds.map eN)))
  (H:MkM M most is r mu) (mS:r aS=some (.lst (given.map λi=>eS i.sh))) (mQ:r aQ=some (.lst (given.map λi=>eF i.part.f))) (mT:r aT=some (.lst (given.map λi=>eT i.tb))) (mG:r aG=some (.lst (given.map zBc))) (mHp:r aHp=some (.lst (heap.map zBc)))
  (tk:TextOk text holds) (hi:Inv text holds is (heap++given)) (hm:given.length=many o) (hrow:o≠.cat->RowOk rev row) (hsl:row.s0<=3/\row.s1<=3) (hs:is.length<=100) (hr:room<=1000) (hhp:heap.length<=1000) {e:En} (hn2:e.n=n+8) (hW:e.W=W)
  (K:∀ loc' mu' most' r',(∀ x,x≠220655771->x≠28490354198->x≠510831270252895->look loc' x=look loc x)->MkM M most' (made is o (given.map (·.part)) row rev).1 r' mu'->r' aHp=some (.lst ((heap++[zBp is o given row rev text holds]).map zBc))->(∀ b o,b≠aHp->r b=some o->r' b=some o)->run .nil e [] loc' mu'):run (xSs zM0 .nil) e [] loc mu:=by
 refine e02 (λhok hpw=>?_) (LI.items tk hi)
 have okg:∀ it∈given,ItemOk (text.length+1) is it:=λit h=>hok it (List.mem_append_right _ h)
 have hi':=LI.step tk hi hm hrow hs
 have okn:=(LI.items tk hi').1 (zBp is o given row rev text holds) (by simp)
 have hcat:o=.cat->∀ k∈(part (given.map (·.part)) 0).ms,k∉(part (given.map (·.part)) 1).ms:=by
  intro e
  subst e
  rw[List.pairwise_append]at hpw
  have h2:=hpw.2.1
  obtain⟨a,b,rfl⟩:=len2 hm
  simpa [part]using h2
 have eshp:(given.map (·.part)).map zAt=given.map (·.sh):=by
  rw[List.map_map]
  exact List.map_congr_left λit h=>(okg it h).sh
 have mS':r aS=some (.lst ((given.map (·.sh)).map eS)):=by rw[mS,List.map_map];rfl
 have mQ':r aQ=some (.lst ((given.map (·.part)).map λp=>eF p.f)):=by rw[mQ,List.map_map];rfl
 have hm':∀{β:Type} (f:Item->β),(given.map f).length=many o:=λf=>by rw[List.length_map];exact hm
 delta zM0
 obtain⟨eW,en,eQ,eX,eZ⟩:=e
 dsimp only at hn2 hW
 subst hn2;subst hW
 refine x_var l1 (x_var l3 (x_var l2 (x_var l5 ?_)))
 refine zWs G o (given.map (·.sh)) (zA3 (H.rest _ _ mS')) (hm' _) ?_
 refine x_var l2 (x_var l6 (x_var l4 (x_var l10 ?_)))
 have erev:decide (((if rev then 1 else 0:Nat):Int)=1)=rev:=by cases rev<;>rfl
 refine yJa erev ?_
 rw[<-eshp]
 refine zWq G o (given.map (·.part)) row rev room H (nLit hs rfl) hr (zA3 (H.rest _ _ mQ')) (zA3 mQ') (hm' _) (λp hp=>by obtain⟨it,h,rfl⟩:=List.mem_map.mp hp;exact⟨(okg it h).ok,(okg it h).nl⟩) hcat hsl.1 hsl.2 λmost' mu1 H1=>?_
 refine x_var (d:=eO o) (by kst_p) (x_var (d:=.ref aS) (by kst_p) ?_)
 refine zWr G o (given.map (·.sh)) (zA3 (H1.rest _ _ mS')) (hm' _) ?_
 have esh:DV.tup [.bool (decide (((made is o (given.map (·.part)) row rev).2.f.b:Int)=0)),.bool (made is o (given.map (·.part)) row rev).2.f.nl]=eS (zMm o (given.map (·.sh))):=by
  have:=okn.sh
  unfold zBp zAt at this
  dsimp only at this
  rw[<-this,show decide (((made is o (given.map (·.part)) row rev).2.f.b:Int)=0)=decide ((made is o (given.map (·.part)) row rev).2.f.b=0) by rw[decide_eq_decide];exact n40];rfl
 refine x_var (d:=eF (made is o (given.map (·.part)) row rev).2.f) (by kst_p) (x_var (d:=eF (made is o (given.map (·.part)) row rev).2.f) (by kst_p) (x_var (d:=eF (made is o (given.map (·.part)) row rev).2.f) (by kst_p) (x_var (d:=eS (zMm o (given.map (·.sh)))) (by kst_p) ?_)))
 refine j_V (by rw[esh];exact congrArg (Option.map (!·)) (yCs (m:=mu1) _):cmpX mu1 .ne (.tup [.bool (decide (((made is o (given.map (·.part)) row rev).2.f.b:Int)=0)),.bool (made is o (given.map (·.part)) row rev).2.f.nl]) (eS (zMm o (given.map (·.sh))))=some (!true)) (λq=>Bool.noConfusion q) λU=>?_
 refine yGd G (aS:=aS) (aG:=aG) o given (by kst_p) (by kst_p) (by kst_p) (H1.rest _ _ mS) (H1.rest _ _ mG) hm λa b l ha hb=>?_
 have H2:=(H1.new (.lst l) ha).new (.lst []) hb
 have Srr:Sub r ((r.set a (.lst l)).set b (.lst [])):=(Sub.rfl.new (H1.absent ha)).new ((H1.new (.lst l) ha).absent hb)
 generalize (mu1.set a (.lst l)).set b (.lst [])=mu2 at H2 ⊢
 generalize (r.set a (.lst l)).set b (.lst [])=r2 at H2 Srr
 have h9:=H2.rest _ _ (Srr _ _ mHp)
 delta zLy
 refine x_var (d:=.ref aHp) (by kst_p) (x_meA h9 (x_var (d:=eF (made is o (given.map (·.part)) row rev).2.f) (by kst_p) (x_var (d:=eS (zMm o (given.map (·.sh)))) (by kst_p) (x_var (d:=eO o) (by kst_p) (x_var (d:=.ref aT) (by kst_p) (x_var (d:=eR row) (by kst_p) (x_var (d:=eB text) (by kst_p) (x_var (d:=.lst (holds.map eN)) (by kst_p) ?_))))))))
 refine zWt G o (given.map (·.tb)) row text holds (zA3 (by rw[H2.rest _ _ (Srr _ _ mT),List.map_map];rfl)) rfl tk.len tk.byte tk.holds (λt ht=>by obtain⟨it,h,rfl⟩:=List.mem_map.mp ht;exact(okg it h).wf) (hm' _) ?_
 refine x_var (d:=.bool (zD3 o given)) (by kst_p) ?_
 refine zM8 h9 (by rw[List.length_map];exact nLit hhp rfl) (K _ _ most' (r2.set aHp (.lst ((heap++[zBp is o given row rev text holds]).map zBc))) (λx x1 x2 x3=>?_) ?_ (Mt.set_self _ _ _) (λb o hb e=>by rw[Mt.set_ne _ _ hb];exact Srr _ _ e))
 ·rw[zEy,zEy,zEy,zA9 (Ne.symm x1),zA9 (Ne.symm x2),zA9 (Ne.symm x3)];rfl
 ·have:=H2.upd (a:=aHp) (.lst ((heap++[zBp is o given row rev text holds]).map zBc)) (by rw[Srr _ _ mHp];simp)
  rw[List.map_append]at this
  rw[List.map_append]
  exact this
end
section
abbrev zJe:=Ord×Nat×Row
def eOrd(x:zJe):DV:=.tup [eO x.1,.int (x.2.1:Nat),eR x.2.2]
def zDz:List (Nat×DV):=dctV [(1959739,2),(1961156,2),(248515262,1),(32650705719,1),(250993736,1),(474184994492923,1)]
noncomputable def pairsL:List (Nat×Nat×Bool):=[(97,97,false),(98,98,false),(97,98,false),(97,97,true),(0,255,false),(98,122,true),(10,65,false)]
noncomputable def eP3(p:Nat×Nat×Bool):DV:=.tup [.int (p.1:Nat),.int (p.2.1:Nat),.bool p.2.2]
structure LL(M aN aP aO:Addr)(rev:Bool)(text holds:List Nat)(loc:Loc):Prop where
 maker:look loc 32066903573=some (.ref M)
 orders:look loc 4175940780565=some (.ref aO)
 needed:look loc 129906622853851102991730=some (.ref aN)
 pairs:look loc 1156415915808219961899=some (.ref aP)
 text:look loc 253189449=some (eB text)
 holds:look loc 32341698207=some (.lst (holds.map eN))
 rev:look loc 474219854675971=some (.int (if rev then 1 else 0:Nat))
noncomputable def llN:List Nat:=[32066903573,4175940780565,129906622853851102991730,1156415915808219961899,253189449,32341698207,474219854675971]
theorem LL.of{M aN aP aO:Addr}{rev:Bool}{text holds:List Nat}{loc loc':Loc}(h:LL M aN aP aO rev text holds loc)(e:∀ x∈llN,look loc' x=look loc x):LL M aN aP aO rev text holds loc':=
 ⟨(e _ (by simp[llN])).trans h.maker,(e _ (by simp[llN])).trans h.orders,(e _ (by simp[llN])).trans h.needed,(e _ (by simp[llN])).trans h.pairs,(e _ (by simp[llN])).trans h.text,(e _ (by simp[llN])).trans h.holds,(e _ (by simp[llN])).trans h.rev⟩
theorem LL.put{M aN aP aO:Addr}{rev:Bool}{text holds:List Nat}{loc:Loc}{k:Nat}{v:DV}(h:LL M aN aP aO rev text holds loc)(e:llN.all (λx=>!(Nat.beq k x))=true):LL M aN aP aO rev text holds (put loc k v):=
 h.of λx hx=>by
  have:=List.all_eq_true.mp e x hx
  rw[zEy]
  cases hb:Nat.beq k x with
  |true=>rw[hb]at this;cases this
  |false=>rfl
structure LM(m:Mt)(M aN aP aO aHp:Addr)(is:List Ins)(items:List Item)(orders:List zJe)(holds:List Nat)(most:Nat)(r0 r mu:Mt):Prop where
 H:MkM M most is r mu
 S:Sub r0 r
 o0:r0 aO=none
 o:r aO=some (.lst (orders.map eOrd))
 N:r0 aN=some (.dS zDz)
 P:r0 aP=some (.lst (pairsL.map eP3))
 Hp:r0 aHp=some (.lst (items.map zBc))
 m0:Sub m r0
def LS(m:Mt)(M aN aP aO:Addr)(is:List Ins)(items:List Item)(orders:List zJe)(rev:Bool)(text holds:List Nat)(loc:Loc)(mu:Mt):Prop:=
 LL M aN aP aO rev text holds loc/\∃ aHp most r0 r,look loc 244219938=some (.ref aHp)/\LM m M aN aP aO aHp is items orders holds most r0 r mu
theorem zSa(i j:Nat)(h:asL mu o=some xs)(hl:bnd 0 l=some i)(hu:bnd xs.length u=some j)(hs:xs.length<=100000)(hy:(xs.take j).drop i=ys)(k:∀ A,mu A=none->run r e (.ref A::s) loc (mu.set A (.lst ys))):zSd o l u (λd V=>run r e (d::s) V.loc V.mu) ⟨loc,mu⟩:=by
 refine zAy h (zAy hl (zAy hu ⟨zAq hs,?_⟩))
 rw[hy];exact k
variable {W:Wd}(G:Gd W){n:Nat}{m:Mt}{is:List Ins}{M aN aP aO:Addr}
include G
theorem zZy{loc:Loc}{mu:Mt}{aHp:Addr}{most:Nat}{r0 r:Mt}{Inv:List Nat->List Nat->List Ins->List Item->Prop}(LI:LawInv Inv)(o:Ord)(heap given:List Item)(orders:List zJe)(row:Row)(rev:Bool)(room:Nat)(text holds:List Nat)
  (l:LL M aN aP aO rev text holds loc) (l1:look loc 32066789281=some (eO o)) (l2:look loc 238014145=some (.int (room:Nat))) (l3:look loc 2011483=some (eR row)) (l4:look loc 263755961=some (.int (many o:Nat))) (l5:look loc 244219938=some (.ref aHp))
  (H:LM m M aN aP aO aHp is (heap++given) orders holds most r0 r mu) (tk:TextOk text holds) (hi:Inv text holds is (heap++given)) (hm:given.length=many o) (hrow:o≠.cat->RowOk rev row) (hsl:row.s0<=3/\row.s1<=3) (hs:is.length<=100) (hr:room<=1000) (hhp:heap.length<=1000) {e:En} (hn2:e.n=n+8) (hW:e.W=W)
  (K:∀ loc' mu',LS m M aN aP aO (made is o (given.map (·.part)) row rev).1 (heap++[zBp is o given row rev text holds]) orders rev text holds loc' mu'->run .nil e [] loc' mu'):run (xSs zM1 .nil) e [] loc mu:=by
 have rHp:=H.S _ _ H.Hp
 have dHp:=H.H.rest _ _ rHp
 have hg:given.length<=2:=by rw[hm];cases o<;>decide
 have q1:=l.maker
 have q6:=l.rev
 have q7:=l.text
 have q8:=l.holds
 delta zM1
 have hL:((heap++given).map zBc).length<=100000:=by simp;omega
 have eb:((((heap++given).map zBc).length:Nat):Int)-(many o:Int)=((heap.length:Nat):Int):=by
  rw[List.length_map,List.length_append,hm];simp
 have eb':∀ k,bnd k (.int (((((heap++given).map zBc).length:Nat):Int)-(many o:Int)))=some heap.length:=λk=>by rw[eb];rfl
 refine x_var l5 (x_var l5 (zDh (zCc (zA3 dHp)) hL (x_var l4 ?_)))
 refine zSa heap.length ((heap++given).map zBc).length (ys:=given.map zBc) (zA3 dHp) (eb' _) rfl hL (by rw[List.take_length,List.map_append,List.drop_left' (by simp)]) λaG hG=>?_
 have H1:=H.H.new (.lst (given.map zBc)) hG
 have R1:Sub r (r.set aG (.lst (given.map zBc))):=Sub.rfl.new (H.H.absent hG)
 have g1:(r.set aG (.lst (given.map zBc))) aG=some (.lst (given.map zBc)):=Mt.set_self _ _ _
 have dHp:=Mt.keep (o:=.lst (given.map zBc)) (Mt.ne_of dHp hG) dHp
 generalize mu.set aG (.lst (given.map zBc))=mu1 at H1 dHp ⊢
 generalize r.set aG (.lst (given.map zBc))=r1 at H1 R1 g1
 refine x_var l5 (x_var l5 (zDh (zCc (zA3 dHp)) hL (x_var l4 ?_)))
 refine zSa 0 heap.length (ys:=heap.map zBc) (zA3 dHp) rfl (eb' _) hL (by rw[List.drop_zero,List.map_append,List.take_left' (by simp)]) λaN' hN'=>?_
 have hN0:r1 aN'=none:=H1.absent hN'
 have H2:=H1.new (.lst (heap.map zBc)) hN'
 have R2:Sub r1 (r1.set aN' (.lst (heap.map zBc))):=Sub.rfl.new hN0
 have g2:(r1.set aN' (.lst (heap.map zBc))) aN'=some (.lst (heap.map zBc)):=Mt.set_self _ _ _
 generalize mu1.set aN' (.lst (heap.map zBc))=mu2 at H2 ⊢
 generalize r1.set aN' (.lst (heap.map zBc))=r2 at H2 R2 g2
 have g1:=R2 _ _ g1
 have q2:=zA3 (H2.rest _ _ g1)
 refine x_var (d:=.ref aG) (by kst_p) (zDj (l:=given) zBc (λi=>eS i.sh) (zBb q2) trivial (n21 hm hg) (zBr q2) (λU=>rfl) (λit U K hK=>finC hK) λaS hS=>?_)
 have H3:=H2.new (.lst (given.map λi=>eS i.sh)) hS
 have R3:Sub r2 (r2.set aS (.lst (given.map λi=>eS i.sh))):=Sub.rfl.new (H2.absent hS)
 have g3:(r2.set aS (.lst (given.map λi=>eS i.sh))) aS=some (.lst (given.map λi=>eS i.sh)):=Mt.set_self _ _ _
 generalize mu2.set aS (.lst (given.map λi=>eS i.sh))=mu3 at H3 ⊢
 generalize r2.set aS (.lst (given.map λi=>eS i.sh))=r3 at H3 R3 g3
 have g1:=R3 _ _ g1
 have q2:=zA3 (H3.rest _ _ g1)
 refine x_var (d:=.ref aG) (by kst_p) (zDj (l:=given) zBc (λi=>eF i.part.f) (zBb q2) trivial (n21 hm hg) (zBr q2) (λU=>rfl) (λit U K hK=>finC hK) λaQ hQ=>?_)
 have H4:=H3.new (.lst (given.map λi=>eF i.part.f)) hQ
 have R4:Sub r3 (r3.set aQ (.lst (given.map λi=>eF i.part.f))):=Sub.rfl.new (H3.absent hQ)
 have g4:(r3.set aQ (.lst (given.map λi=>eF i.part.f))) aQ=some (.lst (given.map λi=>eF i.part.f)):=Mt.set_self _ _ _
 generalize mu3.set aQ (.lst (given.map λi=>eF i.part.f))=mu4 at H4 ⊢
 generalize r3.set aQ (.lst (given.map λi=>eF i.part.f))=r4 at H4 R4 g4
 have g1:=R4 _ _ g1
 have q2:=zA3 (H4.rest _ _ g1)
 refine x_var (d:=.ref aG) (by kst_p) (zDj (l:=given) zBc (λi=>eT i.tb) (zBb q2) trivial (n21 hm hg) (zBr q2) (λU=>rfl) (λit U K hK=>finC hK) λaT hT=>?_)
 have H5:=H4.new (.lst (given.map λi=>eT i.tb)) hT
 have R5:Sub r4 (r4.set aT (.lst (given.map λi=>eT i.tb))):=Sub.rfl.new (H4.absent hT)
 have g5:(r4.set aT (.lst (given.map λi=>eT i.tb))) aT=some (.lst (given.map λi=>eT i.tb)):=Mt.set_self _ _ _
 generalize mu4.set aT (.lst (given.map λi=>eT i.tb))=mu5 at H5 ⊢
 generalize r4.set aT (.lst (given.map λi=>eT i.tb))=r5 at H5 R5 g5
 have Rb:=R3.trans (R4.trans R5)
 refine yGe G (loc:=put (put (put (put (put loc 244219938 (.ref aN')) 30959396126 (.ref aG)) 4172364345482 (.ref aS)) 4172355774465 (.ref aT)) 32376143279 (.ref aQ)) (M:=M) (most:=most) (r:=r5) (aS:=aS) (aQ:=aQ) (aT:=aT) (aG:=aG) (aHp:=aN') LI o heap given row rev room text holds
  (by kst_p) (by kst_p) (by kst_p) (by kst_p) (by kst_p) (by kst_p) (by kst_p) (by kst_p) (by kst_p) (by kst_p) (by kst_p) (by kst_p)
  H5 (R5 _ _ (R4 _ _ g3)) (R5 _ _ g4) g5 (R5 _ _ g1) (Rb _ _ g2) tk hi hm hrow hsl hs hr hhp hn2 hW ?_
 intro loc' mu' most' r' hlk H' hHp hR
 have R15:=R1.trans (R2.trans Rb)
 have R05:=H.S.trans R15
 have hN00:r aN'=none:=R1.absent hN0
 have nO:=Mt.ne_of H.o hN00
 have n0:r0 aN'=none:=H.S.absent hN00
 refine K _ _ ⟨?_,aN',most',r0.set aN' (.lst ((heap++[zBp is o given row rev text holds]).map zBc)),r',?_,⟨H',?_,(Mt.set_ne _ _ nO).trans H.o0,hR _ _ nO (R15 _ _ H.o),(Sub.rfl.new n0) _ _ H.N,(Sub.rfl.new n0) _ _ H.P,Mt.set_self _ _ _,H.m0.trans (Sub.rfl.new n0)⟩⟩
 ·refine LL.of (((l.put (k:=244219938) (v:=.ref aN') rfl).put (k:=30959396126) (v:=.ref aG) rfl).put (k:=4172364345482) (v:=.ref aS) rfl|>.put (k:=4172355774465) (v:=.ref aT) rfl|>.put (k:=32376143279) (v:=.ref aQ) rfl) λx hx=>?_
  refine hlk x ?_ ?_ ?_<;>(rintro rfl;revert hx;decide)
 ·rw[hlk _ (by decide) (by decide) (by decide)];kst_p
 ·intro b o' e
  by_cases eb:b=aN'
  ·subst eb;rw[Mt.set_self]at e;cases e;exact hHp
  ·rw[Mt.set_ne _ _ eb]at e;exact hR b o' eb (R05 _ _ e)
end
section
theorem zN4(o:Ord):(zRe zDz o.code).getD (.int 0)=.int (many o:Nat):=by
 cases o<;>rfl
noncomputable def row0:Row:=⟨false,97,97,false,0,1,1⟩
theorem yFq(h:l≠[])(k:l.length<=1):∃ x,l=[x]:=by
 cases l with
 |nil=>exact absurd rfl h
 |cons x r=>exact⟨x,by rw[List.eq_nil_of_length_eq_zero (Nat.le_zero.mp (Nat.le_of_succ_le_succ k))]⟩
theorem zP5(k:∀ A,mu A=none->run r e (.ref A::s) loc (mu.set A (.lst []))):run (.lst 0 r) e s loc mu:=k
variable {W:Wd}(G:Gd W){n:Nat}{m:Mt}{is:List Ins}{M aN aP aO:Addr}
include G
theorem zZx{aHp:Addr}{most:Nat}{Inv:List Nat->List Nat->List Ins->List Item->Prop}(LI:LawInv Inv)(o:Ord)(items:List Item)(orders:List zJe)(row:Row)(rev:Bool)(room:Nat)(text holds:List Nat)
  (l:LL M aN aP aO rev text holds loc) (l1:look loc 32066789281=some (eO o)) (l2:look loc 238014145=some (.int (room:Nat))) (l3:look loc 2011483=some (eR row)) (l5:look loc 244219938=some (.ref aHp))
  (H:LM m M aN aP aO aHp is items orders holds most r0 r mu) (tk:TextOk text holds) (hi:Inv text holds is items) (hrow:RowOk rev row\/(row=row0/\o=.cat/\2<=items.length)) (hs:is.length<=100) (hr:room<=1000) (hhp:items.length<=1000) {e:En} (hn2:e.n=n+8) (hW:e.W=W)
  (K:∀ is' items' loc' mu',LS m M aN aP aO is' items' orders rev text holds loc' mu'->Inv text holds is' items'->items'.length<=items.length+1->items'≠[]->is'.length<=is.length+2->(o=.cat->2<=items.length->items'.length+1=items.length/\is'.length=is.length)->run .nil e [] loc' mu') :
  run (xSs zLx .nil) e [] loc mu:=by
 have hsl:row.s0<=3/\row.s1<=3:=by
  rcases hrow with h|⟨h,_⟩
  ·refine e13 (λg hg h0 h1=>?_) h.slots
   rw[h0,h1];cases rev<;>simp<;>omega
  ·subst h;decide
 have lens:∀(o:Ord) (heap given:List Item),heap++given=items->given.length=many o->(made is o (given.map (·.part)) row rev).1.length=is.length+needs o (given.map (·.sh)):=by
  intro o heap given e hm
  subst e
  have hok:=(LI.items tk hi).1
  rw[zPt (by simpa using hm) (λp hp=>by obtain⟨it,h,rfl⟩:=List.mem_map.mp hp;exact(hok it (List.mem_append_right _ h)).nl)]
  congr 1
  rw[List.map_map]
  congr 1
  exact List.map_congr_left λit h=>(hok it (List.mem_append_right _ h)).sh
 have dN:=H.H.rest _ _ (H.S _ _ H.N)
 have dHp:=zA3 (H.H.rest _ _ (H.S _ _ H.Hp))
 have lm:=List.length_map (as:=items) zBc
 delta zLx
 refine x_var l.needed (yHy dN (x_var l1 (yHz dN ?_)))
 rw[zN4]
 refine x_var (d:=.int (many o:Nat)) (by kst_p) (x_var (d:=.ref aHp) (by kst_p) (zDh (zCc dHp) (n25 lm hhp) ?_))
 refine zBk (λq=>?_) λq=>?_
 ·have q:items.length<many o:=lm▸Int.ofNat_lt.mp q
  have hne:o≠.cat\/¬ 2<=items.length:=by
   by_cases e:o=.cat
   ·subst e;exact .inr (Nat.not_le_of_lt q)
   ·exact .inl e
  have hrow':RowOk rev row:=hrow.elim id λh=>absurd h.2.2 (hne.elim (λe=>absurd h.2.1 e) id)
  have e0:items++([]:List Item)=items:=List.append_nil _
  rw[<-e0]at hi H
  have hi':=LI.step (o:=.range) tk hi (given:=[]) rfl (λU=>hrow') hs
  refine zZy G (loc:=put (put (put loc 263755961 (.int (many o:Nat))) 32066789281 (eO .range)) 263755961 (.int 0)) LI .range items [] orders row rev room text holds (((l.put rfl).put rfl).put rfl) (by kst_p) (by kst_p) (by kst_p) (by kst_p) (by kst_p) H tk hi rfl (λU=>hrow') hsl hs hr (by omega) hn2 hW λlo' mu' h'=>?_
  have hl:=lens .range items [] e0 rfl
  refine K _ _ lo' mu' h' hi' (by simp) (by simp) (Nat.le_trans (Nat.le_of_eq hl) (Nat.add_le_add_left zKz _)) λe h2=>?_
  exact absurd h2 (hne.elim (λh=>absurd e h) id)
 ·have q:many o<=items.length:=Nat.le_of_not_lt λh=>q (Int.ofNat_lt.mpr (lm.symm▸h))
  have e0:items.take (items.length-many o)++items.drop (items.length-many o)=items:=List.take_append_drop _ _
  have hg:(items.drop (items.length-many o)).length=many o:=by rw[List.length_drop];omega
  have hr':o≠.cat->RowOk rev row:=λhne=>hrow.elim id λh=>absurd h.2.1 hne
  rw[<-e0]at hi H
  have hi':=LI.step tk hi hg hr' hs
  have ht:(items.take (items.length-many o)).length<=items.length:=List.length_take_le' ..
  refine zZy G (loc:=put loc 263755961 (.int (many o:Nat))) LI o (items.take (items.length-many o)) (items.drop (items.length-many o)) orders row rev room text holds (l.put rfl) (by kst_p) (by kst_p) (by kst_p) (by kst_p) (by kst_p) H tk hi hg hr' hsl hs hr (by omega) hn2 hW λlo' mu' h'=>?_
  have hl:=lens o _ _ e0 hg
  have hn:needs o ((items.drop (items.length-many o)).map (·.sh))<=2:=zKz
  refine K _ _ lo' mu' h' hi' (by simp) (by simp) (by omega) λe h2=>?_
  subst e
  exact⟨by simp[many];omega,hl⟩
def zS6(rev:Bool)(x:zJe):Prop:=RowOk rev x.2.2/\x.2.1<=1000
def LP(Inv:List Nat->List Nat->List Ins->List Item->Prop)(m:Mt)(M aN aP aO:Addr)(rev:Bool)(text holds:List Nat)(j:Nat)(loc:Loc)(mu:Mt):Prop:=
 ∃ is items orders,LS m M aN aP aO is items orders rev text holds loc mu/\Inv text holds is items/\is.length+2 * orders.length<=60/\items.length+orders.length<=60/\(∀ x∈orders,zS6 rev x)/\(items≠[]\/orders≠[])/\2 * orders.length+items.length=j
theorem yIt{loc:Loc}{mu:Mt}{aHp:Addr}{most:Nat}{r0 r:Mt}{Inv:List Nat->List Nat->List Ins->List Item->Prop}(LI:LawInv Inv)(items:List Item)(orders:List zJe)(rev:Bool)(text holds:List Nat)(tk:TextOk text holds)
  (l:LL M aN aP aO rev text holds loc) (l5:look loc 244219938=some (.ref aHp)) (H:LM m M aN aP aO aHp is items orders holds most r0 r mu) (hi:Inv text holds is items) (b1:is.length+2 * orders.length<=60) (b2:items.length+orders.length<=60) (ho:∀ x∈orders,zS6 rev x) (hcont:orders=[]->2<=items.length) {e:En} (hn2:e.n=n+8) (hW:e.W=W)
  (K:∀ j loc mu,j<2 * orders.length+items.length->LP Inv m M aN aP aO rev text holds j loc mu->run .nil e [] loc mu):run (xSs zOx .nil) e [] loc mu:=by
 have dO:=H.H.rest _ _ H.o
 have dP:=H.H.rest _ _ (H.S _ _ H.P)
 delta zOx
 refine x_var l.orders (zP5 λc hc=>?_)
 have H1:=H.H.new (.lst []) hc
 have R1:Sub r (r.set c (.lst [])):=Sub.rfl.new (H.H.absent hc)
 have nc:asL (mu.set c (.lst [])) (.ref c)=some []:=asL_new
 have dO:=Mt.keep (o:=.lst []) (Mt.ne_of dO hc) dO
 have dP:=Mt.keep (o:=.lst []) (Mt.ne_of dP hc) dP
 generalize mu.set c (.lst [])=mu1 at H1 nc dO dP ⊢
 generalize r.set c (.lst [])=r1 at H1 R1
 cases orders with
 |cons x os=>
  obtain⟨o,room,row⟩:=x
  have hx:=ho _ (List.mem_cons_self ..)
  rw[List.length_cons]at b1 b2
  refine zOh (congrArg (Option.map (!·)) (zEo (zA3 dO) nc (Nat.succ_ne_zero _)):cmpV _ .ne (.ref aO) (.ref c)=some (!false)) ?_
  refine x_var l.orders (yEb dO (yE9 dO (by rw[List.length_map];omega) ?_))
  have L2:LM m M aN aP aO aHp is items os holds most r0 (r1.set aO (.lst (os.map eOrd))) (mu1.set aO (.lst (os.map eOrd))):=
   ⟨H1.upd (a:=aO) (.lst (os.map eOrd)) (by rw[R1 _ _ H.o];simp),(H.S.trans R1).put H.o0,H.o0,Mt.set_self _ _ _,H.N,H.P,H.Hp,H.m0⟩
  refine zZx G (loc:=put (put (put loc 32066789281 (eO o)) 238014145 (.int (room:Nat))) 2011483 (eR row)) LI o items os row rev room text holds (((l.put rfl).put rfl).put rfl) (by kst_p) (by kst_p) (by kst_p) (by kst_p) L2 tk hi (.inl hx.1) (by omega) hx.2 (by omega) hn2 hW λis' items' lo' mu' h' hi' e1 e2 e3 e4=>?_
  exact K (2 * os.length+items'.length) lo' mu' (by rw[List.length_cons];omega) ⟨is',items',os,h',hi',by omega,by omega,λy hy=>ho y (List.mem_cons_of_mem _ hy),.inl e2,rfl⟩
 |nil=>
  have h2:=hcont rfl
  rw[List.length_nil]at b1 b2
  refine zNa (congrArg (Option.map (!·)) (zC2 (x:=[]) (zA3 dO) nc rfl):cmpV _ .ne (.ref aO) (.ref c)=some (!true)) ?_
  refine x_var l.pairs (zBv 0 rfl (zA3 dP) (d:=eP3 (97,97,false)) (Nat.zero_le _) rfl ?_)
  have L2:LM m M aN aP aO aHp is items [] holds most r0 r1 mu1:=⟨H1,H.S.trans R1,H.o0,R1 _ _ H.o,H.N,H.P,H.Hp,H.m0⟩
  refine zZx G (loc:=put (put (put loc 32066789281 (eO .cat)) 238014145 (.int 0)) 2011483 (eR row0)) LI .cat items [] row0 rev 0 text holds (((l.put rfl).put rfl).put rfl) (by kst_p) (by kst_p) (by kst_p) (by kst_p) L2 tk hi (.inr ⟨rfl,rfl,h2⟩) (by omega) (Nat.zero_le 1000) (by omega) hn2 hW λis' items' lo' mu' h' hi' e1 e2 e3 e4=>?_
  refine e02 (λe5 e6=>?_) (e4 rfl h2)
  exact K (2 * 0+items'.length) lo' mu' (by rw[List.length_nil];omega) ⟨is',items',[],h',hi',by rw[List.length_nil];omega,by rw[List.length_nil];omega,ho,.inl e2,rfl⟩
theorem yG9{loc:Loc}{mu:Mt}{Q X:DV->Mt->Prop}{Inv:List Nat->List Nat->List Ins->List Item->Prop}(LI:LawInv Inv)(rev:Bool)(text holds:List Nat)(j:Nat)(tk:TextOk text holds)(P:LP Inv m M aN aP aO rev text holds j loc mu)(h:Q (.bool true) m) :
  run (xSs zLt .nil) (fnE W (n+8) Q X) [] loc mu:=by
 delta zLt
 refine yE3 (LP Inv m M aN aP aO rev text holds) j P ?_
 rintro _ loc mu K ⟨is,items,orders,⟨l,aHp,most,r0,r,l5,H⟩,hi,b1,b2,ho,hne,rfl⟩ hK
 have dO:=H.H.rest _ _ H.o
 have dHp:=H.H.rest _ _ (H.S _ _ H.Hp)
 refine x_var l.orders (zP5 λc hc=>?_)
 have H1:=H.H.new (.lst []) hc
 have R1:Sub r (r.set c (.lst [])):=Sub.rfl.new (H.H.absent hc)
 have nc:asL (mu.set c (.lst [])) (.ref c)=some []:=asL_new
 have dO:=Mt.keep (o:=.lst []) (Mt.ne_of dO hc) dO
 have dHp:=Mt.keep (o:=.lst []) (Mt.ne_of dHp hc) dHp
 generalize mu.set c (.lst [])=mu1 at H1 nc dO dHp ⊢
 generalize r.set c (.lst [])=r1 at H1 R1
 have L1:LM m M aN aP aO aHp is items orders holds most r0 r1 mu1:=⟨H1,H.S.trans R1,H.o0,R1 _ _ H.o,H.N,H.P,H.Hp,H.m0⟩
 have cont:=λh=>yIt G (n:=n) LI items orders rev text holds tk l l5 L1 hi b1 b2 ho h (e:=(fnE W (n+8) Q X).loop K λV=>run (xSs zHv .nil) (fnE W (n+8) Q X) [] V.loc V.mu) rfl rfl hK
 cases orders with
 |cons x os=>
  exact zOh (congrArg (Option.map (!·)) (zEo (zA3 dO) nc (Nat.succ_ne_zero _)):cmpV _ .ne (.ref aO) (.ref c)=some (!false)) (cont λh=>nomatch h)
 |nil=>
  refine zNa (congrArg (Option.map (!·)) (zC2 (x:=[]) (zA3 dO) nc rfl):cmpV _ .ne (.ref aO) (.ref c)=some (!true)) ?_
  have lm:=List.length_map (as:=items) zBc
  refine x_var l5 (zDh (zCc (zA3 dHp)) (by omega) ?_)
  refine zBk (λq=>?_) λq=>?_
  ·exact cont λU=>lm▸Int.ofNat_lt.mp q
  ·have hlen:items.length<=1:=Nat.le_of_not_lt λh=>q (Int.ofNat_lt.mpr (lm.symm▸h))
   obtain⟨it,rfl⟩:=yFq (hne.elim id λh=>absurd rfl h) hlen
   exact yG8 G (n:=n+2) LI it text holds l.maker l.text l.holds l5 H1 (Nat.le_trans (Nat.le_add_right _ _) b1) (L1.S _ _ H.Hp) tk hi ((L1.m0.trans L1.S).trans H1.rest) (L1.m0.trans L1.S) h
end
section
noncomputable def ordersL:List Ord:=[.range,.cat,.range,.alt,.star,.range,.capture,.quest,.plus,.range,.empty,.cat,.nop,.none,.alt,.capture]
noncomputable def askedL:List Nat:=[1,2,4,8,16,32,5,10,40,63]
noncomputable def basesL:List Nat:=[16,7,2,4,2,10]
noncomputable def yIl(rev:Bool)(p:Nat×Nat×Bool)(lazy group bits:Nat):Row:=
 ⟨decide (lazy=1),p.1,p.2.1,p.2.2,if rev then 2 * group+1 else 2 * group,if rev then 2 * group else 2 * group+1,bits⟩
def zL1(rev:Bool)(kind pair lazy room group bits:Nat):zJe:=
 (ordersL.getD kind .range,if room=3 then 1000 else room,yIl rev (pairsL.getD pair (97,97,false)) lazy group (askedL.getD bits 1))
theorem zRc(rev:Bool){kind pair lazy room group bits:Nat}(hp:pair<7)(hr:room<4)(hg:group<2)(hb:bits<10):zS6 rev (zL1 rev kind pair lazy room group bits):=by
 refine⟨⟨?_,?_,⟨group,Nat.le_of_lt_succ hg,rfl,rfl⟩⟩,?_⟩
 ·have:∀ p:Fin 7,(pairsL.getD p.1 (97,97,false)).1<=(pairsL.getD p.1 (97,97,false)).2.1/\(pairsL.getD p.1 (97,97,false)).2.1<=255:=by decide
  exact this ⟨pair,hp⟩
 ·have:∀ p:Fin 10,askedL.getD p.1 1≠0/\askedL.getD p.1 1&&& 63=askedL.getD p.1 1:=by decide
  exact this ⟨bits,hb⟩
 ·show(if room=3 then 1000 else room)<=1000
  split<;>omega
theorem zE7{s:List DV}{loc:Loc}{mu:Mt}(l:List DV)(c:∀ A,mu A=none->run r e (.ref A::s) loc (mu.set A (.lst l))):∀ A,mu A=none->run r e (.ref A::s) loc (mu.set A (.lst l)):=c
theorem yE4{r:C}{e:En}{s:List DV}{loc lo:Loc}{mu:Mt}{d:DV}(h:zGc loc mu (.tup ns) d=some lo)(k:run r e s lo mu):run (.st (.tup ns) r) e (d::s) loc mu:=zAy h k
theorem zF2(c:α->DV)(l:List α)(z:α)(h:i<l.length):(l.map c)[i]?=some (c (l.getD i z)):=by rw[List.getElem?_map,List.getD_eq_getElem?_getD,List.getElem?_eq_getElem h];rfl
variable {W:Wd}(G:Gd W){n:Nat}{m:Mt}{is:List Ins}{M aN aP aO:Addr}
include G
set_option maxHeartbeats 4000000 in
theorem yIs{loc:Loc}{mu:Mt}{aHp aK aA:Addr}(rev:Bool)(text holds:List Nat)(acc:List zJe)(cell:Nat)(l:LL M aN aP aO rev text holds loc)(l5:look loc 244219938=some (.ref aHp))(l6:look loc 149177348187315714245916=some (.ref aK))(l7:look loc 1007032309778334464532=some (.ref aA))(l8:look loc 235816228=some (.int (cell:Nat)))
  (H:LM m M aN aP aO aHp [opI 6] [] acc holds 1 r0 r mu) (mK:r0 aK=some (.lst (ordersL.map eO))) (mA:r0 aA=some (.lst (askedL.map eN))) (hacc:acc.length<=1000) {e:En} (hn2:e.n=n+8) (hW:e.W=W)
  (K:∀ loc' mu' r' x,LL M aN aP aO rev text holds loc'->look loc' 244219938=some (.ref aHp)->look loc' 149177348187315714245916=some (.ref aK)->look loc' 1007032309778334464532=some (.ref aA)->zS6 rev x->LM m M aN aP aO aHp [opI 6] [] (acc++[x]) holds 1 r0 r' mu'->run .nil e [] loc' mu'):run (xSs zOw .nil) e [] loc mu:=by
 delta zOw
 obtain⟨eW,en,eQ,eX,eZ⟩:=e
 dsimp only at hn2 hW
 subst hn2;subst hW
 have lr:=l.rev
 have lo:=l.orders
 have lp:=l.pairs
 refine x_var l8 (zE7 (basesL.map eN) λd hd=>?_)
 have H1:=H.H.new (.lst (basesL.map eN)) hd
 have R1:Sub r (r.set d (.lst (basesL.map eN))):=Sub.rfl.new (H.H.absent hd)
 have nd:asL (mu.set d (.lst (basesL.map eN))) (.ref d)=some (basesL.map eN):=asL_new
 generalize mu.set d (.lst (basesL.map eN))=mu1 at H1 nd ⊢
 generalize r.set d (.lst (basesL.map eN))=r1 at H1 R1
 refine zFr G basesL cell nd (by decide) (by decide) ?_
 have hk:cell % 16<16:=Nat.mod_lt _ (by decide)
 have hp:cell / 16 % 7<7:=Nat.mod_lt _ (by decide)
 have hr:cell / 16 / 7 / 2 % 4<4:=Nat.mod_lt _ (by decide)
 have hg:cell / 16 / 7 / 2 / 4 % 2<2:=Nat.mod_lt _ (by decide)
 have hb:cell / 16 / 7 / 2 / 4 / 2 % 10<10:=Nat.mod_lt _ (by decide)
 have edig:zCk cell basesL=[cell % 16,cell / 16 % 7,cell / 16 / 7 % 2,cell / 16 / 7 / 2 % 4,cell / 16 / 7 / 2 / 4 % 2,cell / 16 / 7 / 2 / 4 / 2 % 10]:=rfl
 rw[edig]
 generalize cell % 16=kind at hk ⊢
 generalize cell / 16 % 7=pair at hp ⊢
 generalize cell / 16 / 7 % 2=lazy
 generalize cell / 16 / 7 / 2 % 4=room at hr ⊢
 generalize cell / 16 / 7 / 2 / 4 % 2=group at hg ⊢
 generalize cell / 16 / 7 / 2 / 4 / 2 % 10=bits at hb ⊢
 have bg:bigI ((group:Nat):Int):=zA7 (by omega)
 have b2:bigI 2:=zA7 (k:=2) (Nat.le_of_ble_eq_true rfl)
 refine yE4 (lo:=put (put (put (put (put (put loc 218676522 (eN kind)) 248645936 (eN pair)) 263955652 (eN lazy)) 238014145 (eN room)) 31547473586 (eN group)) 250976694 (eN bits)) rfl ?_
 have lg:look (put (put (put (put (put (put loc 218676522 (eN kind)) 248645936 (eN pair)) 263955652 (eN lazy)) 238014145 (eN room)) 31547473586 (eN group)) 250976694 (eN bits)) 31547473586=some (eN group):=by kst_p
 refine x_var lg (zF8 b2 bg (x_var lg (zF8 b2 bg (x_var lg (zF8 b2 bg (x_var lg (zF8 b2 bg ?_)))))))
 refine zE7 [.tup [.int (2 * group),.int (2 * group+1)],.tup [.int (2 * group+1),.int (2 * group)]] λe he=>?_
 have H2:=H1.new (.lst [.tup [.int (2 * group),.int (2 * group+1)],.tup [.int (2 * group+1),.int (2 * group)]]) he
 have R2:Sub r1 (r1.set e (.lst [.tup [.int (2 * group),.int (2 * group+1)],.tup [.int (2 * group+1),.int (2 * group)]])):=Sub.rfl.new (H1.absent he)
 have ne:asL (mu1.set e (.lst [.tup [.int (2 * group),.int (2 * group+1)],.tup [.int (2 * group+1),.int (2 * group)]])) (.ref e)=some [.tup [.int (2 * group),.int (2 * group+1)],.tup [.int (2 * group+1),.int (2 * group)]]:=asL_new
 generalize mu1.set e (.lst [.tup [.int (2 * group),.int (2 * group+1)],.tup [.int (2 * group+1),.int (2 * group)]])=mu2 at H2 ne ⊢
 generalize r1.set e (.lst [.tup [.int (2 * group),.int (2 * group+1)],.tup [.int (2 * group+1),.int (2 * group)]])=r2 at H2 R2
 have R02:Sub r r2:=R1.trans R2
 have dP:=zA3 (H2.rest _ _ (R02 _ _ (H.S _ _ H.P)))
 have dK:=zA3 (H2.rest _ _ (R02 _ _ (H.S _ _ mK)))
 have dA:=zA3 (H2.rest _ _ (R02 _ _ (H.S _ _ mA)))
 have dO:=H2.rest _ _ (R02 _ _ H.o)
 refine x_var (d:=.int (if rev then 1 else 0:Nat)) (by kst_p) (zCq ne (d:=.tup [.int ((if rev then 2 * group+1 else 2 * group:Nat):Int),.int ((if rev then 2 * group else 2 * group+1:Nat):Int)]) (by split<;>omega) (by cases rev<;>rfl) ?_)
 refine x_var (d:=eN lazy) (by kst_p) (x_var (d:=.ref aP) (by kst_p) (x_var (d:=eN pair) (by kst_p) (zCq dP (d:=eP3 (pairsL.getD pair (97,97,false))) (by omega) (zF2 _ _ _ hp) ?_)))
 refine x_var (d:=.tup [.int ((if rev then 2 * group+1 else 2 * group:Nat):Int),.int ((if rev then 2 * group else 2 * group+1:Nat):Int)]) (by kst_p) (x_var (d:=.ref aA) (by kst_p) (x_var (d:=eN bits) (by kst_p) (zCq dA (d:=eN (askedL.getD bits 1)) (by omega) (zF2 _ _ _ hb) ?_)))
 refine x_var (d:=.ref aO) (by kst_p) (x_meA dO (x_var (d:=.ref aK) (by kst_p) (x_var (d:=eN kind) (by kst_p) (zCq dK (d:=eO (ordersL.getD kind .range)) (by omega) (zF2 _ _ _ hk) ?_))))
 have hx:=zRc rev (kind:=kind) (pair:=pair) (lazy:=lazy) hp hr hg hb
 have el:decide ((lazy:Int)=1)=decide (lazy=1):=by rw[decide_eq_decide];omega
 have lh:acc.length<=100000:=nLit hacc rfl
 have lm:=List.length_map (as:=acc) eOrd
 have fin:∀ x:Nat,x=(if room=3 then 1000 else room)->LM m M aN aP aO aHp [opI 6] [] (acc++[zL1 rev kind pair lazy room group bits]) holds 1 r0 (r2.set aO (.lst ((acc++[zL1 rev kind pair lazy room group bits]).map eOrd))) (mu2.set aO (.lst (acc.map eOrd++[.tup [eO (ordersL.getD kind .range),.int (x:Nat),.tup [.bool (decide ((lazy:Int)=1)),eP3 (pairsL.getD pair (97,97,false)),.tup [.int ((if rev then 2 * group+1 else 2 * group:Nat):Int),.int ((if rev then 2 * group else 2 * group+1:Nat):Int)],eN (askedL.getD bits 1)]]]))):=by
  intro x hx
  have ea:acc.map eOrd++[.tup [eO (ordersL.getD kind .range),.int (x:Nat),.tup [.bool (decide ((lazy:Int)=1)),eP3 (pairsL.getD pair (97,97,false)),.tup [.int ((if rev then 2 * group+1 else 2 * group:Nat):Int),.int ((if rev then 2 * group else 2 * group+1:Nat):Int)],eN (askedL.getD bits 1)]]]=(acc++[zL1 rev kind pair lazy room group bits]).map eOrd:=by rw[el,hx,List.map_append];rfl
  rw[ea]
  exact⟨H2.upd (a:=aO) _ (by rw[R02 _ _ H.o];exact Option.some_ne_none _),(H.S.trans R02).put H.o0,H.o0,Mt.set_self _ _ _,H.N,H.P,H.Hp,H.m0⟩
 have l9:=((((((((l.put (k:=218676522) (v:=eN kind) rfl).put (k:=248645936) (v:=eN pair) rfl).put (k:=263955652) (v:=eN lazy) rfl).put (k:=238014145) (v:=eN room) rfl).put (k:=31547473586) (v:=eN group) rfl).put (k:=250976694) (v:=eN bits) rfl).put (k:=32376094778) (v:=.tup [.int ((if rev then 2 * group+1 else 2 * group:Nat):Int),.int ((if rev then 2 * group else 2 * group+1:Nat):Int)]) rfl).put (k:=2011483) (v:=.tup [.bool (decide ((lazy:Int)=1)),eP3 (pairsL.getD pair (97,97,false)),.tup [.int ((if rev then 2 * group+1 else 2 * group:Nat):Int),.int ((if rev then 2 * group else 2 * group+1:Nat):Int)],eN (askedL.getD bits 1)]) rfl)
 refine x_var (d:=eN room) (by kst_p) (zBk (λh3=>?_) λh3=>?_)
 ·refine x_var (d:=.tup [.bool (decide ((lazy:Int)=1)),eP3 (pairsL.getD pair (97,97,false)),.tup [.int ((if rev then 2 * group+1 else 2 * group:Nat):Int),.int ((if rev then 2 * group else 2 * group+1:Nat):Int)],eN (askedL.getD bits 1)]) (by kst_p) ?_
  exact zM8 dO (n25 lm hacc) (K _ _ _ _ l9 (by kst_p) (by kst_p) (by kst_p) hx (fin 1000 (if_pos (Int.ofNat_inj.mp h3)).symm))
 ·refine x_var (d:=eN room) (by kst_p) (x_var (d:=.tup [.bool (decide ((lazy:Int)=1)),eP3 (pairsL.getD pair (97,97,false)),.tup [.int ((if rev then 2 * group+1 else 2 * group:Nat):Int),.int ((if rev then 2 * group else 2 * group+1:Nat):Int)],eN (askedL.getD bits 1)]) (by kst_p) ?_)
  exact zM8 dO (n25 lm hacc) (K _ _ _ _ l9 (by kst_p) (by kst_p) (by kst_p) hx (fin room (if_neg λe=>h3 (Int.ofNat_inj.mpr e)).symm))
end
section
variable {W:Wd}(G:Gd W){n:Nat}{m:Mt}{Q X:DV->Mt->Prop}{is:List Ins}{M aN aP aO:Addr}
include G
theorem yGa{loc:Loc}{Inv:List Nat->List Nat->List Ins->List Item->Prop}(LI:LawInv Inv)(cells:List Nat)(rev:Bool)(text holds:List Nat)(tk:TextOk text holds)(hc3:3<=cells.length)(hc:cells.length<=20)
  (l1:look loc 32358870424=some (.ref aC)) (l2:look loc 129906622853851102991730=some (.ref aN)) (l3:look loc 1156415915808219961899=some (.ref aP)) (l4:look loc 253189449=some (eB text)) (l5:look loc 32341698207=some (.lst (holds.map eN))) (l6:look loc 149177348187315714245916=some (.ref aK)) (l7:look loc 1007032309778334464532=some (.ref aA)) (l8:look loc 474219854675971=some (.int (if rev then 1 else 0:Nat)))
  (mC:mu aC=some (.lst (cells.map eN))) (mN:mu aN=some (.dS zDz)) (mP:mu aP=some (.lst (pairsL.map eP3))) (mK:mu aK=some (.lst (ordersL.map eO))) (mA:mu aA=some (.lst (askedL.map eN))) (S:Sub m mu) (h:Q (.bool true) m) :
  run (xSs zLu .nil) (fnE W (n+8) Q X) [] loc mu:=by
 delta zLu
 intro x dx hx hd ne
 refine zWy G hx hd ne λm1 H=>⟨rfl,?_⟩
 refine zP5 λaHp hHp=>?_
 have h0:=H.absent hHp
 have H1:=H.new (.lst []) hHp
 have R1:Sub mu (mu.set aHp (.lst [])):=Sub.rfl.new h0
 have gHp:(mu.set aHp (.lst [])) aHp=some (.lst []):=Mt.set_self _ _ _
 generalize m1.set aHp (.lst [])=mu1 at H1 ⊢
 generalize mu.set aHp (.lst [])=r1 at H1 R1 gHp
 refine zP5 λaO hO=>?_
 have hO0:=H1.absent hO
 have H2:=H1.new (.lst []) hO
 have R2:Sub r1 (r1.set aO (.lst [])):=Sub.rfl.new hO0
 have gO:(r1.set aO (.lst [])) aO=some (.lst []):=Mt.set_self _ _ _
 generalize mu1.set aO (.lst [])=mu2 at H2 ⊢
 generalize r1.set aO (.lst [])=r2 at H2 R2 gO
 have dC:=zA3 (H2.rest _ _ (R2 _ _ (R1 _ _ mC)))
 refine x_var (d:=.ref aC) (by kst_p) ?_
 refine zSa (l:=.int 2) (u:=.none) 2 (cells.map eN).length (ys:=(cells.drop 2).map eN) dC rfl rfl (by simp;exact nLit hc rfl) (by rw[List.take_length,List.map_drop]) λc hc'=>?_
 have hc0:=H2.absent hc'
 have H3:=H2.new (.lst ((cells.drop 2).map eN)) hc'
 have R3:Sub r2 (r2.set c (.lst ((cells.drop 2).map eN))):=Sub.rfl.new hc0
 have nO:=Mt.ne_of gO hc0
 have hc1:r1 c=none:=R2.absent hc0
 have R13:Sub (r1.set c (.lst ((cells.drop 2).map eN))) (r2.set c (.lst ((cells.drop 2).map eN))):=by
  intro b o e
  by_cases eb:b=c
  ·subst eb;rw[Mt.set_self]at e ⊢;exact e
  ·rw[Mt.set_ne _ _ eb]at e ⊢;exact R2 _ _ e
 have R01:Sub mu (r1.set c (.lst ((cells.drop 2).map eN))):=R1.trans (Sub.rfl.new hc1)
 have g0:(r1.set c (.lst ((cells.drop 2).map eN))) c=some (.lst ((cells.drop 2).map eN)):=Mt.set_self _ _ _
 have gH:(r1.set c (.lst ((cells.drop 2).map eN))) aHp=some (.lst []):=(Sub.rfl.new hc1) _ _ gHp
 have gO0:(r1.set c (.lst ((cells.drop 2).map eN))) aO=none:=by rw[Mt.set_ne _ _ nO];exact hO0
 generalize mu2.set c (.lst ((cells.drop 2).map eN))=mu3 at H3 ⊢
 generalize r1.set c (.lst ((cells.drop 2).map eN))=r0 at R13 R01 g0 gH gO0
 generalize r2.set c (.lst ((cells.drop 2).map eN))=r3 at H3 R3 R13
 have L0:LM m x aN aP aO aHp [opI 6] [] [] holds 1 r0 r3 mu3:=
  ⟨H3,R13,gO0,R3 _ _ gO,R01 _ _ mN,R01 _ _ mP,gH,S.trans R01⟩
 have n0:∀ y∈([]:List zJe),zS6 rev y:=λU h=>nomatch h
 refine zDi eN (loc:=put (put (put loc 4175940780565 (.ref aO)) 244219938 (.ref aHp)) 32066903573 (.ref x)) (lo:=λu loc=>put loc 235816228 (eN u)) (l:=cells.drop 2) (λus loc mu=>∃ acc r,acc.length+us.length=(cells.drop 2).length/\(∀ y∈acc,zS6 rev y)/\LL x aN aP aO rev text holds loc/\look loc 244219938=some (.ref aHp)/\look loc 149177348187315714245916=some (.ref aK)/\look loc 1007032309778334464532=some (.ref aA)/\LM m x aN aP aO aHp [opI 6] [] acc holds 1 r0 r mu)
  (zBb (zA3 (H3.rest _ _ (R13 _ _ g0)))) trivial (λU U U=>rfl) ⟨[],r3,Nat.zero_add _,n0,⟨by kst_p,by kst_p,by kst_p,by kst_p,by kst_p,by kst_p,by kst_p⟩,by kst_p,by kst_p,by kst_p,L0⟩ (λus loc mu p=>e27 (λacc r U U U U U U L=>L.H.rest _ _ (L.S _ _ g0)) p) (λloc mu p=>e27 (λacc r hlen hacc l l5' l6' l7' L=>?_) p) λu us loc mu K p hK=>e27 (λacc r hlen hacc l l5' l6' l7' L=>?_) p
 ·rw[List.length_drop,List.length_nil]at hlen
  exact yG9 G LI rev text holds (2 * acc.length) tk ⟨[opI 6],[],acc,⟨l,aHp,1,r0,r,l5',L⟩,LI.init text holds tk,by rw[List.length_singleton];omega,by rw[List.length_nil];omega,hacc,.inr λe=>by subst e;rw[List.length_nil]at hlen;omega,rfl⟩ h
 ·rw[List.length_drop,List.length_cons]at hlen
  refine yIs G (loc:=put loc 235816228 (eN u)) rev text holds acc u (l.put rfl) (by kst_p) (by kst_p) (by kst_p) (by kst_p) L (R01 _ _ mK) (R01 _ _ mA) (by omega) rfl rfl λloc'' mu'' r'' z k1 k2 k3 k4 k5 k6=>?_
  exact hK _ _ ⟨acc++[z],r'',by rw[List.length_append,List.length_singleton,List.length_drop];omega,λw hw=>(List.mem_append.mp hw).elim (hacc w) λhw=>List.mem_singleton.mp hw▸k5,k1,k2,k3,k4,k6⟩
end
section
noncomputable def octL:List Nat:=[97,98,65,66,10,255]
theorem zF4:∀(bs:List Nat) (N:Nat),(zCk N bs).length=bs.length
 |[],_=>rfl
 |_::r,N=>by simp[zCk,zF4 r]
theorem zNg:∀(bs:List Nat) (N B:Nat),(∀ b∈bs,0<b/\b<=B)->∀ x∈zCk N bs,x<B
 |[],_,_,_,x,h=>by simp[zCk]at h
 |b::r,N,B,hb,x,h=>by
  simp only[zCk,List.mem_cons]at h
  rcases h with rfl|h
  ·have:=hb b (List.mem_cons_self ..)
   exact Nat.lt_of_lt_of_le (Nat.mod_lt _ this.1) this.2
  ·exact zNg r _ B (λb h=>hb b (List.mem_cons_of_mem _ h)) x h
theorem zXa(k:Nat)(d:DV):(List.replicate k [d]).flatten=List.replicate k d:=by
 induction k with
 |zero=>rfl
 |succ k ih=>rw[List.replicate_succ,List.flatten_cons,ih];rfl
def zEe(c0:Nat):List Nat:=(zCk (c0 / 10) (List.replicate (c0 / 2 % 5) 6)).map λd=>octL.getD d 97
def zLf(c1:Nat):List Nat:=zCk c1 (List.replicate 5 64)
theorem yAk(c0 c1:Nat):TextOk (zEe c0) (zLf c1):=by
 refine⟨?_,?_,by simp[zLf,zF4]⟩
 ·unfold zEe;rw[List.length_map,zF4,List.length_replicate];omega
 ·intro x hx
  unfold zEe at hx
  obtain⟨d,hd,rfl⟩:=List.mem_map.mp hx
  have:∀ d:Nat,octL.getD d 97<256:=by
   intro d
   by_cases h:d<6
   ·have:∀ p:Fin 6,octL.getD p.1 97<256:=by decide
    exact this ⟨d,h⟩
   ·rw[List.getD_eq_getElem?_getD,List.getElem?_eq_none (by simp[octL];exact Nat.le_of_not_lt h)];decide
  exact this d
theorem yE7(h:asL mu a=some l)(hj:j<=100000)(hs:l.length * j<=100000)(q:(List.replicate j l).flatten=xs)(k:∀ A,mu A=none->run r e (.ref A::s) loc (mu.set A (.lst xs))):binI .mul a (.int (j:Nat)) (λd V=>run r e (d::s) V.loc V.mu) ⟨loc,mu⟩:=by
 rw[show@binI=@zMa by with_unfolding_all rfl]
 show optN (asL mu a) _ _
 rw[h]
 exact⟨Int.natCast_nonneg _,by omega,zAq hs,by rw[Int.toNat_natCast,q];exact k⟩
theorem yI2(h:asL mu d=some (l.map eN))(hs:l.length<=100000)(hb:∀ x∈l,x<256)(k:run r e (eB l::s) loc mu):wpBi .bytes [d] (λd V=>run r e (d::s) V.loc V.mu) ⟨loc,mu⟩:=by
 have e1:l.map eN=(l.map λx:Nat=>(x:Int)).map .int:=by rw[List.map_map];rfl
 rw[e1]at h
 refine zAy h (zAy (zJ7 _) ⟨zAq (by rw[List.length_map];exact hs),λi hi=>?_,?_⟩)
 ·obtain⟨x,hx,rfl⟩:=List.mem_map.mp hi
  have:=hb x hx
  omega
 ·rw[List.map_map];exact k
variable {W:Wd}(G:Gd W){n:Nat}{m:Mt}{Q X:DV->Mt->Prop}{is:List Ins}{aN aP:Addr}
include G
theorem yGb{loc:Loc}{Inv:List Nat->List Nat->List Ins->List Item->Prop}(LI:LawInv Inv)(cells:List Nat)(hc3:3<=cells.length)(hc:cells.length<=20)
  (l1:look loc 32358870424=some (.ref aC)) (l2:look loc 129906622853851102991730=some (.ref aN)) (l3:look loc 1156415915808219961899=some (.ref aP)) (l4:look loc 149197142690429954922783=some (.ref aQ)) (l6:look loc 149177348187315714245916=some (.ref aK)) (l7:look loc 1007032309778334464532=some (.ref aA))
  (mC:mu aC=some (.lst (cells.map eN))) (mN:mu aN=some (.dS zDz)) (mP:mu aP=some (.lst (pairsL.map eP3))) (mQ:mu aQ=some (.lst (octL.map eN))) (mK:mu aK=some (.lst (ordersL.map eO))) (mA:mu aA=some (.lst (askedL.map eN))) (S:Sub m mu) (h:Q (.bool true) m) :
  run (xSs zLv .nil) (fnE W (n+8) Q X) [] loc mu:=by
 have c0:(cells.map eN)[0]?=some (eN (cells.getD 0 0)):=zF2 _ _ _ (Nat.zero_lt_of_lt hc3)
 have c1:(cells.map eN)[1]?=some (eN (cells.getD 1 0)):=zF2 _ _ _ (Nat.lt_of_add_left_lt hc3)
 generalize cells.getD 0 0=C0 at c0
 generalize cells.getD 1 0=C1 at c1
 delta zLv
 refine x_var l1 (zBv 0 rfl (zA3 mC) (Nat.zero_le _) c0 ?_)
 refine zE7 ([2,5].map eN) λa ha=>?_
 have S1:Sub mu (mu.set a (.lst ([2,5].map eN))):=Sub.rfl.new ha
 have na:asL (mu.set a (.lst ([2,5].map eN))) (.ref a)=some ([2,5].map eN):=asL_new
 generalize mu.set a (.lst ([2,5].map eN))=mu1 at S1 na ⊢
 refine zFr G [2,5] C0 na (by decide) (by decide) ?_
 refine yE4 (lo:=put (put loc 474219854675971 (eN (C0 % 2))) 3783545516296 (eN (C0 / 2 % 5))) rfl ?_
 refine x_var (d:=.ref aC) (by kst_p) (zBv 0 rfl (zA3 (S1 _ _ mC)) (Nat.zero_le _) c0 ?_)
 refine zSb (by decide) (zA7 (k:=10) (Nat.le_of_ble_eq_true rfl)) ?_
 refine zE7 [.int 6] λb hb=>?_
 have S2:=S1.trans (Sub.rfl.new (o:=.lst [.int 6]) hb)
 have nb:asL (mu1.set b (.lst [.int 6])) (.ref b)=some [.int 6]:=asL_new
 generalize mu1.set b (.lst [.int 6])=mu2 at S2 nb ⊢
 have h5:C0 / 2 % 5<=5:=Nat.le_of_lt (Nat.mod_lt _ (by decide))
 refine x_var (d:=eN (C0 / 2 % 5)) (by kst_p) (yE7 (xs:=(List.replicate (C0 / 2 % 5) 6).map eN) nb (by omega) (by rw[List.length_singleton];omega) (by rw[zXa,List.map_replicate];rfl) λc hc'=>?_)
 have S3:=S2.trans (Sub.rfl.new (o:=.lst ((List.replicate (C0 / 2 % 5) 6).map eN)) hc')
 have nc:asL (mu2.set c (.lst ((List.replicate (C0 / 2 % 5) 6).map eN))) (.ref c)=some ((List.replicate (C0 / 2 % 5) 6).map eN):=asL_new
 generalize mu2.set c (.lst ((List.replicate (C0 / 2 % 5) 6).map eN))=mu3 at S3 nc ⊢
 have dl:(zCk (C0 / 10) (List.replicate (C0 / 2 % 5) 6)).length=C0 / 2 % 5:=by rw[zF4,List.length_replicate]
 have dlt:=zNg (List.replicate (C0 / 2 % 5) 6) (C0 / 10) 6 (λb hb=>by have:=List.eq_of_mem_replicate hb;omega)
 refine zFr G (List.replicate (C0 / 2 % 5) 6) (C0 / 10) nc (λb hb=>by have:=List.eq_of_mem_replicate hb;omega) (by rw[List.length_replicate];omega) ?_
 refine zDj (l:=zCk (C0 / 10) (List.replicate (C0 / 2 % 5) 6)) eN (λd=>eN (octL.getD d 97)) rfl trivial (by omega) trivial (λU=>rfl) (λd hd K hK=>?_) λd hd=>?_
 ·have hd:=dlt d hd
  refine x_vr (d:=.ref aQ) (by kst_p) ?_
  exact x_vr rfl (zCq (zA3 (S3 _ _ mQ)) (Nat.le_of_lt (Nat.lt_trans hd (by decide))) (zF2 _ _ _ hd) (finC hK))
 have e2:((zCk (C0 / 10) (List.replicate (C0 / 2 % 5) 6)).map λd=>eN (octL.getD d 97))=(zEe C0).map eN:=by
  unfold zEe;rw[List.map_map];rfl
 rw[e2]
 have S4:=S3.trans (Sub.rfl.new (o:=.lst ((zEe C0).map eN)) hd)
 have nd:asL (mu3.set d (.lst ((zEe C0).map eN))) (.ref d)=some ((zEe C0).map eN):=asL_new
 generalize mu3.set d (.lst ((zEe C0).map eN))=mu4 at S4 nd ⊢
 have tk:=yAk C0 C1
 refine yI2 nd (Nat.le_trans tk.len (by decide)) tk.byte ?_
 refine x_var (d:=.ref aC) (by kst_p) (zBv 1 rfl (zA3 (S4 _ _ mC)) (Nat.le_of_ble_eq_true rfl) c1 ?_)
 refine zE7 [.int 64] λe he=>?_
 have S5:=S4.trans (Sub.rfl.new (o:=.lst [.int 64]) he)
 have ne:asL (mu4.set e (.lst [.int 64])) (.ref e)=some [.int 64]:=asL_new
 generalize mu4.set e (.lst [.int 64])=mu5 at S5 ne ⊢
 refine yE7 (j:=5) (xs:=(List.replicate 5 64).map eN) ne (Nat.le_of_ble_eq_true rfl) (Nat.le_of_ble_eq_true rfl) rfl λf hf=>?_
 have S6:=S5.trans (Sub.rfl.new (o:=.lst ((List.replicate 5 64).map eN)) hf)
 have nf:asL (mu5.set f (.lst ((List.replicate 5 64).map eN))) (.ref f)=some ((List.replicate 5 64).map eN):=asL_new
 generalize mu5.set f (.lst ((List.replicate 5 64).map eN))=mu6 at S6 nf ⊢
 refine zFr G (List.replicate 5 64) C1 nf (by decide) (by decide) ?_
 have er:eN (C0 % 2)=.int ((if decide (C0 % 2=1)=true then 1 else 0:Nat):Int):=by
  exact congrArg DV.int (by by_cases h:C0 % 2=1<;>simp[h];omega)
 rw[er]
 exact yGa G (loc:=put (put (put (put loc 474219854675971 (.int ((if decide (C0 % 2=1)=true then 1 else 0:Nat):Int))) 3783545516296 (eN (C0 / 2 % 5))) 253189449 (eB (zEe C0))) 32341698207 (.lst ((zLf C1).map eN))) LI cells (decide (C0 % 2=1)) (zEe C0) (zLf C1) tk hc3 hc (by kst_p) (by kst_p) (by kst_p) (by kst_p) (by kst_p) (by kst_p) (by kst_p) (by kst_p)
  (S6 _ _ mC) (S6 _ _ mN) (S6 _ _ mP) (S6 _ _ mK) (S6 _ _ mA) (S.trans S6) h
end
section
noncomputable def restL:List Nat:=[66,0,0,16,3,6,4]
noncomputable def cellOf(i:Int):Nat:=(i % 1000000000000).toNat
def zDe(sc:List Int):List Nat:=(sc.take 12).map cellOf++restL.drop ((sc.take 12).map cellOf).length
theorem zVp(sc:List Int):3<=(zDe sc).length/\(zDe sc).length<=20:=by
 unfold zDe
 simp only[List.length_append,List.length_map,List.length_take,List.length_drop,restL,List.length_cons,List.length_nil]
 omega
theorem yEa{s:List DV}{loc:Loc}{mu:Mt}(o:MObj)(c:∀ A,mu A=none->run r e (.ref A::s) loc (mu.set A o)):∀ A,mu A=none->run r e (.ref A::s) loc (mu.set A o):=c
variable {W:Wd}(G:Gd W){n:Nat}{m:Mt}{Q X:DV->Mt->Prop}{is:List Ins}{aN aP:Addr}
include G
theorem yGc{loc:Loc}{mu:Mt}{aR aK aA aQ:Addr}{Inv:List Nat->List Nat->List Ins->List Item->Prop}(LI:LawInv Inv)(sc:List Int)(hsc:sc.length<=1000)
  (l0:look loc 4211118804251=some (.lst (sc.map .int))) (l1:look loc 9041727382494137289=some (.ref aR)) (l2:look loc 129906622853851102991730=some (.ref aN)) (l3:look loc 1156415915808219961899=some (.ref aP)) (l4:look loc 149197142690429954922783=some (.ref aQ)) (l6:look loc 149177348187315714245916=some (.ref aK)) (l7:look loc 1007032309778334464532=some (.ref aA))
  (mR:mu aR=some (.lst (restL.map eN))) (mN:mu aN=some (.dS zDz)) (mP:mu aP=some (.lst (pairsL.map eP3))) (mQ:mu aQ=some (.lst (octL.map eN))) (mK:mu aK=some (.lst (ordersL.map eO))) (mA:mu aA=some (.lst (askedL.map eN))) (S:Sub m mu) (h:Q (.bool true) m) :
  run (xSs zLw .nil) (fnE W (n+8) Q X) [] loc mu:=by
 delta zLw
 refine x_var l0 ?_
 refine zSa (xs:=sc.map .int) (l:=.none) (u:=.int 12) 0 12 (o:=.lst (sc.map .int)) (mu:=mu) (ys:=(sc.take 12).map .int) rfl rfl rfl (by rw[List.length_map];exact nLit hsc rfl) (by rw[List.drop_zero,List.map_take]) λa ha=>?_
 have S1:Sub mu (mu.set a (.lst ((sc.take 12).map .int))):=Sub.rfl.new ha
 have na:asL (mu.set a (.lst ((sc.take 12).map .int))) (.ref a)=some ((sc.take 12).map .int):=asL_new
 generalize mu.set a (.lst ((sc.take 12).map .int))=mu1 at S1 na ⊢
 have hl:(sc.take 12).length<=12:=List.length_take_le ..
 refine zDj (l:=sc.take 12) .int (λi=>eN (cellOf i)) (zBb na) trivial (nLit hl rfl) (zBr na) (λU=>rfl) (λi U K hK=>⟨rfl,rfl,?_⟩) λb hb=>?_
 ·refine zWe (by decide) (finC ?_)
  rw[show i % 1000000000000=((cellOf i:Nat):Int) by unfold cellOf;omega];exact hK
 have e1:((sc.take 12).map λi=>eN (cellOf i))=((sc.take 12).map cellOf).map eN:=by rw[List.map_map];rfl
 rw[e1]
 have S2:=S1.trans (Sub.rfl.new (o:=.lst (((sc.take 12).map cellOf).map eN)) hb)
 have nb:asL (mu1.set b (.lst (((sc.take 12).map cellOf).map eN))) (.ref b)=some (((sc.take 12).map cellOf).map eN):=asL_new
 generalize mu1.set b (.lst (((sc.take 12).map cellOf).map eN))=mu2 at S2 nb ⊢
 rw[<-List.length_map (f:=cellOf)]at hl
 have ec:zDe sc=(sc.take 12).map cellOf++restL.drop ((sc.take 12).map cellOf).length:=rfl
 have cl:=zVp sc
 generalize (sc.take 12).map cellOf=cs at nb hl ec ⊢
 have lc:=List.length_map (as:=cs) eN
 refine x_var (d:=.ref b) (by kst_p) (x_var (d:=.ref aR) (by kst_p) (x_var (d:=.ref b) (by kst_p) (zDh (k:=cs.length) (by rw[zCc nb,lc]) (nLit hl rfl) ?_)))
 refine zSa (l:=.int (cs.length:Nat)) (u:=.none) cs.length (restL.map eN).length (ys:=(restL.drop cs.length).map eN) (zA3 (S2 _ _ mR)) rfl rfl (Nat.le_of_ble_eq_true rfl) (by rw[List.take_length,List.map_drop]) λc hc=>?_
 have S3:=S2.trans (Sub.rfl.new (o:=.lst ((restL.drop cs.length).map eN)) hc)
 have nc:asL (mu2.set c (.lst ((restL.drop cs.length).map eN))) (.ref c)=some ((restL.drop cs.length).map eN):=asL_new
 have nb:=zB0 (Sub.rfl.new (o:=.lst ((restL.drop cs.length).map eN)) hc) nb
 generalize mu2.set c (.lst ((restL.drop cs.length).map eN))=mu3 at S3 nb nc ⊢
 have e3:cs.map eN++(restL.drop cs.length).map eN=(zDe sc).map eN:=by rw[ec,List.map_append]
 refine zH0 nb nc (by rw[ec,List.length_append]at cl;rw[lc,List.length_map];omega) ?_
 rw[e3]
 intro d hd
 have S4:=S3.trans (Sub.rfl.new (o:=.lst ((zDe sc).map eN)) hd)
 have md:(mu3.set d (.lst ((zDe sc).map eN))) d=some (.lst ((zDe sc).map eN)):=Mt.set_self _ _ _
 generalize mu3.set d (.lst ((zDe sc).map eN))=mu4 at S4 md ⊢
 exact yGb G (loc:=put (put loc 32358870424 (.ref b)) 32358870424 (.ref d)) LI (zDe sc) cl.1 cl.2 (by kst_p) (by kst_p) (by kst_p) (by kst_p) (by kst_p) (by kst_p) md (S4 _ _ mN) (S4 _ _ mP) (S4 _ _ mQ) (S4 _ _ mK) (S4 _ _ mA) (S.trans S4) h
set_option maxHeartbeats 4000000 in
theorem yEq{Inv:List Nat->List Nat->List Ins->List Item->Prop}(LI:LawInv Inv)(sc:List Int)(hsc:sc.length<=1000)(h:Q (.bool true) m):zA4 W 45 (n+9) 421 [.lst (sc.map .int)] m Q X:=by
 refine G.fn G.k_law .nil rfl ?_
 refine zE7 (restL.map eN) λa1 h1=>?_
 have S1:=(Sub.rfl (m:=m).new (o:=.lst (restL.map eN)) h1)
 have m1:=Mt.set_self m a1 (.lst (restL.map eN))
 generalize m.set a1 (.lst (restL.map eN))=mu1 at S1 m1 ⊢
 refine zE7 ((ordersL.take 12).map eO) λa2 h2=>?_
 have T2:=Sub.rfl (m:=mu1).new (o:=.lst ((ordersL.take 12).map eO)) h2
 have S2:=S1.trans T2
 have m2:=Mt.set_self mu1 a2 (.lst ((ordersL.take 12).map eO))
 generalize mu1.set a2 (.lst ((ordersL.take 12).map eO))=mu2 at S2 T2 m2 ⊢
 refine zE7 ((ordersL.drop 12).map eO) λa3 h3=>?_
 have T3:=Sub.rfl (m:=mu2).new (o:=.lst ((ordersL.drop 12).map eO)) h3
 have S3:=S2.trans T3
 have m3:=Mt.set_self mu2 a3 (.lst ((ordersL.drop 12).map eO))
 generalize mu2.set a3 (.lst ((ordersL.drop 12).map eO))=mu3 at S3 T3 m3 ⊢
 have eo:(ordersL.take 12).map eO++(ordersL.drop 12).map eO=ordersL.map eO:=rfl
 refine zH0 (zA3 (T3 _ _ m2)) (zA3 m3) (Nat.le_of_ble_eq_true rfl) ?_
 rw[eo]
 intro a4 h4
 have T4:=Sub.rfl (m:=mu3).new (o:=.lst (ordersL.map eO)) h4
 have S4:=S3.trans T4
 have m4:=Mt.set_self mu3 a4 (.lst (ordersL.map eO))
 generalize mu3.set a4 (.lst (ordersL.map eO))=mu4 at S4 T4 m4 ⊢
 refine yEa (.dS zDz) λa5 h5=>?_
 have T5:=Sub.rfl (m:=mu4).new (o:=.dS zDz) h5
 have S5:=S4.trans T5
 have m5:=Mt.set_self mu4 a5 (.dS zDz)
 generalize mu4.set a5 (.dS zDz)=mu5 at S5 T5 m5 ⊢
 refine zE7 ((pairsL.take 6).map eP3) λa6 h6=>?_
 have T6:=Sub.rfl (m:=mu5).new (o:=.lst ((pairsL.take 6).map eP3)) h6
 have S6:=S5.trans T6
 have m6:=Mt.set_self mu5 a6 (.lst ((pairsL.take 6).map eP3))
 generalize mu5.set a6 (.lst ((pairsL.take 6).map eP3))=mu6 at S6 T6 m6 ⊢
 refine zE7 ((pairsL.drop 6).map eP3) λa7 h7=>?_
 have T7:=Sub.rfl (m:=mu6).new (o:=.lst ((pairsL.drop 6).map eP3)) h7
 have S7:=S6.trans T7
 have m7:=Mt.set_self mu6 a7 (.lst ((pairsL.drop 6).map eP3))
 generalize mu6.set a7 (.lst ((pairsL.drop 6).map eP3))=mu7 at S7 T7 m7 ⊢
 have ep:(pairsL.take 6).map eP3++(pairsL.drop 6).map eP3=pairsL.map eP3:=rfl
 refine zH0 (zA3 (T7 _ _ m6)) (zA3 m7) (Nat.le_of_ble_eq_true rfl) ?_
 rw[ep]
 intro a8 h8
 have T8:=Sub.rfl (m:=mu7).new (o:=.lst (pairsL.map eP3)) h8
 have S8:=S7.trans T8
 have m8:=Mt.set_self mu7 a8 (.lst (pairsL.map eP3))
 generalize mu7.set a8 (.lst (pairsL.map eP3))=mu8 at S8 T8 m8 ⊢
 refine zE7 (octL.map eN) λa9 h9=>?_
 have T9:=Sub.rfl (m:=mu8).new (o:=.lst (octL.map eN)) h9
 have S9:=S8.trans T9
 have m9:=Mt.set_self mu8 a9 (.lst (octL.map eN))
 generalize mu8.set a9 (.lst (octL.map eN))=mu9 at S9 T9 m9 ⊢
 refine zE7 (askedL.map eN) λa10 h10=>?_
 have T10:=Sub.rfl (m:=mu9).new (o:=.lst (askedL.map eN)) h10
 have S10:=S9.trans T10
 have m10:=Mt.set_self mu9 a10 (.lst (askedL.map eN))
 generalize mu9.set a10 (.lst (askedL.map eN))=mu10 at S10 T10 m10 ⊢
 have U9:=T9.trans T10
 have U6:=T6.trans (T7.trans (T8.trans U9))
 have U5:=T5.trans U6
 exact yGc G (loc:=put (put (put (put (put (put (put (put [(4211118804251,.lst (sc.map .int))] 9041727382494137289 (.ref a1)) 149177348187315714245916 (.ref a2)) 149177348187315714245916 (.ref a4)) 129906622853851102991730 (.ref a5)) 1156415915808219961899 (.ref a6)) 1156415915808219961899 (.ref a8)) 149197142690429954922783 (.ref a9)) 1007032309778334464532 (.ref a10)) LI sc hsc (by kst_p) (by kst_p) (by kst_p) (by kst_p) (by kst_p) (by kst_p) (by kst_p) ((T2.trans (T3.trans (T4.trans U5))) _ _ m1) (U6 _ _ m5) (U9 _ _ m8) (T10 _ _ m9) (U5 _ _ m4) m10 S10 h
end
end Mine.Internal
end
noncomputable section
namespace Mine.Internal
noncomputable def ends(l:List Way):List Nat:=l.map (·.1)
theorem mem_ends:e∈ends l↔∃ k,(e,k)∈l:=by
 unfold ends
 rw[List.mem_map]
 constructor
 ·rintro⟨⟨a,k⟩,h,rfl⟩;exact⟨k,h⟩
 ·rintro⟨k,h⟩;exact⟨_,h,rfl⟩
theorem zA6(a b:List Way):ends (a++b)=ends a++ends b:=List.map_append
theorem zFs{P:List α->Prop}(h0:P [])(h1:∀ l x,P l->P (l++[x]))(l:List α):P l:=by
 have:∀ n (l:List α),l.length=n->P l:=by
  intro n
  induction n with
  |zero=>intro l h;rw[List.eq_nil_of_length_eq_zero h];exact h0
  |succ n ih=>
   intro l h
   have hne:l≠[]:=by intro e;rw[e]at h;simp at h
   rw[<-List.dropLast_concat_getLast hne]
   exact h1 _ _ (ih _ (by rw[List.length_dropLast,h];rfl))
 exact this _ l rfl
theorem zDb:∀(x:List Way) (met:List Nat) (y:List Way),zAp met (x++y)=zAp met x++zAp (met++ends (zAp met x)) y
 |[],met,y=>by simp[zAp,ends]
 |(e,k)::r,met,y=>by
  simp only[List.cons_append,zAp]
  split
  ·exact zDb r met y
  ·rw[zDb r,List.cons_append]
   congr 2
   simp[ends]
set_option tactic.hygienic true in
theorem zEn:∀(l:List Way) (met:List Nat) (e:Nat),e∈ends (zAp met l)↔e∈ends l/\e∉met
 |[],_,_=>by simp[zAp,ends]
 |(a,k)::r,met,e=>by
  unfold zAp
  split
  ·rename_i h
   rw[zEn r]
   have h:a∈met:=by simpa using h
   simp only[ends,List.map_cons,List.mem_cons]
   constructor
   ·rintro⟨h1,h2⟩;exact⟨.inr h1,h2⟩
   ·rintro⟨h1|h1,h2⟩
    ·exact absurd (h1▸h) h2
    ·exact⟨h1,h2⟩
  ·rename_i h
   have h:a∉met:=by simpa using h
   have ih:=zEn r (met++[a]) e
   simp only[ends,List.map_cons,List.mem_cons]at ih ⊢
   rw[ih]
   simp only[List.mem_append,List.mem_singleton,not_or]
   constructor
   ·rintro(rfl|⟨h1,h2,h3⟩)
    ·exact⟨.inl rfl,h⟩
    ·exact⟨.inr h1,h2⟩
   ·rintro⟨h1|h1,h2⟩
    ·exact .inl h1
    ·by_cases e':e=a
     ·exact .inl e'
     ·exact .inr ⟨h1,h2,e'⟩
theorem zAv(l:List Way)(e:Nat):e∈ends (first l)↔e∈ends l:=by
 unfold first;rw[zEn];simp
theorem zBj(r:List Way)(w:Way):first (r++[w])=if w.1∈ends r then first r else first r++[w]:=by
 unfold first
 rw[zDb]
 obtain⟨e,k⟩:=w
 have:zAp ([]++ends (zAp [] r)) [(e,k)]=if e∈ends r then[]else[(e,k)]:=by
  rw[List.nil_append]
  simp only[zAp]
  have:=zAv r e
  unfold first at this
  by_cases h:e∈ends r
  ·rw[if_pos h,if_pos (by simpa using this.mpr h)]
  ·rw[if_neg h,if_neg (by simpa using λq=>h (this.mp q))]
 rw[this]
 split<;>simp
theorem zV3:first []=[]:=rfl
theorem zB5(l:List Way):first (first l)=first l:=by
 induction l using zFs with
 |h0=>rfl
 |h1 r w ih=>
  rw[zBj]
  by_cases h:w.1∈ends r
  ·rw[if_pos h];exact ih
  ·rw[if_neg h,zBj,ih,if_neg (λq=>h ((zAv r _).mp q))]
theorem zAo(x y:List Way):first (x++y)=first (first x++first y):=by
 induction y using zFs with
 |h0=>rw[List.append_nil,zV3,List.append_nil,zB5]
 |h1 r w ih=>
  rw[<-List.append_assoc,zBj,zBj]
  by_cases h:w.1∈ends r
  ·rw[if_pos h,if_pos (by rw[zA6];simp[h])];exact ih
  ·rw[if_neg h,<-List.append_assoc,zBj,<-ih]
   simp only[zA6,List.mem_append,zAv]
theorem zEm{x y:List Way}(h:∀ e∈ends y,e∈ends x):first (x++y)=first x:=by
 induction y using zFs with
 |h0=>rw[List.append_nil]
 |h1 r w ih=>
  rw[<-List.append_assoc,zBj,if_pos (by rw[zA6];exact List.mem_append_left _ (h _ (by simp[ends])))]
  exact ih λe he=>h e (by rw[zA6];exact List.mem_append_left _ he)
theorem ends_flatMap{l:List Way}{f:Way->List Way}:e∈ends (l.flatMap f)↔∃ w∈l,e∈ends (f w):=by
 constructor
 ·intro h
  refine e11 (λk h=>?_) (mem_ends.mp h)
  refine e12 (λw hw h=>?_) (List.mem_flatMap.mp h)
  exact⟨w,hw,mem_ends.mpr ⟨k,h⟩⟩
 ·rintro⟨w,hw,h⟩
  refine e11 (λk h=>?_) (mem_ends.mp h)
  exact mem_ends.mpr ⟨k,List.mem_flatMap.mpr ⟨w,hw,h⟩⟩
theorem zRn{L G:Way->List Way}:∀{l:List Way},(∀ w∈l,first (L w)=first (G w))->(∀ e k k',∀ x,x∈ends (G (e,k))->x∈ends (G (e,k')))->first (l.flatMap L)=first ((first l).flatMap G):=by
 intro l
 induction l using zFs with
 |h0=>intro _ _;rfl
 |h1 r w ih=>
  intro h he
  have ih:=ih (λx hx=>h x (List.mem_append_left _ hx)) he
  have hw:=h w (by simp)
  rw[List.flatMap_append,zBj]
  have e1:List.flatMap L [w]=L w:=by simp
  rw[e1]
  by_cases hm:w.1∈ends r
  ·rw[if_pos hm,zEm]
   ·exact ih
   ·intro x hx
    refine e11 (λk hk=>?_) (mem_ends.mp hm)
    refine ends_flatMap.mpr ⟨_,hk,?_⟩
    have hk':=h _ (List.mem_append_left _ hk)
    rw[<-zAv,hk',zAv]
    rw[<-zAv,hw,zAv]at hx
    exact he w.1 w.2 k x hx
  ·rw[if_neg hm,List.flatMap_append]
   have e2:List.flatMap G [w]=G w:=by simp
   rw[e2,zAo,ih,hw,<-zAo]
theorem zIj{g:Way->Way}(hg:∀ w,(g w).1=w.1)(l:List Way):first (l.map g)=(first l).map g:=by
 induction l using zFs with
 |h0=>rfl
 |h1 r w ih=>
  have e:ends (r.map g)=ends r:=by
   unfold ends;rw[List.map_map];exact List.map_congr_left λx U=>hg x
  rw[List.map_append,List.map_singleton,zBj,zBj,ih,hg,e]
  split
  ·rfl
  ·rw[List.map_append,List.map_singleton]
theorem zBy(k:Kept)(l:List Way):first (zB4 k l)=zB4 k (first l):=zIj (g:=λp=>(p.1,kept k p.2)) (λU=>rfl) l
theorem zCw(k:Kept)(l:List Way):ends (zB4 k l)=ends l:=by
 unfold ends zB4;rw[List.map_map];rfl
theorem zCv:∀(a b c:Kept),kept a (kept b c)=kept (kept a b) c
 |[],_,_=>by simp[kept]
 |_::_,[],c=>by simp[kept]
 |_::_,_::_,[]=>by simp[kept]
 |x::a,y::b,z::c=>by
  have ih:=zCv a b c
  unfold kept at ih ⊢
  simp only[List.zip_cons_cons,List.map_cons,List.cons.injEq]
  refine⟨?_,ih⟩
  by_cases h:0<=z
  ·simp[h]
  ·simp[h]
theorem zI0(k k':Kept)(l:List Way):zB4 k (zB4 k' l)=zB4 (kept k k') l:=by
 unfold zB4;rw[List.map_map]
 exact List.map_congr_left λx U=>by simp[zCv]
theorem zG4:∀{k:Kept},k.length<=4->kept k zAc=k:=by
 intro k h
 rcases k with _|⟨a,_|⟨b,_|⟨c,_|⟨d,_|⟨e,k⟩⟩⟩⟩⟩
 any_goals rfl
 exact absurd h (Nat.not_le.mpr (Nat.le_add_left 5 _))
theorem zDl(h:k.length<=4)(a:Nat):zB4 k [(a,zAc)]=[(a,k)]:=by
 simp[zB4,zG4 h]
theorem zEg(k:Kept)(a b:List Way):zB4 k (a++b)=zB4 k a++zB4 k b:=List.map_append
theorem zMl(k:Kept)(l:List Way)(t:zAa):zB4 k (joined l t)=first ((zB4 k l).flatMap λw=>zB4 w.2 (row t w.1)):=by
 unfold joined zBq
 rw[<-zBy]
 congr 1
 unfold zB4
 rw[List.map_flatMap,List.flatMap_map]
 congr 1
 funext p
 exact zI0 k p.2 (row t p.1)
section
section
variable (I:List Ins)(text holds:List Nat)
def outs(v a:Nat)(k:Kept):List (Nat×Nat×Kept):=
 if(zA0 I v).op=0 then[(2 * v,a,k),(2 * v+1,a,k)]else
 if(zA0 I v).op=5||((zA0 I v).op=3&&zDd (zA0 I v).arg holds a)then[(2 * v,a,k)]else
 if(zA0 I v).op=2 then[(2 * v,a,kept k (zCm ((zA0 I v).arg-2) a))]else
 if(zA0 I v).op=1&&zC9 (zA0 I v).low (zA0 I v).high (zA0 I v).fold text a then[(2 * v,a+1,k)]else[]
def goes(s:Nat×Nat×Kept):Conf:=(wayP I s.1,s.2.1,s.2.2)
theorem zB2(v:Nat):wayP I (2 * v)=(zA0 I v).out:=by
 unfold wayP;rw[if_pos (Nat.mul_mod_right 2 _)];congr 2;exact n63
theorem zCr(v:Nat):wayP I (2 * v+1)=(zA0 I v).arg:=by
 unfold wayP;rw[if_neg (by omega)];congr 2;exact n6
theorem zEd(v a:Nat)(k:Kept):ways (zA0 I v) a k text holds=(outs I text holds v a k).map (goes I):=by
 unfold ways outs goes
 split
 ·simp[zB2,zCr]
 ·split
  ·simp[zB2]
  ·split
   ·simp[zB2]
   ·split<;>simp[zB2]
theorem zPn{v a:Nat}{k:Kept}(k':Kept){s:Nat×Nat×Kept}(h:s∈outs I text holds v a k):∃ u,(s.1,s.2.1,u)∈outs I text holds v a k':=by
 unfold outs at h ⊢
 split at h
 ·rw[if_pos (by assumption)];simp at h;rcases h with rfl|rfl<;>simp
 ·rw[if_neg (by assumption)]
  split at h
  ·rw[if_pos (by assumption)];simp at h;subst h;simp
  ·rw[if_neg (by assumption)]
   split at h
   ·rw[if_pos (by assumption)];simp at h;subst h;simp
   ·rw[if_neg (by assumption)]
    split at h
    ·rw[if_pos (by assumption)];simp at h;subst h;simp
    ·simp at h
set_option tactic.hygienic true in
theorem zAx{v a:Nat}{k:Kept}{s:Nat×Nat×Kept}(h:s∈outs I text holds v a k):s.1 / 2=v/\(s.1 % 2=1->(zA0 I v).op=0)/\a<=s.2.1/\(a<=text.length->s.2.1<=text.length):=by
 unfold outs at h
 split at h
 ·rename_i h0
  simp at h;rcases h with rfl|rfl
  ·exact⟨by simp,λU=>h0,by simp,λh=>h⟩
  ·exact⟨by simp;exact n6,λU=>h0,by simp,λh=>h⟩
 ·split at h
  ·simp at h;subst h;exact⟨by simp,by simp,by simp,λh=>h⟩
  ·split at h
   ·simp at h;subst h;exact⟨by simp,by simp,by simp,λh=>h⟩
   ·split at h
    ·rename_i hr
     simp at h;subst h
     simp[zC9]at hr
     exact⟨by simp,by simp,by simp,λU=>by simp;omega⟩
    ·simp at h
theorem zMu{v a:Nat}{k:Kept}(hk:k.length<=4){s:Nat×Nat×Kept}(h:s∈outs I text holds v a k):s.2.2.length<=4:=by
 unfold outs at h
 split at h
 ·simp at h;rcases h with rfl|rfl<;>exact hk
 ·split at h
  ·simp at h;subst h;exact hk
  ·split at h
   ·simp at h;subst h;exact zEz (by simp[zD2])
   ·split at h
    ·simp at h;subst h;exact hk
    ·simp at h
theorem zXi(v a:Nat)(k:Kept):(outs I text holds v a k).length<=2:=by
 unfold outs
 split
 ·simp
 ·split
  ·simp
  ·split
   ·simp
   ·split<;>simp
def Rel(y x:Nat×Nat):Prop:=∃ k,∃ s∈outs I text holds x.1 x.2 k,y=(wayP I s.1,s.2.1)
inductive Rch:Nat×Nat->Nat->Prop
 |here {x}:(zA0 I x.1).op=4->Rch x x.2
 |step {x y e}:Rel I text holds y x->Rch y e->Rch x e
inductive Star:Nat×Nat->Nat×Nat->Prop
 |refl {x}:Star x x
 |step {x y z}:Rel I text holds y x->Star y z->Star x z
def hitM(v a:Nat)(k:Kept):List Way:=if(zA0 I v).op=4 then[(a,k)]else[]
inductive EnL:List Conf->List Way->Prop
 |nil:EnL [] []
 |cons {v a k r l1 l2}:EnL (ways (zA0 I v) a k text holds) l1->EnL r l2->EnL ((v,a,k)::r) (hitM I v a k++l1++l2)
noncomputable def key(c:Conf):Nat×Nat:=(c.1,c.2.1)
variable {I text holds}
theorem Rch.inv{x:Nat×Nat}{e:Nat}(h:Rch I text holds x e):((zA0 I x.1).op=4/\e=x.2)\/∃ y,Rel I text holds y x/\Rch I text holds y e:=by
 cases h with
 |here h=>exact .inl ⟨h,rfl⟩
 |step h r=>exact .inr ⟨_,h,r⟩
theorem Star.rch{x y:Nat×Nat}{e:Nat}(h:Star I text holds x y)(r:Rch I text holds y e):Rch I text holds x e:=by
 induction h with
 |refl=>exact r
 |step hs _ ih=>exact .step hs (ih r)
theorem Star.last{x y z:Nat×Nat}(h:Star I text holds x y)(r:Rel I text holds z y):Star I text holds x z:=by
 induction h with
 |refl=>exact .step r .refl
 |step hs _ ih=>exact .step hs (ih r)
theorem yHn{x:Nat×Nat}(h:Acc (Rel I text holds) x):∀ y,Rel I text holds y x->¬ Star I text holds y x:=by
 induction h with
 |intro x _ ih=>
  intro y hy hs
  cases hs with
  |refl=>exact ih x hy x hy .refl
  |step h1 h2=>exact ih y hy _ h1 (h2.last hy)
variable {v a:Nat}{k:Kept}
theorem hit_ends{e:Nat}:e∈ends (hitM I v a k)↔(zA0 I v).op=4/\e=a:=by
 unfold hitM
 by_cases h:(zA0 I v).op=4
 ·rw[if_pos h];exact List.mem_singleton.trans (and_iff_right h).symm
 ·rw[if_neg h];exact iff_of_false List.not_mem_nil λq=>h q.1
theorem zEl(found:List Way):(if(zA0 I v).op=4 then found++[(a,k)]else found)=found++hitM I v a k:=by
 unfold hitM
 by_cases h:(zA0 I v).op=4
 ·rw[if_pos h,if_pos h]
 ·rw[if_neg h,if_neg h,List.append_nil]
theorem zHj{c:Conf}(h:c∈ways (zA0 I v) a k text holds):Rel I text holds (key c) (v,a):=by
 rw[zEd]at h
 exact(List.mem_map.mp h).elim λs q=>⟨k,s,q.1,q.2▸rfl⟩
theorem zKs{z:Nat×Nat}(h:Rel I text holds z (v,a))(k:Kept):∃ c,c∈ways (zA0 I v) a k text holds/\key c=z:=by
 (revert h;refine e22 λk' s hs e=>?_)
 refine e11 (λu hu=>?_) (zPn I text holds k hs)
 exact⟨goes I (s.1,s.2.1,u),by rw[zEd];exact List.mem_map.mpr ⟨_,hu,rfl⟩,e.symm⟩
theorem ex_cons{P:α->Prop}{x:α}{l:List α}:(∃ c,c∈x::l/\P c)↔P x\/∃ c,c∈l/\P c:=
 ⟨λq=>q.elim λc q=>(List.mem_cons.mp q.1).elim (λe=>.inl (e▸q.2)) λh=>.inr ⟨c,h,q.2⟩,λq=>q.elim (λq=>⟨x,List.mem_cons_self ..,q⟩) λq=>q.elim λc q=>⟨c,List.mem_cons_of_mem _ q.1,q.2⟩⟩
theorem zUy{l1:List Way}(h:∀ e,e∈ends l1↔∃ c,c∈ways (zA0 I v) a k text holds/\Rch I text holds (key c) e)(e:Nat):e∈ends (hitM I v a k++l1)↔Rch I text holds (v,a) e:=by
 rw[zA6,List.mem_append,hit_ends,h]
 refine⟨λq=>q.elim (λq=>by rw[q.2];exact .here (x:=(v,a)) q.1) λq=>q.elim λc q=>.step (zHj q.1) q.2,λq=>q.inv.imp id λq=>q.elim λy q=>?_⟩
 exact(zKs q.1 k).elim λc p=>⟨c,p.1,p.2.symm▸q.2⟩
theorem zZj{S:List Conf}{l:List Way}(h:EnL I text holds S l):∀ e,e∈ends l↔∃ c,c∈S/\Rch I text holds (key c) e:=by
 induction h with
 |nil=>exact λe=>iff_of_false List.not_mem_nil λq=>q.elim λU q=>List.not_mem_nil q.1
 |cons h1 h2 ih1 ih2=>
  intro e
  rw[zA6,List.mem_append,zUy ih1,ih2]
  refine Iff.trans ?_ (ex_cons (P:=λc=>Rch I text holds (key c) e)).symm
  exact Iff.rfl
theorem yDv{S:List Conf}{l:List Way}(h:EnL I text holds S l):∀ c∈S,Acc (Rel I text holds) (key c):=by
 induction h with
 |nil=>exact λc h=>absurd h List.not_mem_nil
 |cons h1 h2 ih1 ih2=>exact λc hc=>(List.mem_cons.mp hc).elim (λe=>e▸⟨_,λy hy=>(zKs hy _).elim λc q=>q.2▸ih1 c q.1⟩) (ih2 c)
def Uni(I:List Ins):Prop:=∀ n n',(zA0 I n).op=4->(zA0 I n').op=4->n=n'
def Fm(I:List Ins)(met:List (Nat×Nat))(found:List Way):Prop:=∀ a∈ends found,∃ n,(zA0 I n).op=4/\(n,a)∈met
theorem Fm.hit{met:List (Nat×Nat)}{found:List Way}(hf:Fm I met found):Fm I ((v,a)::met) (found++hitM I v a k):=λx hx=>by
 rw[zA6,List.mem_append,hit_ends]at hx
 exact hx.elim (λhx=>(hf x hx).imp λn q=>⟨q.1,List.mem_cons_of_mem _ q.2⟩) λq=>⟨v,q.1,q.2▸List.mem_cons_self ..⟩
def DfsQ(I:List Ins)(text holds:List Nat):List Conf->List (Nat×Nat)->List Way->List Way->Prop
 |[],_,found,res=>found=res
 |c::S,met,found,res=>(key c∈met/\Dfs I text holds S met found res)\/(key c∉met/\Dfs I text holds (ways (zA0 I c.1) c.2.1 c.2.2 text holds++S) (key c::met) (found++hitM I c.1 c.2.1 c.2.2) res)
variable {S:List Conf}{met:List (Nat×Nat)}{found res:List Way}
theorem Dfs.inv(D:Dfs I text holds S met found res):DfsQ I text holds S met found res:=by
 cases D with
 |done=>exact rfl
 |old h _ D=>exact .inl ⟨h,D⟩
 |new h _ _ _ _ _ D=>exact .inr ⟨h,zEl found▸D⟩
def Cl(I:List Ins)(text holds:List Nat)(S:List Conf)(met:List (Nat×Nat))(found:List Way):Prop:=∀ y∈met,(∃ c,c∈S/\Star I text holds (key c) y)->∀ e,Rch I text holds y e->e∈ends found
def FOut(I:List Ins)(text holds:List Nat)(S rest:List Conf)(met:List (Nat×Nat))(found l res:List Way):Prop:=∃ met',Dfs I text holds rest met' (first (found++l)) res/\(∀ y∈met',y∈met\/∃ c,c∈S/\Star I text holds (key c) y)/\Fm I met' (first (found++l))
def zM5(I:List Ins)(text holds:List Nat)(S:List Conf)(l:List Way):Prop:=∀ rest met found res,Cl I text holds S met found->Fm I met found->first found=found->Dfs I text holds (S++rest) met found res->FOut I text holds S rest met found l res
theorem zV2{l1 l2:List Way}{x:Conf}{r rest:List Conf}(ih:zM5 I text holds r l2)(hcl:Cl I text holds (x::r) met found)(hf:Fm I met found)(hff:first found=found)(hin:key x∈met)(h:∀ e∈ends l1,Rch I text holds (key x) e)(D:Dfs I text holds (r++rest) met found res):FOut I text holds (x::r) rest met found (l1++l2) res:=by
 unfold FOut
 rw[<-List.append_assoc,zAo,zEm (λe he=>hcl _ hin ⟨x,List.mem_cons_self ..,.refl⟩ e (h e he)),<-zAo]
 exact(ih rest met found res (λy hy q=>hcl y hy (ex_cons.mpr (.inr q))) hf hff D).imp λU q=>⟨q.1,λy hy=>(q.2.1 y hy).imp id λq=>ex_cons.mpr (.inr q),q.2.2⟩
theorem zV4{l1 l2:List Way}{r rest:List Conf}(hu:Uni I)(H:∀ e,e∈ends (hitM I v a k++l1)↔Rch I text holds (v,a) e)(hacc:∀ y,Rel I text holds y (v,a)->¬ Star I text holds y (v,a))(ih1:zM5 I text holds (ways (zA0 I v) a k text holds) l1)(ih2:zM5 I text holds r l2)(hcl:Cl I text holds ((v,a,k)::r) met found)(hf:Fm I met found)(hff:first found=found)(hnot:(v,a)∉met)(D:Dfs I text holds (ways (zA0 I v) a k text holds++(r++rest)) ((v,a)::met) (found++hitM I v a k) res):FOut I text holds ((v,a,k)::r) rest met found (hitM I v a k++l1++l2) res:=by
 have up:∀{y},(∃ c,c∈ways (zA0 I v) a k text holds/\Star I text holds (key c) y)->Star I text holds (v,a) y:=λq=>q.elim λc q=>.step (zHj q.1) q.2
 have hff1:first (found++hitM I v a k)=found++hitM I v a k:=by
  unfold hitM
  by_cases h4:(zA0 I v).op=4
  ·rw[if_pos h4,zBj,if_neg (λhe=>(hf a he).elim λn q=>hnot (hu n v q.1 h4▸q.2)),hff]
  ·rw[if_neg h4,List.append_nil,hff]
 refine e13 (λmet2 D2 g1 g2=>?_) (ih1 (r++rest) _ _ res (λy hy q e he=>?_) hf.hit hff1 D)
 ·have hsub:∀ e,e∈ends found\/Rch I text holds (v,a) e->e∈ends (first (found++hitM I v a k++l1)):=λe he=>by
   rw[zAv,List.append_assoc,zA6,List.mem_append,H];exact he
  have eq:first (first (found++hitM I v a k++l1)++l2)=first (found++(hitM I v a k++l1++l2)):=by
   rw[zAo,zB5,<-zAo]
   simp only[List.append_assoc]
  refine e13 (λmet3 D3 q1 q2=>?_) (ih2 rest met2 _ res (λy hy q e he=>hsub e ?_) g2 (zB5 _) D2)
  ·unfold FOut
   rw[<-eq]
   exact⟨met3,D3,λy hy=>(q1 y hy).elim (λhy=>(g1 y hy).elim (λhy=>(List.mem_cons.mp hy).elim (λq=>.inr ⟨_,List.mem_cons_self ..,q▸.refl⟩) .inl) λq=>.inr ⟨_,List.mem_cons_self ..,up q⟩) λq=>.inr (ex_cons.mpr (.inr q)),q2⟩
  ·exact(g1 y hy).elim (λhy=>(List.mem_cons.mp hy).elim (λq=>.inr (q▸he)) λhy=>.inl (hcl y hy (ex_cons.mpr (.inr q)) e he)) λq=>.inr ((up q).rch he)
 ·refine(List.mem_cons.mp hy).elim (λh=>?_) λhy=>?_
  ·exact q.elim λc q=>absurd (h▸q.2) (hacc _ (zHj q.1))
  ·rw[zA6]
   exact List.mem_append_left _ (hcl y hy ⟨_,List.mem_cons_self ..,up q⟩ e he)
theorem zVh(hu:Uni I){l:List Way}(h:EnL I text holds S l):zM5 I text holds S l:=by
 induction h with
 |nil=>
  intro rest met found res _ hf hff D
  unfold FOut
  rw[List.append_nil,hff]
  exact⟨met,D,λy hy=>.inl hy,hf⟩
 |cons h1 h2 ih1 ih2=>
  intro rest met found res hcl hf hff D
  have H:=zUy (zZj h1)
  exact D.inv.elim (λq=>zV2 ih2 hcl hf hff q.1 (λe he=>(H e).mp he) q.2) λq=>zV4 hu H (yHn (yDv (EnL.cons h1 h2) _ (List.mem_cons_self ..))) ih1 ih2 hcl hf hff q.1 q.2
end
end
section
section
variable {I:List Ins}{text holds:List Nat}
theorem zVf(D:Dfs I text holds S met found res):∀ e∈ends res,e∈ends found\/∃ c,c∈S/\Rch I text holds (key c) e:=by
 induction D with
 |done=>exact λe he=>.inl he
 |old _ _ _ ih=>exact λe he=>(ih e he).imp id λh=>ex_cons.mpr (.inr h)
 |new _ _ _ _ _ _ _ ih=>
  intro e he
  rw[zEl]at ih
  refine(ih e he).elim (λh=>?_) λh=>h.elim λc h=>.inr ?_
  ·rw[zA6,List.mem_append,hit_ends]at h
   exact h.elim .inl λq=>.inr ⟨_,List.mem_cons_self ..,by rw[q.2];exact .here (x:=(n,a)) q.1⟩
  ·exact(List.mem_append.mp h.1).elim (λhc=>⟨_,List.mem_cons_self ..,.step (zHj hc) h.2⟩) λhc=>⟨c,List.mem_cons_of_mem _ hc,h.2⟩
abbrev On(met:List (Nat×Nat))(S:List Conf)(z:Nat×Nat):Prop:=z∈met\/∃ c,c∈S/\key c=z
theorem On.old(hin:key c∈met)(h:On met (c::S) z):On met S z:=
 h.elim .inl λh=>((ex_cons (P:=λc=>key c=z)).mp h).imp (λe:key c=z=>e▸hin) id
theorem On.new(h:On met (c::S) z):On (key c::met) (T++S) z:=
 h.elim (λh=>.inl (List.mem_cons_of_mem _ h)) λh=>((ex_cons (P:=λc=>key c=z)).mp h).imp (λe:key c=z=>e▸List.mem_cons_self ..) λh=>h.imp λc h=>⟨List.mem_append_right _ h.1,h.2⟩
def Met(I:List Ins)(text holds:List Nat)(S:List Conf)(met:List (Nat×Nat))(found:List Way):Prop:=∀ y∈met,(∀ z,Rel I text holds z y->On met S z)/\((zA0 I y.1).op=4->y.2∈ends found)
theorem zXv(hc:Met I text holds [] met found)(h:Rch I text holds x e):x∈met->e∈ends found:=by
 induction h with
 |here h4=>exact λhx=>(hc _ hx).2 h4
 |step hs _ ih=>exact λhx=>ih (((hc _ hx).1 _ hs).resolve_right λh=>h.elim λc h=>List.not_mem_nil h.1)
theorem zNh(D:Dfs I text holds S met found res):Met I text holds S met found->∀ x,On met S x->∀ e,Rch I text holds x e->e∈ends res:=by
 induction D with
 |done=>exact λhc x hx e he=>zXv hc he (hx.resolve_right λh=>h.elim λc h=>List.not_mem_nil h.1)
 |old hin _ _ ih=>exact λhc x hx e he=>ih (λy hy=>⟨λz hz=>On.old (c:=(n,a,k)) hin ((hc y hy).1 z hz),(hc y hy).2⟩) x (On.old (c:=(n,a,k)) hin hx) e he
 |new hnot _ _ _ _ _ _ ih=>
  intro hc x hx e he
  rw[zEl]at ih
  refine ih (λy hy=>⟨λz hz=>?_,λh4=>?_⟩) x hx.new e he
  ·exact(List.mem_cons.mp hy).elim (λq=>.inr ((zKs (q▸hz) _).imp λc q=>⟨List.mem_append_left _ q.1,q.2⟩)) λhy=>((hc y hy).1 z hz).new
  ·rw[zA6]
   exact(List.mem_cons.mp hy).elim (λq=>by subst q;exact List.mem_append_right _ (hit_ends.mpr ⟨h4,rfl⟩)) λhy=>List.mem_append_left _ ((hc y hy).2 h4)
theorem zUz:(ends (hitM I v a k)).Nodup:=by
 unfold hitM
 by_cases h:(zA0 I v).op=4
 ·rw[if_pos h];exact List.nodup_cons.mpr ⟨List.not_mem_nil,.nil⟩
 ·rw[if_neg h];exact .nil
theorem zVg(hu:Uni I)(D:Dfs I text holds S met found res):(ends found).Nodup->Fm I met found->(ends res).Nodup:=by
 induction D with
 |done=>exact λh U=>h
 |old _ _ _ ih=>exact ih
 |new hnot _ _ _ _ _ _ ih=>
  intro hn hf
  rw[zEl]at ih
  refine ih ?_ hf.hit
  rw[zA6,List.nodup_append]
  exact⟨hn,zUz,λx hx y hy e=>(hf x hx).elim λn q=>hnot (hu n _ q.1 (hit_ends.mp hy).1▸(hit_ends.mp hy).2▸e▸q.2)⟩
noncomputable def grid(N L:Nat):List (Nat×Nat):=(List.range N).flatMap λv=>(List.range (L+1)).map λa=>(v,a)
theorem zYh(N L:Nat):(grid N L).length=N * (L+1):=by
 unfold grid
 induction N with
 |zero=>simp
 |succ N ih=>rw[List.range_succ (n:=N),List.flatMap_append,List.length_append,ih];simp[Nat.succ_mul]
theorem mem_grid:(v,a)∈grid N L↔v<N/\a<=L:=
 ⟨λh=>(List.mem_flatMap.mp h).elim λv' q=>(List.mem_map.mp q.2).elim λa' p=>
  have i:=Prod.mk.inj p.2
  ⟨i.1▸List.mem_range.mp q.1,i.2▸Nat.le_of_lt_succ (List.mem_range.mp p.1)⟩,λh=>List.mem_flatMap.mpr ⟨v,List.mem_range.mpr h.1,List.mem_map.mpr ⟨a,List.mem_range.mpr (Nat.lt_succ_of_le h.2),rfl⟩⟩⟩
theorem run1{G m l o b:Nat}(h:3 * (G-m)+(l+1)<=b+1)(k:m+1<=G)(q:o<=2):3 * (G-(m+1))+(o+l)<=b:=by omega
theorem run2{m l o:Nat}(h:l+1<=2 * m+1)(q:o<=2):o+l<=2 * (m+1)+1:=by omega
theorem yCe:(hitM I v a k).length<=1:=by
 unfold hitM
 by_cases h:(zA0 I v).op=4
 ·rw[if_pos h];exact Nat.le_refl _
 ·rw[if_neg h];exact Nat.zero_le _
theorem yCu{G:Nat}(hG:G<=400)(hlen:∀ met:List (Nat×Nat),met.Nodup->(∀ y∈met,y∈grid I.length text.length)->met.length<=G)(hstay:∀ v a k,v<I.length->a<=text.length->∀ s∈outs I text holds v a k,wayP I s.1<I.length):∀(m:Nat) (S:List Conf) (met:List (Nat×Nat)) (found:List Way),
  3 * (G-met.length)+S.length<=m->met.Nodup->(∀ y∈met,y∈grid I.length text.length)->(∀ c∈S,c.1<I.length/\c.2.1<=text.length)->S.length<=2 * met.length+1->found.length<=met.length->∃ res,Dfs I text holds S met found res:=by
 intro m
 induction m with
 |zero=>
  intro S met found hm _ _ _ _ _
  rw[List.eq_nil_of_length_eq_zero (Nat.le_zero.mp (Nat.le_trans (Nat.le_add_left _ _) hm))]
  exact⟨found,.done⟩
 |succ m ih=>
  intro S met found hm nd hg hS hl hf
  cases S with
  |nil=>exact⟨found,.done⟩
  |cons c left=>
   have hc:=hS _ (List.mem_cons_self ..)
   have hS':∀ c∈left,c.1<I.length/\c.2.1<=text.length:=λc hc=>hS c (List.mem_cons_of_mem _ hc)
   have hml:=Nat.le_trans (hlen met nd hg) hG
   have hll:left.length<=1000:=Nat.le_trans (Nat.le_of_succ_le_succ hl) (Nat.le_trans (Nat.mul_le_mul_left 2 hml) (by decide))
   by_cases h:key c∈met
   ·exact(ih left met found (Nat.le_of_lt_succ hm) nd hg hS' (Nat.le_of_succ_le hl) hf).imp λres D=>.old h hll D
   ·have nd':(key c::met).Nodup:=List.nodup_cons.mpr ⟨h,nd⟩
    have hg':∀ y∈key c::met,y∈grid I.length text.length:=λy hy=>(List.mem_cons.mp hy).elim (λe=>e.symm▸mem_grid.mpr hc) (hg y)
    have hw:(ways (zA0 I c.1) c.2.1 c.2.2 text holds).length<=2:=by rw[zEd,List.length_map];exact zXi I text holds ..
    have hm1:=Nat.le_trans hml (by decide:400<=1000)
    refine(ih (ways (zA0 I c.1) c.2.1 c.2.2 text holds++left) (key c::met) (found++hitM I c.1 c.2.1 c.2.2) ?_ nd' hg' (λd hd=>(List.mem_append.mp hd).elim (λhd=>?_) (hS' d)) ?_ ?_).imp λres D=>.new h hc.1 hc.2 hll hm1 (Nat.le_trans hf hm1) ?_
    ·rw[List.length_append];exact run1 hm (hlen _ nd' hg') hw
    ·rw[zEd]at hd
     refine e12 (λs hs e=>?_) (List.mem_map.mp hd)
     exact e▸⟨hstay _ _ _ hc.1 hc.2 s hs,(zAx I text holds hs).2.2.2 hc.2⟩
    ·rw[List.length_append];exact run2 hl hw
    ·rw[List.length_append];exact Nat.add_le_add hf yCe
    ·rw[zEl];exact D
theorem zVe(hG:I.length * (text.length+1)<=400)(hstay:∀ v a k,v<I.length->a<=text.length->∀ s∈outs I text holds v a k,wayP I s.1<I.length)(hS:∀ c∈S,c.1<I.length/\c.2.1<=text.length)(hl:S.length<=1):∃ res,Dfs I text holds S [] [] res:=
 yCu hG (λmet nd hg=>zYh I.length text.length▸zDy nd hg) hstay _ S [] [] (Nat.le_refl _) .nil (λU h=>absurd h List.not_mem_nil) hS hl (Nat.le_refl _)
end
end
section
section
variable (I:List Ins)(text holds:List Nat)(ms:List Nat)
inductive EnX:List (Nat×Nat×Kept)->List Way->Prop
 |nil:EnX [] []
 |out {s a k r l}:s∈ms->EnX r l->EnX ((s,a,k)::r) ((a,k)::l)
 |go {s a k r l1 l2}:s∉ms->EnX (outs I text holds (wayP I s) a k) l1->EnX r l2->EnX ((s,a,k)::r) (l1++l2)
inductive ReX:Nat->Nat->Nat->Prop
 |out {s a}:s∈ms->ReX s a a
 |go {s a k t e}:s∉ms->t∈outs I text holds (wayP I s) a k->ReX t.1 t.2.1 e->ReX s a e
def Ent(v a e:Nat):Prop:=∃ k,∃ s∈outs I text holds v a k,ReX I text holds ms s.1 s.2.1 e
variable {I text holds ms}
theorem EnX.append(h:EnX I text holds ms S l)(k:EnX I text holds ms T m):EnX I text holds ms (S++T) (l++m):=by
 induction h with
 |nil=>exact k
 |out hs _ ih=>exact .out hs ih
 |go hs h1 _ _ ih=>rw[List.append_assoc];exact .go hs h1 ih
theorem EnX.kept(h:EnX I text holds ms S l):(∀ s∈S,s.2.2.length<=4)->∀ w∈l,w.2.length<=4:=by
 induction h with
 |nil=>intro _ w hw;simp at hw
 |out hs _ ih=>
  intro hS w hw
  rcases List.mem_cons.mp hw with rfl|hw
  ·exact hS _ (List.mem_cons_self ..)
  ·exact ih (λs hs=>hS s (List.mem_cons_of_mem _ hs)) w hw
 |go hs _ _ ih1 ih2=>
  intro hS w hw
  rcases List.mem_append.mp hw with hw|hw
  ·exact ih1 (λs hs'=>zMu I text holds (hS _ (List.mem_cons_self ..)) hs') w hw
  ·exact ih2 (λs hs=>hS s (List.mem_cons_of_mem _ hs)) w hw
theorem EnX.pos(h:EnX I text holds ms S l):∀ A,(∀ s∈S,A<=s.2.1/\s.2.1<=text.length)->∀ w∈l,A<=w.1/\w.1<=text.length:=by
 induction h with
 |nil=>intro _ _ w hw;simp at hw
 |out hs _ ih=>
  intro A hS w hw
  rcases List.mem_cons.mp hw with rfl|hw
  ·exact hS _ (List.mem_cons_self ..)
  ·exact ih A (λs hs=>hS s (List.mem_cons_of_mem _ hs)) w hw
 |go hs _ _ ih1 ih2=>
  intro A hS w hw
  rcases List.mem_append.mp hw with hw|hw
  ·refine ih1 A (λs hs'=>?_) w hw
   have h0:=hS _ (List.mem_cons_self ..)
   have:=zAx I text holds hs'
   dsimp only at h0
   exact⟨by omega,this.2.2.2 h0.2⟩
  ·exact ih2 A (λs hs=>hS s (List.mem_cons_of_mem _ hs)) w hw
theorem ReX.pos(h:ReX I text holds ms s a e):a<=e/\(a<=text.length->e<=text.length):=by
 induction h with
 |out _=>exact⟨Nat.le_refl _,id⟩
 |go _ ht _ ih=>
  have:=zAx I text holds ht
  exact⟨by omega,λh=>ih.2 (this.2.2.2 h)⟩
theorem Ent.pos(h:Ent I text holds ms v a e):a<=e/\(a<=text.length->e<=text.length):=by
 (revert h;refine e22 λk s hs h=>?_)
 have:=zAx I text holds hs
 have:=h.pos
 exact⟨by omega,λh=>by omega⟩
structure Frg(I:List Ins)(R:List Nat)(b:Nat)(ms:List Nat):Prop where
 hb:b∈R\/b=0
 pos:∀ v∈R,0<v/\v<I.length
 hm:∀ s∈ms,s / 2∈R
 odd:∀ s∈ms,s % 2=1->(zA0 I (s / 2)).op=0
 cl:∀ s,s / 2∈R->s∉ms->(s % 2=1->(zA0 I (s / 2)).op=0)->wayP I s∈R\/wayP I s=0
structure Agree(I I':List Ins)(R ms:List Nat):Prop where
 op:∀ v∈R,(zA0 I' v).op=(zA0 I v).op
 low:∀ v∈R,(zA0 I' v).low=(zA0 I v).low
 high:∀ v∈R,(zA0 I' v).high=(zA0 I v).high
 fold:∀ v∈R,(zA0 I' v).fold=(zA0 I v).fold
 way:∀ s,s / 2∈R->s∉ms->wayP I' s=wayP I s
theorem Agree.of_eq(h:∀ v∈R,zA0 I' v=zA0 I v):Agree I I' R ms:=
 ⟨λv hv=>by rw[h v hv],λv hv=>by rw[h v hv],λv hv=>by rw[h v hv],λv hv=>by rw[h v hv],λs hs U=>by unfold wayP;rw[h _ hs]⟩
theorem zAr(F:Frg I R b ms)(A:Agree I I' R ms)(hv:v∈R)(a:Nat)(k:Kept):outs I' text holds v a k=outs I text holds v a k:=by
 unfold outs
 rw[A.op v hv,A.low v hv,A.high v hv,A.fold v hv]
 by_cases h0:(zA0 I v).op=0
 ·rw[if_pos h0,if_pos h0]
 ·have:(zA0 I' v).arg=(zA0 I v).arg:=by
   rw[<-zCr,<-zCr]
   refine A.way _ (by rw[show(2 * v+1) / 2=v by exact n6];exact hv) λhm=>h0 ?_
   have:=F.odd _ hm (n36)
   rwa [show(2 * v+1) / 2=v by exact n6]at this
  rw[this]
theorem zEi{R:List Nat}{v a:Nat}{k:Kept}(hR:v∈R){s:Nat×Nat×Kept}(h:s∈outs I text holds v a k):s.1 / 2∈R/\(s.1 % 2=1->(zA0 I (s.1 / 2)).op=0):=
 have q:=zAx I text holds h
 ⟨q.1.symm▸hR,q.1.symm▸q.2.1⟩
theorem zAj(z:(zA0 I 0).op=6)(a:Nat)(k:Kept):outs I text holds 0 a k=[]:=by
 unfold outs;rw[z];simp
def EnXQ(I:List Ins)(text holds ms:List Nat):List (Nat×Nat×Kept)->List Way->Prop
 |[],l=>l=[]
 |c::S,l=>(c.1∈ms/\∃ m,EnX I text holds ms S m/\l=c.2::m)\/(c.1∉ms/\∃ m n,EnX I text holds ms (outs I text holds (wayP I c.1) c.2.1 c.2.2) m/\EnX I text holds ms S n/\l=m++n)
theorem EnX.inv(h:EnX I text holds ms S l):EnXQ I text holds ms S l:=by
 cases h with
 |nil=>exact rfl
 |out h k=>exact .inl ⟨h,_,k,rfl⟩
 |go h k q=>exact .inr ⟨h,_,_,k,q,rfl⟩
theorem EnX.nil_eq(h:EnX I text holds ms [] l):l=[]:=h.inv
theorem yDu(h:s∈ms)(q:EnX I text holds ms [(s,a,k)] l):l=[(a,k)]:=
 q.inv.elim (λp=>p.2.elim λm p=>p.1.nil_eq▸p.2) λp=>absurd h p.1
theorem zZi(h:s∉ms)(q:EnX I text holds ms [(s,a,k)] l):EnX I text holds ms (outs I text holds (wayP I s) a k) l:=
 q.inv.elim (λp=>absurd p.1 h) λp=>p.2.elim λm p=>p.elim λn p=>by rw[p.2.2,p.2.1.nil_eq,List.append_nil];exact p.1
variable {I':List Ins}{R ms':List Nat}{b:Nat}
set_option tactic.hygienic true in
theorem seqE(F:Frg I R b ms)(A:Agree I I' R ms)(z:(zA0 I 0).op=6)(z':(zA0 I' 0).op=6)(hms:∀ s,s / 2∈R->s∈ms'->s∈ms)(h:EnX I text holds ms S l) :
  (∀ s∈S,s.1 / 2∈R/\(s.1 % 2=1->(zA0 I (s.1 / 2)).op=0))->∀ L:Way->List Way,(∀ s∈ms,∀ w∈l,EnX I' text holds ms' [(s,w.1,w.2)] (L w))->EnX I' text holds ms' S (l.flatMap L):=by
 induction h with
 |nil=>intro _ _ _;exact .nil
 |out hs _ ih=>
  intro hS L hL
  rw[List.flatMap_cons]
  exact EnX.append (hL _ hs _ (List.mem_cons_self ..)) (ih (λs h=>hS s (List.mem_cons_of_mem _ h)) L λs h w hw=>hL s h w (List.mem_cons_of_mem _ hw))
 |go hs h1 h2' ih1 ih2=>
  rename_i s a k r l1 l2
  intro hS L hL
  rw[List.flatMap_append]
  have h0:=hS _ (List.mem_cons_self ..)
  dsimp only at h0
  have hw:=A.way s h0.1 hs
  refine .go (λh=>hs (hms s h0.1 h)) ?_ (ih2 (λs h=>hS s (List.mem_cons_of_mem _ h)) L λs h w hw=>hL s h w (List.mem_append_right _ hw))
  rw[hw]
  rcases F.cl s h0.1 hs h0.2 with hR|hR
  ·rw[zAr F A hR]
   refine ih1 (λt ht=>?_) L λs h w hw=>hL s h w (List.mem_append_left _ hw)
   have:=zAx I text holds ht
   rw[this.1]
   exact⟨hR,this.2.1⟩
  ·rw[hR]at h1 ⊢
   rw[zAj z]at h1
   rw[zAj z',h1.nil_eq]
   exact .nil
set_option tactic.hygienic true in
theorem seqR(F:Frg I R b ms)(A:Agree I I' R ms)(z:(zA0 I 0).op=6)(z':(zA0 I' 0).op=6)(hms:∀ s,s / 2∈R->s∈ms'->s∈ms){Lr:Nat->Nat->Prop}(hL:∀ s∈ms,∀ m e,ReX I' text holds ms' s m e↔Lr m e){s a e:Nat}(hs:s / 2∈R)(ho:s % 2=1->(zA0 I (s / 2)).op=0) :
  ReX I' text holds ms' s a e↔∃ m,ReX I text holds ms s a m/\Lr m e:=by
 constructor
 ·intro h
  induction h with
  |out h1=>exact⟨_,.out (hms _ hs h1),(hL _ (hms _ hs h1) _ _).mp (.out h1)⟩
  |go h1 ht hr ih=>
   rename_i s a k t e
   by_cases hm:s∈ms
   ·exact⟨a,.out hm,(hL s hm a e).mp (.go h1 ht hr)⟩
   ·rw[A.way s hs hm]at ht
    rcases F.cl s hs hm ho with hR|hR
    ·rw[zAr F A hR]at ht
     have h2:=zAx I text holds ht
     refine e12 (λm q1 q2=>?_) (ih (by rw[h2.1];exact hR) (by rw[h2.1];exact h2.2.1))
     exact⟨m,.go hm ht q1,q2⟩
    ·rw[hR,zAj z']at ht;simp at ht
 ·rintro⟨m,h,hl⟩
  induction h with
  |out h1=>exact(hL _ h1 _ _).mpr hl
  |go h1 ht hr ih=>
   rename_i s a k t m
   rcases F.cl s hs h1 ho with hR|hR
   ·have h2:=zAx I text holds ht
    refine .go (k:=k) (λh=>h1 (hms s hs h)) ?_ (ih (by rw[h2.1];exact hR) (by rw[h2.1];exact h2.2.1) hl)
    rw[A.way s hs h1,zAr F A hR];exact ht
   ·rw[hR,zAj z]at ht;simp at ht
theorem entR(F:Frg I R b ms)(A:Agree I I' R ms)(z:(zA0 I 0).op=6)(z':(zA0 I' 0).op=6)(hms:∀ s,s / 2∈R->s∈ms'->s∈ms){Lr:Nat->Nat->Prop}(hL:∀ s∈ms,∀ m e,ReX I' text holds ms' s m e↔Lr m e){a e:Nat} :
  Ent I' text holds ms' b a e↔∃ m,Ent I text holds ms b a m/\Lr m e:=by
 rcases F.hb with hb|hb
 ·constructor
  ·rintro⟨k,s,hs,h⟩
   rw[zAr F A hb]at hs
   have h2:=zAx I text holds hs
   refine e12 (λm q1 q2=>?_) ((seqR F A z z' hms hL (by rw[h2.1];exact hb) (by rw[h2.1];exact h2.2.1)).mp h)
   exact⟨m,⟨k,s,hs,q1⟩,q2⟩
  ·rintro⟨m,⟨k,s,hs,h⟩,hl⟩
   have h2:=zAx I text holds hs
   exact⟨k,s,by rw[zAr F A hb];exact hs,(seqR F A z z' hms hL (by rw[h2.1];exact hb) (by rw[h2.1];exact h2.2.1)).mpr ⟨m,h,hl⟩⟩
 ·subst hb
  constructor
  ·rintro⟨k,s,hs,_⟩;rw[zAj z']at hs;simp at hs
  ·rintro⟨m,⟨k,s,hs,_⟩,_⟩;rw[zAj z]at hs;simp at hs
theorem entE(F:Frg I R b ms)(A:Agree I I' R ms)(z:(zA0 I 0).op=6)(z':(zA0 I' 0).op=6)(hms:∀ s,s / 2∈R->s∈ms'->s∈ms)(h:EnX I text holds ms (outs I text holds b a k) l)(L:Way->List Way)(hL:∀ s∈ms,∀ w∈l,EnX I' text holds ms' [(s,w.1,w.2)] (L w)) :
  EnX I' text holds ms' (outs I' text holds b a k) (l.flatMap L):=by
 rcases F.hb with hb|hb
 ·rw[zAr F A hb]
  refine seqE F A z z' hms h (λs hs=>?_) L hL
  have h2:=zAx I text holds hs
  rw[h2.1];exact⟨hb,h2.2.1⟩
 ·subst hb
  rw[zAj z]at h
  rw[zAj z',h.nil_eq]
  exact .nil
theorem zJc(l:List Way):l.flatMap (λw=>[w])=l:=by
 induction l with
 |nil=>rfl
 |cons x r ih=>rw[List.flatMap_cons,ih];rfl
theorem yGq(F:Frg I R b ms)(A:Agree I I' R ms)(z:(zA0 I 0).op=6)(z':(zA0 I' 0).op=6)(hms:∀ s,s / 2∈R->(s∈ms'↔s∈ms))(h:EnX I text holds ms (outs I text holds b a k) l):EnX I' text holds ms' (outs I' text holds b a k) l:=by
 have:=entE F A z z' (λs hs=>(hms s hs).mp) h (λw=>[w]) λs hs w U=>.out ((hms s (F.hm s hs)).mpr hs) .nil
 rwa [zJc]at this
theorem yGp(F:Frg I R b ms)(A:Agree I I' R ms)(z:(zA0 I 0).op=6)(z':(zA0 I' 0).op=6)(hms:∀ s,s / 2∈R->(s∈ms'↔s∈ms)){a e:Nat}:Ent I' text holds ms' b a e↔Ent I text holds ms b a e:=by
 rw[entR (Lr:=λm e=>m=e) F A z z' (λs hs=>(hms s hs).mp) λs hs m e=>?_]
 ·constructor
  ·rintro⟨m,h,rfl⟩;exact h
  ·intro h;exact⟨e,h,rfl⟩
 ·have hm:=(hms s (F.hm s hs)).mpr hs
  constructor
  ·intro h
   cases h with
   |out _=>rfl
   |go h1 _ _=>exact absurd hm h1
  ·rintro rfl;exact .out hm
end
end
structure TabOk(L:Nat)(t:zAa):Prop where
 wf:WfT (L+1) t
 fst:∀ a,first (row t a)=row t a
 mono:∀ a,∀ e∈ends (row t a),a<=e
theorem TabOk.le(h:TabOk L t)(he:e∈ends (row t a)):e<=L:=by
 refine e11 (λk hk=>?_) (mem_ends.mp he)
 have:=(zCi h.wf a).2 _ hk
 dsimp only at this;omega
theorem ends_joined:e∈ends (joined l t)↔∃ m∈ends l,e∈ends (row t m):=by
 unfold joined zBq
 rw[zAv,ends_flatMap]
 constructor
 ·rintro⟨w,hw,h⟩
  rw[zCw]at h
  exact⟨w.1,mem_ends.mpr ⟨w.2,hw⟩,h⟩
 ·rintro⟨m,hm,h⟩
  refine e11 (λk hk=>?_) (mem_ends.mp hm)
  exact⟨_,hk,by rw[zCw];exact h⟩
inductive Plus(t:zAa):Nat->Nat->Prop
 |one {a e}:e∈ends (row t a)->Plus t a e
 |more {a m e}:m∈ends (row t a)->Plus t m e->Plus t a e
theorem zT4(h:i<f.length)(a:Nat):row (f.set i l) a=if a=i then l else row f a:=by
 unfold row
 rw[List.getD_eq_getElem?_getD,List.getD_eq_getElem?_getD,List.getElem?_set]
 by_cases e:i=a
 ·subst e;rw[if_pos rfl,if_pos h,if_pos rfl];rfl
 ·rw[if_neg e,if_neg (λq=>e q.symm)]
theorem zL5(h:a<p.1->row f p.1=row g p.1):loopOne f lazy a p=loopOne g lazy a p:=by
 unfold loopOne
 by_cases hp:a<p.1
 ·rw[if_pos hp,if_pos hp]
  have:joined [p] f=joined [p] g:=by unfold joined zBq;simp[h hp]
  rw[this]
 ·rw[if_neg hp,if_neg hp]
theorem zDa:∀{l:List α},(∀ x∈l,f x=g x)->l.flatMap f=l.flatMap g
 |[],_=>rfl
 |x::r,h=>by rw[List.flatMap_cons,List.flatMap_cons,h x (List.mem_cons_self ..),zDa λy hy=>h y (List.mem_cons_of_mem _ hy)]
theorem zXy(t:zAa)(lazy:Bool):∀(N:Nat) (f:zAa),N<=f.length->(∀ a,N<=a->row ((List.range N).reverse.foldl (zAi t lazy) f) a=row f a)/\∀ a,a<N->row ((List.range N).reverse.foldl (zAi t lazy) f) a=first ((row t a).flatMap (loopOne ((List.range N).reverse.foldl (zAi t lazy) f) lazy a)):=by
 intro N
 induction N with
 |zero=>intro f _;exact⟨λa U=>rfl,λa h=>by omega⟩
 |succ N ih=>
  intro f hf
  rw[List.range_succ,List.reverse_append,List.reverse_cons,List.reverse_nil,List.nil_append,List.cons_append,List.nil_append,List.foldl_cons]
  have hl:(zAi t lazy f N).length=f.length:=by unfold zAi;rw[List.length_set]
  refine e02 (λi1 i2=>?_) (ih (zAi t lazy f N) (by omega))
  have hrow:∀ a,row (zAi t lazy f N) a=if a=N then first ((row t N).flatMap (loopOne f lazy N))else row f a:=λa=>by unfold zAi;exact zT4 (Nat.lt_of_succ_le hf) a
  refine⟨λa ha=>?_,λa ha=>?_⟩
  ·rw[i1 a (Nat.le_of_succ_le ha),hrow,if_neg (Nat.ne_of_lt' ha)]
  ·by_cases e:a=N
   ·subst e
    rw[i1 a (Nat.le_refl _),hrow,if_pos rfl]
    congr 1
    have:∀ p∈row t a,loopOne f lazy a p=loopOne ((List.range a).reverse.foldl (zAi t lazy) (zAi t lazy f a)) lazy a p:=λp U=>zL5 λhp=>by rw[i1 p.1 (Nat.le_of_succ_le hp),hrow,if_neg (Nat.ne_of_lt' hp)]
    exact zDa this
   ·exact i2 a (by omega)
theorem zG0(lazy:Bool)(wf:WfT (L+1) t)(ha:a<=L):row (loops t lazy) a=first ((row t a).flatMap (loopOne (loops t lazy) lazy a)):=by
 have:=(zXy t lazy t.length (t.map λU=>[]) (by simp)).2 a (by rw[wf.1];exact n1 ha)
 exact this
set_option tactic.hygienic true in
theorem loopOne_ends:e∈ends (loopOne f lazy a p)↔e=p.1\/(a<p.1/\e∈ends (row f p.1)):=by
 have hj:e∈ends (if a<p.1 then joined [p] f else[])↔(a<p.1/\e∈ends (row f p.1)):=by
  split
  ·rename_i hlt
   rw[ends_joined];simp[ends,hlt]
  ·simp[ends];omega
 unfold loopOne
 dsimp only
 split
 ·rw[zA6,List.mem_append,hj];simp[ends]
 ·rw[zA6,List.mem_append,hj];simp[ends];exact Or.comm
set_option tactic.hygienic true in
theorem zGo(lazy:Bool)(ok:TabOk L t):∀(d a e:Nat),a<=L->L-a<=d->(e∈ends (row (loops t lazy) a)↔Plus t a e):=by
 intro d
 induction d using Nat.strongRecOn with
 |ind d ih=>
  intro a e ha hd
  have key:e∈ends (row (loops t lazy) a)↔∃ m∈ends (row t a),e=m\/(a<m/\Plus t m e):=by
   rw[zG0 lazy ok.wf ha,zAv,ends_flatMap]
   constructor
   ·rintro⟨w,hw,h⟩
    have hm:w.1∈ends (row t a):=mem_ends.mpr ⟨w.2,hw⟩
    refine⟨w.1,hm,?_⟩
    rcases loopOne_ends.mp h with h|⟨h1,h2⟩
    ·exact .inl h
    ·have:=ok.le hm
     exact .inr ⟨h1,(ih (L-w.1) (n26 h1 this hd) w.1 e this (Nat.le_refl _)).mp h2⟩
   ·rintro⟨m,hm,h⟩
    refine e11 (λk hk=>?_) (mem_ends.mp hm)
    refine⟨_,hk,loopOne_ends.mpr ?_⟩
    rcases h with h|⟨h1,h2⟩
    ·exact .inl h
    ·have:=ok.le hm
     exact .inr ⟨h1,(ih (L-m) (n26 h1 this hd) m e this (Nat.le_refl _)).mpr h2⟩
  rw[key]
  constructor
  ·rintro⟨m,hm,rfl|⟨_,h⟩⟩
   ·exact .one hm
   ·exact .more hm h
  ·intro h
   clear key
   induction h with
   |one h=>exact⟨_,h,.inl rfl⟩
   |more hm h ih2=>
    rename_i a m e
    by_cases hlt:a<m
    ·exact⟨m,hm,.inr ⟨hlt,h⟩⟩
    ·have:m=a:=by have:=ok.mono a m hm;omega
     subst this
     exact ih2 ha hd
theorem zAs(f:Nat->List Way):row ((List.range N).map f) a=if a<N then f a else[]:=by
 unfold row
 rw[List.getD_eq_getElem?_getD,List.getElem?_map]
 by_cases h:a<N
 ·rw[if_pos h,List.getElem?_range h];rfl
 ·rw[if_neg h,List.getElem?_eq_none (by simp;exact n11 h)];rfl
theorem zIa(lazy:Bool)(wf:WfT (L+1) t)(ha:¬ a<=L):row (loops t lazy) a=[]:=by
 unfold row
 have:(loops t lazy).length=t.length:=by
  unfold loops
  have:∀(as:List Nat) (f:zAa),(as.foldl (zAi t lazy) f).length=f.length:=by
   intro as
   induction as with
   |nil=>intro f;rfl
   |cons x r ih=>intro f;rw[List.foldl_cons,ih];unfold zAi;rw[List.length_set]
  rw[this];simp
 rw[List.getD_eq_getElem?_getD,List.getElem?_eq_none (by rw[this,wf.1];exact n46 ha)];rfl
theorem Plus.le(ok:TabOk L t)(h:Plus t a e):a<=e:=by
 induction h with
 |one h=>exact ok.mono _ _ h
 |more hm _ ih=>have:=ok.mono _ _ hm;exact Nat.le_trans this ih
theorem zL4(lazy:Bool)(hL:L<=4)(ok:TabOk L t):TabOk L (loops t lazy):=by
 refine⟨zL3 (n2 hL) ok.wf,λa=>?_,λa e he=>?_⟩
 ·by_cases ha:a<=L
  ·rw[zG0 lazy ok.wf ha,zB5]
  ·rw[zIa lazy ok.wf ha];rfl
 ·by_cases ha:a<=L
  ·exact((zGo lazy ok _ a e ha (Nat.le_refl _)).mp he).le ok
  ·rw[zIa lazy ok.wf ha]at he;simp[ends]at he
section
section
variable (I:List Ins)(text holds:List Nat)
def SemR(b:Nat)(ms:List Nat)(t:zAa):Prop:=∀ a,a<=text.length->∀ e,Ent I text holds ms b a e↔e∈ends (row t a)
def SemE(b:Nat)(ms:List Nat)(t:zAa):Prop:=∀ a,a<=text.length->∀ k:Kept,k.length<=4->∃ l,EnX I text holds ms (outs I text holds b a k) l/\first l=zB4 k (row t a)
variable {I text holds}
variable {I':List Ins}{R ms ms':List Nat}{b b2 n:Nat}{t t1 t2:zAa}
theorem zKa{s a e:Nat}(h:s∈ms):ReX I text holds ms s a e↔e=a:=by
 constructor
 ·intro q
  cases q with
  |out _=>rfl
  |go h1 _ _=>exact absurd h h1
 ·rintro rfl;exact .out h
theorem zGf{s a e:Nat}(h:s∉ms):ReX I text holds ms s a e↔Ent I text holds ms (wayP I s) a e:=by
 constructor
 ·intro q
  cases q with
  |out h1=>exact absurd h1 h
  |go _ ht hr=>exact⟨_,_,ht,hr⟩
 ·rintro⟨k,s',hs,hr⟩;exact .go h hs hr
theorem zHf{s a:Nat}{k:Kept}{l:List Way}(h:s∉ms)(q:EnX I text holds ms (outs I text holds (wayP I s) a k) l):EnX I text holds ms [(s,a,k)] l:=by
 have:=EnX.go (r:=[]) h q .nil
 rwa [List.append_nil]at this
theorem yAc{s a:Nat}{k:Kept}(h:s∈ms):EnX I text holds ms [(s,a,k)] [(a,k)]:=.out h .nil
theorem zLh(F:Frg I R b ms)(A:Agree I I' R ms)(z:(zA0 I 0).op=6)(z':(zA0 I' 0).op=6)(hms:∀ s,s / 2∈R->(s∈ms'↔s∈ms))(h:SemR I text holds b ms t):SemR I' text holds b ms' t:=λa ha e=>(yGp F A z z' hms).trans (h a ha e)
theorem zLi(F:Frg I R b ms)(A:Agree I I' R ms)(z:(zA0 I 0).op=6)(z':(zA0 I' 0).op=6)(hms:∀ s,s / 2∈R->(s∈ms'↔s∈ms))(h:SemE I text holds b ms t):SemE I' text holds b ms' t:=λa ha k hk=>by
 refine e12 (λl h1 h2=>?_) (h a ha k hk)
 exact⟨l,yGq F A z z' hms h1,h2⟩
theorem yG5(hn:∀ a,a<=text.length->outs I text holds n a zAc=(row t a).map λw=>(2 * n,w.1,kept zAc w.2)):SemR I text holds n [2 * n] t:=by
 intro a ha e
 constructor
 ·rintro⟨k,s,hs,h⟩
  refine e11 (λu hu=>?_) (zPn I text holds zAc hs)
  rw[hn a ha]at hu
  refine e12 (λw hw e1=>?_) (List.mem_map.mp hu)
  simp only[Prod.mk.injEq]at e1
  rw[<-e1.1,zKa (by simp)]at h
  rw[h,<-e1.2.1]
  exact mem_ends.mpr ⟨w.2,hw⟩
 ·intro h
  refine e11 (λk hk=>?_) (mem_ends.mp h)
  exact⟨zAc,(2 * n,e,kept zAc k),by rw[hn a ha];exact List.mem_map.mpr ⟨_,hk,rfl⟩,.out (by simp)⟩
theorem yG6(ok:∀ a,first (row t a)=row t a)(hn:∀ a k,a<=text.length->k.length<=4->outs I text holds n a k=(row t a).map λw=>(2 * n,w.1,kept k w.2)):SemE I text holds n [2 * n] t:=by
 intro a ha k hk
 refine⟨zB4 k (row t a),?_,?_⟩
 ·rw[hn a k ha hk]
  have:∀ l:List Way,EnX I text holds [2 * n] (l.map λw=>(2 * n,w.1,kept k w.2)) (zB4 k l):=by
   intro l
   induction l with
   |nil=>exact .nil
   |cons w r ih=>exact .out (by simp) ih
  exact this _
 ·rw[zBy,ok]
theorem yJ6(F:Frg I R b ms)(A:Agree I I' R ms)(z:(zA0 I 0).op=6)(z':(zA0 I' 0).op=6)(hd:∀ s,s / 2∈R->s∉ms')(hto:∀ s∈ms,wayP I' s=b2)(hA:SemR I text holds b ms t1)(hB:SemR I' text holds b2 ms' t2){a e:Nat}(ha:a<=text.length):Ent I' text holds ms' b a e↔e∈ends (joined (row t1 a) t2):=by
 rw[entR (Lr:=λm e=>Ent I' text holds ms' b2 m e) F A z z' (λs h h'=>absurd h' (hd s h)) (λs hs m e=>by rw[zGf (hd s (F.hm s hs)),hto s hs]),ends_joined]
 constructor
 ·rintro⟨m,h1,h2⟩
  have:=h1.pos.2 ha
  exact⟨m,(hA a ha m).mp h1,(hB m this e).mp h2⟩
 ·rintro⟨m,h1,h2⟩
  have h1:=(hA a ha m).mpr h1
  exact⟨m,h1,(hB m (h1.pos.2 ha) e).mpr h2⟩
theorem zOv{P:Way->List Way->Prop}{l:List Way}(h:∀ w∈l,∃ m,P w m):∃ L:Way->List Way,∀ w∈l,P w (L w):=by
 have:∀ w,∃ m,w∈l->P w m:=λw=>by
  by_cases hw:w∈l
  ·refine e11 (λm hm=>?_) (h w hw);exact⟨m,λU=>hm⟩
  ·exact⟨[],λq=>absurd q hw⟩
 exact⟨λw=>Classical.choose (this w),λw hw=>Classical.choose_spec (this w) hw⟩
theorem zVz(F:Frg I R b ms)(A:Agree I I' R ms)(z:(zA0 I 0).op=6)(z':(zA0 I' 0).op=6)(hd:∀ s,s / 2∈R->s∉ms')(hA:SemE I text holds b ms t1){a:Nat}(ha:a<=text.length){k:Kept}(hk:k.length<=4)(G:Way->List Way)(hG:∀ e k k' x,x∈ends (G (e,k))->x∈ends (G (e,k')))
  (hL:∀ w:Way,w.1∈ends (row t1 a)->w.1<=text.length->w.2.length<=4->∃ m,(∀ s∈ms,EnX I' text holds ms' [(s,w.1,w.2)] m)/\first m=first (G w)) :
  ∃ l,EnX I' text holds ms' (outs I' text holds b a k) l/\first l=first ((zB4 k (row t1 a)).flatMap G):=by
 refine e12 (λl h1 h2=>?_) (hA a ha k hk)
 have hkept:=h1.kept λs hs=>zMu I text holds hk hs
 have hpos:=h1.pos 0 λs hs=>⟨Nat.zero_le _,(zAx I text holds hs).2.2.2 ha⟩
 have hin:∀ w∈l,w.1∈ends (row t1 a):=λw hw=>by
  have:w.1∈ends l:=mem_ends.mpr ⟨w.2,hw⟩
  rw[<-zAv,h2,zCw]at this
  exact this
 refine e11 (λL hL'=>?_) (zOv (P:=λw m=>(∀ s∈ms,EnX I' text holds ms' [(s,w.1,w.2)] m)/\first m=first (G w)) (l:=l) λw hw=>hL w (hin w hw) (hpos w hw).2 (hkept w hw))
 refine⟨l.flatMap L,entE F A z z' (λs h h'=>absurd h' (hd s h)) h1 L λs hs w hw=>(hL' w hw).1 s hs,?_⟩
 rw[zRn (λw hw=>(hL' w hw).2) hG,h2]
theorem yJ7(F:Frg I R b ms)(A:Agree I I' R ms)(z:(zA0 I 0).op=6)(z':(zA0 I' 0).op=6)(hd:∀ s,s / 2∈R->s∉ms')(hto:∀ s∈ms,wayP I' s=b2)(hA:SemE I text holds b ms t1)(hB:SemE I' text holds b2 ms' t2){a:Nat}(ha:a<=text.length){k:Kept}(hk:k.length<=4) :
  ∃ l,EnX I' text holds ms' (outs I' text holds b a k) l/\first l=zB4 k (joined (row t1 a) t2):=by
 rw[zMl]
 refine zVz F A z z' hd hA ha hk (λw=>zB4 w.2 (row t2 w.1)) (λe k k' x h=>by rw[zCw]at h ⊢;exact h) λw U hw hk'=>?_
 refine e12 (λl h1 h2=>?_) (hB w.1 hw w.2 hk')
 refine⟨l,λs hs=>zHf (hd s (F.hm s hs)) (by rw[hto s hs];exact h1),?_⟩
 rw[h2,<-h2,zB5]
theorem zF7(h0:(zA0 I' n).op=0)(a:Nat)(k:Kept):outs I' text holds n a k=[(2 * n,a,k),(2 * n+1,a,k)]:=by unfold outs;rw[if_pos h0]
theorem yHm(h0:(zA0 I' n).op=0){a e:Nat}:Ent I' text holds ms' n a e↔ReX I' text holds ms' (2 * n) a e\/ReX I' text holds ms' (2 * n+1) a e:=by
 constructor
 ·rintro⟨k,s,hs,h⟩
  rw[zF7 h0]at hs
  simp at hs
  rcases hs with rfl|rfl
  ·exact .inl h
  ·exact .inr h
 ·rintro(h|h)
  ·exact⟨zAc,_,by rw[zF7 h0];exact List.mem_cons_self ..,h⟩
  ·exact⟨zAc,(2 * n+1,a,zAc),by rw[zF7 h0];simp,h⟩
structure Opt(I':List Ins)(n b:Nat)(lazy:Bool)(ms':List Nat):Prop where
 op:(zA0 I' n).op=0
 past:zA5 n lazy∈ms'
 back:(if lazy then 2 * n+1 else 2 * n)∉ms'
 way:wayP I' (if lazy then 2 * n+1 else 2 * n)=b
theorem yBj{lazy:Bool}(O:Opt I' n b lazy ms'){a e:Nat}:Ent I' text holds ms' n a e↔e=a\/Ent I' text holds ms' b a e:=by
 rw[yHm O.op]
 have h1:=O.past
 have h2:=O.back
 have h3:=O.way
 cases lazy with
 |true=>
  simp only[zA5,if_true]at h1 h2 h3
  rw[Nat.mul_comm]at h1
  rw[zKa h1,zGf h2,h3]
 |false=>
  simp only[zA5,Bool.false_eq_true,if_false]at h1 h2 h3
  rw[Nat.mul_comm]at h1
  rw[zGf h2,h3,zKa h1]
  exact Or.comm
theorem zOq(x y:List Way):first (x++first y)=first (x++y):=by rw[zAo,zB5,<-zAo]
theorem zRm(x y:List Way):first (first x++y)=first (x++y):=by rw[zAo,zB5,<-zAo]
theorem zTn{lazy:Bool}(O:Opt I' n b lazy ms'){a:Nat}{k:Kept}{l r:List Way}(q1:EnX I' text holds ms' (outs I' text holds b a k) l)(q2:first l=r):∃ m,EnX I' text holds ms' (outs I' text holds n a k) m/\first m=first (if lazy then[(a,k)]++r else r++[(a,k)]):=by
 rw[zF7 O.op,<-q2]
 have h1:=O.past
 have h2:=O.back
 have h3:=O.way
 cases lazy with
 |true=>
  replace h1:n * 2∈ms':=h1
  rw[Nat.mul_comm]at h1
  exact⟨[(a,k)]++l,.out h1 (zHf h2 (h3▸q1)),(zOq ..).symm⟩
 |false=>
  replace h1:n * 2+1∈ms':=h1
  rw[Nat.mul_comm]at h1
  exact⟨l++[(a,k)],EnX.append (S:=[(2 * n,a,k)]) (zHf h2 (h3▸q1)) (yAc h1),(zRm ..).symm⟩
theorem yFp{lazy:Bool}(O:Opt I' n b lazy ms')(hB:SemE I' text holds b ms' t){a:Nat}(ha:a<=text.length){k:Kept}(hk:k.length<=4) :
  ∃ l,EnX I' text holds ms' (outs I' text holds n a k) l/\first l=zB4 k (first (if lazy then[(a,zAc)]++row t a else row t a++[(a,zAc)])):=by
 refine e12 (λl q1 q2=>?_) (hB a ha k hk)
 refine(zTn O q1 q2).imp λm h=>⟨h.1,h.2.trans ?_⟩
 rw[<-zBy]
 cases lazy with
 |true=>exact congrArg first (by rw[if_pos rfl,if_pos rfl,zEg,zDl hk])
 |false=>exact congrArg first (by rw[if_neg Bool.false_ne_true,if_neg Bool.false_ne_true,zEg,zDl hk])
structure Loop(I':List Ins)(R ms:List Nat)(n b:Nat)(lazy:Bool):Prop where
 op:(zA0 I' n).op=0
 way:wayP I' (if lazy then 2 * n+1 else 2 * n)=b
 to:∀ s∈ms,wayP I' s=n
 off:n∉R
theorem zM3(n:Nat)(lazy:Bool):(if lazy then 2 * n+1 else 2 * n)≠zA5 n lazy:=by cases lazy<;>simp[zA5]<;>omega
section
variable {lazy:Bool}(O:Loop I' R ms n b lazy)
include O
theorem Loop.hoff{s:Nat}(hs:s / 2∈R):s∉[zA5 n lazy]:=λh=>by
 rw[List.mem_singleton.mp h,zBf]at hs;exact O.off hs
theorem Loop.opt:Opt I' n b lazy [zA5 n lazy]:=⟨O.op,List.mem_singleton_self _,λh=>zM3 n lazy (List.mem_singleton.mp h),O.way⟩
end
theorem yDm{u:Nat×Nat×Kept}{a:Nat}{k:Kept}(h:u∈[(2 * n,a,k),(2 * n+1,a,k)])(lazy:Bool):(u.1=zA5 n lazy\/u.1=(if lazy then 2 * n+1 else 2 * n))/\u.2.1=a:=by
 have h:u.1=2 * n/\u.2.1=a\/u.1=2 * n+1/\u.2.1=a:=(List.mem_cons.mp h).imp (λe=>by rw[e];exact⟨rfl,rfl⟩) λh=>by rw[List.mem_singleton.mp h];exact⟨rfl,rfl⟩
 cases lazy with
 |true=>exact h.elim (λq=>⟨.inl (q.1.trans n28),q.2⟩) λq=>⟨.inr q.1,q.2⟩
 |false=>exact h.elim (λq=>⟨.inr q.1,q.2⟩) λq=>⟨.inl (q.1.trans (congrArg (·+1) n28)),q.2⟩
section
variable {lazy:Bool}(F:Frg I R b ms)(A:Agree I I' R ms)(z':(zA0 I' 0).op=6)(O:Loop I' R ms n b lazy)
include F A z'
theorem zN1(hA:SemR I text holds b ms t){a e:Nat}{k:Kept}{u:Nat×Nat×Kept}(ha:a<=text.length)(hu:u∈outs I' text holds b a k)(h:u.1 / 2∈R->(u.1 % 2=1->(zA0 I (u.1 / 2)).op=0)->∃ m,ReX I text holds ms u.1 u.2.1 m/\(e=m\/Plus t m e)):Plus t a e:=by
 refine F.hb.elim (λhb=>?_) λhb=>by rw[hb,zAj z']at hu;exact absurd hu List.not_mem_nil
 rw[zAr F A hb]at hu
 have q:=zEi hb hu
 refine e12 (λm q1 q2=>?_) (h q.1 q.2)
 have hm:=(hA a ha m).mp ⟨k,u,hu,q1⟩
 exact q2.elim (λe=>e▸.one hm) (.more hm)
include O
set_option tactic.hygienic true in
theorem zU8(hA:SemR I text holds b ms t){s a e:Nat}(h:ReX I' text holds [zA5 n lazy] s a e):a<=text.length->(s / 2∈R->(s % 2=1->(zA0 I (s / 2)).op=0)->∃ m,ReX I text holds ms s a m/\(e=m\/Plus t m e))/\(s=(if lazy then 2 * n+1 else 2 * n)->Plus t a e):=by
 induction h with
 |out h1=>exact λU=>⟨λh2 U=>absurd h1 (O.hoff h2),λh2=>absurd (h2▸List.mem_singleton.mp h1) (zM3 n lazy)⟩
 |go h1 ht hr ih=>
  rename_i s a k u e
  intro ha
  have ih:=ih ((zAx I' text holds ht).2.2.2 ha)
  refine⟨λhs ho=>?_,λhs=>?_⟩
  ·by_cases hm:s∈ms
   ·rw[O.to s hm,zF7 O.op]at ht
    have c:=yDm ht lazy
    rw[c.2]at hr ih
    exact⟨a,.out hm,c.1.imp (λh=>(zKa (List.mem_singleton.mpr h)).mp hr) ih.2⟩
   ·rw[A.way s hs hm]at ht
    refine(F.cl s hs hm ho).elim (λhR=>?_) λhR=>by rw[hR,zAj z']at ht;exact absurd ht List.not_mem_nil
    rw[zAr F A hR]at ht
    have q:=zEi hR ht
    exact(ih.1 q.1 q.2).imp λm q=>⟨.go hm ht q.1,q.2⟩
  ·rw[hs,O.way]at ht
   exact zN1 F A z' hA ha ht ih.1
theorem yG1(z:(zA0 I 0).op=6)(hA:SemR I text holds b ms t){a e:Nat}(ha:a<=text.length):Ent I' text holds [zA5 n lazy] b a e↔Plus t a e:=by
 have hstep:∀ x y,Ent I' text holds [zA5 n lazy] b x y↔∃ m,Ent I text holds ms b x m/\(y=m\/Ent I' text holds [zA5 n lazy] b m y):=λx y=>
  entR (Lr:=λm e=>e=m\/Ent I' text holds [zA5 n lazy] b m e) F A z z' (λs h h'=>absurd h' (O.hoff h)) (λs hs m e=>by rw[zGf (O.hoff (F.hm s hs)),O.to s hs];exact yBj O.opt)
 refine⟨λh=>h.elim λk h=>h.elim λs h=>zN1 F A z' hA ha h.1 ((zU8 F A z' O hA h.2 ((zAx I' text holds h.1).2.2.2 ha)).1),λh=>?_⟩
 induction h with
 |one h=>exact(hstep _ _).mpr ⟨_,(hA _ ha _).mpr h,.inl rfl⟩
 |more hm h ih=>
  have h1:=(hA _ ha _).mpr hm
  exact(hstep _ _).mpr ⟨_,h1,.inr (ih (h1.pos.2 ha))⟩
end
def zY0(t:zAa)(lazy:Bool)(w:Way):List Way:=if lazy then[w]++zB4 w.2 (row t w.1)else zB4 w.2 (row t w.1)++[w]
theorem zJo{lazy:Bool}{w:Way}{x:Nat}:x∈ends (zY0 t lazy w)↔x=w.1\/x∈ends (row t w.1):=by
 unfold zY0
 cases lazy with
 |true=>rw[if_pos rfl,zA6,List.mem_append,zCw];exact or_congr List.mem_singleton Iff.rfl
 |false=>rw[if_neg Bool.false_ne_true,zA6,List.mem_append,zCw];exact Or.comm.trans (or_congr List.mem_singleton Iff.rfl)
theorem zU7{lazy:Bool}(ok:TabOk text.length t)(hL:text.length<=4)(strict:∀ a,∀ e∈ends (row t a),a<e){a:Nat}(ha:a<=text.length)(k:Kept):zB4 k (row (loops t lazy) a)=first ((zB4 k (row t a)).flatMap (zY0 (loops t lazy) lazy)):=by
 have okT:=zL4 lazy hL ok
 rw[zG0 lazy ok.wf ha,<-zBy]
 congr 1
 unfold zB4
 rw[List.map_flatMap,List.flatMap_map]
 refine zDa λp hp=>?_
 have ej:joined [p] (loops t lazy)=zB4 p.2 (row (loops t lazy) p.1):=by
  unfold joined zBq
  simp only[List.flatMap_cons,List.flatMap_nil,List.append_nil]
  rw[zBy,okT.fst]
 unfold loopOne zY0
 rw[if_pos (strict a p.1 (mem_ends.mpr ⟨p.2,hp⟩)),ej,<-zI0]
 cases lazy with
 |true=>rfl
 |false=>exact List.map_append
theorem yG2{lazy:Bool}(F:Frg I R b ms)(A:Agree I I' R ms)(z:(zA0 I 0).op=6)(z':(zA0 I' 0).op=6)(O:Loop I' R ms n b lazy)(hA:SemE I text holds b ms t)(ok:TabOk text.length t)(hL:text.length<=4)(strict:∀ a,∀ e∈ends (row t a),a<e):SemE I' text holds b [zA5 n lazy] (loops t lazy):=by
 have main:∀ d a,a<=text.length->text.length-a<=d->∀ k:Kept,k.length<=4->∃ l,EnX I' text holds [zA5 n lazy] (outs I' text holds b a k) l/\first l=zB4 k (row (loops t lazy) a):=by
  intro d
  induction d using Nat.strongRecOn with
  |ind d ih=>
   intro a ha hd k hk
   rw[zU7 ok hL strict ha]
   refine zVz F A z z' (λs hs=>O.hoff hs) hA ha hk _ (λe k k' x h=>(zJo (w:=(e,k'))).mpr ((zJo (w:=(e,k))).mp h)) λw hw hwl hwk=>?_
   refine e12 (λlw q1 q2=>?_) (ih (text.length-w.1) (n26 (strict a w.1 hw) hwl hd) w.1 hwl (Nat.le_refl _) w.2 hwk)
   exact(zTn O.opt q1 q2).imp λm h=>⟨λs hs=>zHf (O.hoff (F.hm s hs)) (by rw[O.to s hs];exact h.1),h.2⟩
 exact λa ha k hk=>main _ a ha (Nat.le_refl _) k hk
end
end
section
section
variable {I I':List Ins}{text holds:List Nat}{R ms:List Nat}{b n:Nat}{t:zAa}
structure Cap(I':List Ins)(ms:List Nat)(n b s0 s1:Nat):Prop where
 op0:(zA0 I' n).op=2
 op1:(zA0 I' (n+1)).op=2
 a0:(zA0 I' n).arg-2=s0
 a1:(zA0 I' (n+1)).arg-2=s1
 out:(zA0 I' n).out=b
 to:∀ s∈ms,wayP I' s=n+1
theorem zHt(h:(zA0 I' v).op=2)(a:Nat)(k:Kept):outs I' text holds v a k=[(2 * v,a,kept k (zCm ((zA0 I' v).arg-2) a))]:=by
 unfold outs;rw[h];simp
theorem zVb(h:(zA0 I' v).op=2):Ent I' text holds ms' v a e↔ReX I' text holds ms' (2 * v) a e:=by
 constructor
 ·rintro⟨k,s,hs,q⟩
  rw[zHt h]at hs
  simp at hs;subst hs;exact q
 ·intro q
  exact⟨zAc,_,by rw[zHt h];exact List.mem_cons_self ..,q⟩
theorem yJ8(F:Frg I R b ms)(A:Agree I I' R ms)(z:(zA0 I 0).op=6)(z':(zA0 I' 0).op=6)(C:Cap I' ms n b s0 s1)(h1:n+1∉R)(hA:SemR I text holds b ms t)(ha:a<=text.length):Ent I' text holds [(n+1) * 2] n a e↔e∈ends (row t a):=by
 have hoff:∀ s,s / 2∈R->s∉[(n+1) * 2]:=λs hs h=>by
  rw[List.mem_singleton]at h;subst h;rw[show(n+1) * 2 / 2=n+1 by exact n24]at hs;exact h1 hs
 rw[zVb C.op0,zGf (by simp;exact n70),zB2,C.out]
 rw[entR (Lr:=λm e=>e=m) F A z z' (λs h h'=>absurd h' (hoff s h)) λs hs m e=>?_]
 ·constructor
  ·rintro⟨m,q,rfl⟩;exact(hA a ha _).mp q
  ·intro q;exact⟨e,(hA a ha _).mpr q,rfl⟩
 ·rw[zGf (hoff s (F.hm s hs)),C.to s hs,zVb C.op1,zKa (by simp;exact n71)]
theorem yJ9(F:Frg I R b ms)(A:Agree I I' R ms)(z:(zA0 I 0).op=6)(z':(zA0 I' 0).op=6)(C:Cap I' ms n b s0 s1)(h1:n+1∉R)(hA:SemE I text holds b ms t)(fst:∀ a,first (row t a)=row t a)(ha:a<=text.length)(hk:k.length<=4) :
  ∃ l,EnX I' text holds [(n+1) * 2] (outs I' text holds n a k) l/\first l=zB4 k (group (row t a) a s0 s1):=by
 have hoff:∀ s,s / 2∈R->s∉[(n+1) * 2]:=λs hs h=>by
  rw[List.mem_singleton]at h;subst h;rw[show(n+1) * 2 / 2=n+1 by exact n24]at hs;exact h1 hs
 rw[zHt C.op0,C.a0]
 have hk':(kept k (zCm s0 a)).length<=4:=zEz (by simp[zD2])
 obtain⟨l,q1,q2⟩:=zVz (ms':=[(n+1) * 2]) F A z z' hoff hA ha hk' (λw=>[(w.1,kept w.2 (zCm s1 w.1))]) (λe k k' x h=>by simpa [ends]using h) λw U hw hwk=>by
  refine⟨[(w.1,kept w.2 (zCm s1 w.1))],λs hs=>zHf (hoff s (F.hm s hs)) ?_,rfl⟩
  rw[C.to s hs,zHt C.op1,C.a1]
  exact yAc (by simp;exact n71)
 refine⟨l,zHf (by simp;exact n70) (by rw[zB2,C.out];exact q1),?_⟩
 rw[q2]
 have e:(zB4 (kept k (zCm s0 a)) (row t a)).flatMap (λw=>[(w.1,kept w.2 (zCm s1 w.1))])=zB4 k (group (row t a) a s0 s1):=by
  unfold zB4 group
  rw[List.flatMap_map,List.map_map]
  induction row t a with
  |nil=>rfl
  |cons p r ih=>
   rw[List.flatMap_cons,ih]
   simp[zCv]
 rw[e]
 have eg:group (row t a) a s0 s1=(row t a).map λp=>(p.1,kept (kept (zCm s0 a) p.2) (zCm s1 p.1)):=rfl
 rw[zBy,eg,zIj (g:=λp=>(p.1,kept (kept (zCm s0 a) p.2) (zCm s1 p.1))) (λU=>rfl),fst]
end
theorem zY4(i:Ins)(k v:Nat):(zLa i k v).op=i.op/\(zLa i k v).low=i.low/\(zLa i k v).high=i.high/\(zLa i k v).fold=i.fold:=by unfold zLa;split<;>simp
theorem zDs(h:k / 2<is.length):zA0 (zD5 is k v) j=if j=k / 2 then zLa (zA0 is (k / 2)) k v else zA0 is j:=by unfold zD5;rw[zDr h]
noncomputable def core(i:Ins):Nat×Nat×Nat×Bool:=(i.op,i.low,i.high,i.fold)
set_option tactic.hygienic true in
theorem zIm(h:k / 2<is.length)(j:Nat):core (zA0 (zD5 is k v) j)=core (zA0 is j):=by
 rw[zDs h]
 split
 ·rename_i e;subst e
  refine e04 (λa b c d=>?_) (zY4 (zA0 is (k / 2)) k v)
  simp[core,a,b,c,d]
 ·rfl
theorem zJu:∀{ms:List Nat} {is:List Ins} (t:Nat),(∀ k∈ms,k / 2<is.length)->∀ j,core (zA0 (zAd is ms t) j)=core (zA0 is j)
 |[],_,_,_,_=>rfl
 |k::r,is,t,h,j=>by
  show core (zA0 (zAd (zD5 is k t) r t) j)=_
  rw[zJu t (λk' hk=>by rw[zBg];exact h k' (List.mem_cons_of_mem _ hk)),zIm (h k (List.mem_cons_self ..))]
theorem zEk:∀{ms:List Nat} {is:List Ins} (t:Nat),(∀ k∈ms,k / 2<is.length)->∀ j,(∀ k∈ms,k / 2≠j)->zA0 (zAd is ms t) j=zA0 is j
 |[],_,_,_,_,_=>rfl
 |k::r,is,t,h,j,hj=>by
  show zA0 (zAd (zD5 is k t) r t) j=_
  rw[zEk t (λk' hk=>by rw[zBg];exact h k' (List.mem_cons_of_mem _ hk)) j (λk' hk=>hj k' (List.mem_cons_of_mem _ hk)),zDs (h k (List.mem_cons_self ..)),if_neg (λe=>hj k (List.mem_cons_self ..) e.symm)]
theorem zFm(h:core i=core j):i.op=j.op:=congrArg (·.1) h
theorem zE6(hc:∀ v∈R,core (zA0 I' v)=core (zA0 I v))(hw:∀ s,s / 2∈R->s∉ms->wayP I' s=wayP I s):Agree I I' R ms:=
 ⟨λv hv=>congrArg (·.1) (hc v hv),λv hv=>congrArg (·.2.1) (hc v hv),λv hv=>congrArg (·.2.2.1) (hc v hv),λv hv=>congrArg (·.2.2.2) (hc v hv),hw⟩
theorem Frg.move(F:Frg I R b ms)(A:Agree I I' R ms)(hl:I.length<=I'.length):Frg I' R b ms:=by
 refine⟨F.hb,λv hv=>⟨(F.pos v hv).1,by have:=(F.pos v hv).2;exact n37 this hl⟩,F.hm,λs hs ho=>?_,λs hs hn ho=>?_⟩
 ·rw[A.op _ (F.hm s hs)];exact F.odd s hs ho
 ·rw[A.way s hs hn]
  exact F.cl s hs hn (λh=>by rw[<-A.op _ hs];exact ho h)
theorem Chain.congr(hl:I.length<=I'.length):∀{ms:List Nat} {e:Nat},(∀ s∈ms,wayP I' s=wayP I s)->Chain I e ms->Chain I' e ms
 |[],_,_,c=>c
 |k::r,e,h,⟨c1,c2,c3,c4⟩=>by
  refine⟨c1,c2,Nat.lt_of_lt_of_le c3 hl,?_⟩
  rw[h k (List.mem_cons_self ..)]
  exact Chain.congr hl (λs hs=>h s (List.mem_cons_of_mem _ hs)) c4
theorem Chain.last:∀{I:List Ins} {ms:List Nat} {e:Nat},Chain I e ms->∀ k,ms.getLast?=some k->wayP I k=0
 |_,[],_,_,_,h=>by simp at h
 |_,[k],_,⟨_,_,_,c4⟩,k',h=>by simp at h;subst h;exact c4
 |_,k::k2::r,_,⟨_,_,_,c4⟩,k',h=>Chain.last c4 k' (by simpa using h)
theorem Chain.join:∀{ms1 ms2:List Nat} {e1 e2:Nat} {k:Nat},Chain I e1 ms1->Chain I e2 ms2->ms1.getLast?=some k->e2≠0->k∉ms2->ms1.Nodup->Chain (zD5 I k e2) e1 (ms1++ms2)
 |[],_,_,_,_,_,_,h,_,_,_=>by simp at h
 |[j],ms2,e1,e2,k,⟨c1,c2,c3,c4⟩,d,h,h2,hk,nd=>by
  simp at h;subst h
  refine⟨c1,c2,by rw[zBg];exact c3,?_⟩
  rw[zDk _ c3,if_pos rfl]
  exact d.lead _ c3 hk
 |j::j2::r,ms2,e1,e2,k,⟨c1,c2,c3,c4⟩,d,h,h2,hk,nd=>by
  have h':(j2::r).getLast?=some k:=by simpa using h
  have hkm:k∈j2::r:=List.mem_of_getLast? h'
  rw[List.nodup_cons]at nd
  have hjk:j≠k:=λe=>nd.1 (e▸hkm)
  have hk3:=(Chain.mem c4 k hkm).2
  refine⟨c1,c2,by rw[zBg];exact c3,?_⟩
  rw[zDk _ hk3,if_neg hjk]
  exact Chain.join c4 d h' h2 hk nd.2
end
section
structure Sem(I:List Ins)(text holds:List Nat)(R:List Nat)(it:Item):Prop where
 fr:Frg I R it.part.f.b it.part.ms
 ch:Chain I it.part.f.e0 it.part.ms
 nd:it.part.ms.Nodup
 la:∀ k,it.part.ms.getLast?=some k->it.part.f.e1=k
 none:it.part.f.b=0->it.part.ms=[]/\it.part.f.nl=false/\∀ a,row it.tb a=[]
 ne:it.part.f.b≠0->it.part.ms≠[]
 sh:zAt it.part=it.sh
 tab:TabOk text.length it.tb
 strict:it.part.f.nl=false->∀ a,∀ e∈ends (row it.tb a),a<e
 r:SemR I text holds it.part.f.b it.part.ms it.tb
 e:it.calm=true->SemE I text holds it.part.f.b it.part.ms it.tb
structure Data(i:Ins):Prop where
 range:i.op=1->i.low<=i.high/\i.high<=255
 cap:i.op=2->2<=i.arg
 empty:i.op=3->i.arg≠0/\i.arg&&& 63=i.arg
structure InvR(text holds:List Nat)(I:List Ins)(RI:List (List Nat×Item)):Prop where
 z:(zA0 I 0).op=6
 len:0<I.length
 sem:∀ p∈RI,Sem I text holds p.1 p.2
 dis:RI.Pairwise λp q=>∀ v∈p.1,v∉q.1
 nm:∀ v,(zA0 I v).op≠4
 data:∀ v,v<I.length->Data (zA0 I v)
 gl:∀ s,s / 2<I.length->(s % 2=1->(zA0 I (s / 2)).op=0)->(∃ p∈RI,s∈p.2.part.ms)\/wayP I s<I.length
def Inv(text holds:List Nat)(I:List Ins)(items:List Item):Prop:=∃ RI,RI.map (·.2)=items/\InvR text holds I RI
variable {I I':List Ins}{text holds:List Nat}{R:List Nat}{it:Item}
theorem Sem.move(S:Sem I text holds R it)(h:∀ v∈R,zA0 I' v=zA0 I v)(hl:I.length<=I'.length)(z:(zA0 I 0).op=6)(z':(zA0 I' 0).op=6):Sem I' text holds R it:=by
 have A:Agree I I' R it.part.ms:=Agree.of_eq h
 refine⟨S.fr.move A hl,S.ch.congr hl λs hs=>?_,S.nd,S.la,S.none,S.ne,S.sh,S.tab,S.strict,zLh S.fr A z z' (λU U=>Iff.rfl) S.r,λhc=>zLi S.fr A z z' (λU U=>Iff.rfl) (S.e hc)⟩
 unfold wayP;rw[h _ (S.fr.hm s hs)]
theorem zIg(h:I.length<=v):zA0 I v=opI 6:=by
 unfold zA0;rw[List.getD_eq_getElem?_getD,List.getElem?_eq_none h];rfl
theorem Data.congr(h:Data i)(ho:j.op=i.op)(hl:j.low=i.low)(hh:j.high=i.high)(ha:i.op≠0->j.arg=i.arg):Data j:=by
 refine⟨λh1=>?_,λh1=>?_,λh1=>?_⟩
 ·rw[hl,hh];exact h.range (ho▸h1)
 ·rw[ho]at h1;rw[ha (by omega)];exact h.cap h1
 ·rw[ho]at h1;rw[ha (by omega)];exact h.empty h1
theorem zNp(F:Frg I R b ms)(A:Agree I I' R ms)(hv:v∈R)(h:(zA0 I v).op≠0):(zA0 I' v).arg=(zA0 I v).arg:=by
 rw[<-zCr,<-zCr]
 refine A.way _ (by rw[show(2 * v+1) / 2=v by exact n6];exact hv) λhm=>h ?_
 have:=F.odd _ hm (n36)
 rwa [show(2 * v+1) / 2=v by exact n6]at this
theorem zDv(H:InvR text holds I (RH++RG))(hl:I.length<=I'.length)
  (keep:∀ v,v<I.length->(∀ p∈RG,v∉p.1)->zA0 I' v=zA0 I v) (agr:∀ p∈RG,Agree I I' p.1 p.2.part.ms)
  (sem:(zA0 I' 0).op=6->Sem I' text holds Rn it) (sub:∀ v∈Rn,(∃ p∈RG,v∈p.1)\/I.length<=v)
  (new:∀ v,I.length<=v->v<I'.length->(zA0 I' v).op≠4/\Data (zA0 I' v))
  (glM:∀ p∈RG,∀ s∈p.2.part.ms,s∈it.part.ms\/wayP I' s<I'.length)
  (glN:∀ s,I.length<=s / 2->s / 2<I'.length->(s % 2=1->(zA0 I' (s / 2)).op=0)->s∈it.part.ms\/wayP I' s<I'.length):InvR text holds I' (RH++[(Rn,it)]):=by
 have hpw:=List.pairwise_append.mp H.dis
 have posG:∀ p∈RH++RG,∀ v∈p.1,0<v/\v<I.length:=λp hp v hv=>(H.sem p hp).fr.pos v hv
 have k0:zA0 I' 0=zA0 I 0:=keep 0 H.len λp hp h=>by have:=(posG p (List.mem_append_right _ hp) 0 h).1;exact Nat.not_succ_le_zero 0 this
 have z':(zA0 I' 0).op=6:=by rw[k0];exact H.z
 have kH:∀ p∈RH,∀ v∈p.1,zA0 I' v=zA0 I v:=λp hp v hv=>keep v (posG p (List.mem_append_left _ hp) v hv).2 λq hq h=>hpw.2.2 p hp q hq v hv h
 have opO:∀ v,v<I.length->(zA0 I' v).op=(zA0 I v).op:=λv hv=>by
  by_cases h:∃ p∈RG,v∈p.1
  ·(revert h;refine e12 λp hp h=>?_);exact(agr p hp).op v h
  ·rw[keep v hv λp hp q=>h ⟨p,hp,q⟩]
 refine⟨z',by have:=H.len;exact Nat.lt_of_lt_of_le this hl,λp hp=>?_,?_,λv=>?_,λv hv=>?_,λs hs ho=>?_⟩
 ·rcases List.mem_append.mp hp with hp|hp
  ·exact(H.sem p (List.mem_append_left _ hp)).move (kH p hp) hl H.z z'
  ·rw[List.mem_singleton]at hp;subst hp;exact sem z'
 ·rw[List.pairwise_append]
  refine⟨hpw.1,by simp,λp hp q hq v hv hv'=>?_⟩
  rw[List.mem_singleton]at hq;subst hq
  rcases sub v hv' with⟨g,hg,h⟩|h
  ·exact hpw.2.2 p hp g hg v hv h
  ·have:=(posG p (List.mem_append_left _ hp) v hv).2;omega
 ·by_cases h1:v<I.length
  ·rw[opO v h1];exact H.nm v
  ·by_cases h2:v<I'.length
   ·exact(new v (n11 h1) h2).1
   ·rw[zIg (n11 h2)];decide
 ·by_cases h1:v<I.length
  ·by_cases h:∃ p∈RG,v∈p.1
   ·(revert h;refine e12 λp hp h=>?_)
    have A:=agr p hp
    exact(H.data v h1).congr (A.op v h) (A.low v h) (A.high v h) λh0=>zNp (H.sem p (List.mem_append_right _ hp)).fr A h h0
   ·rw[keep v h1 λp hp q=>h ⟨p,hp,q⟩];exact H.data v h1
  ·exact(new v (n11 h1) hv).2
 ·by_cases h1:s / 2<I.length
  ·by_cases h:∃ p∈RG,s∈p.2.part.ms
   ·(revert h;refine e12 λp hp h=>?_)
    rcases glM p hp s h with h|h
    ·exact .inl ⟨_,List.mem_append_right _ (List.mem_singleton.mpr rfl),h⟩
    ·exact .inr h
   ·have hw:wayP I' s=wayP I s:=by
     by_cases h2:∃ p∈RG,s / 2∈p.1
     ·(revert h2;refine e12 λp hp h2=>?_)
      exact(agr p hp).way s h2 λq=>h ⟨p,hp,q⟩
     ·unfold wayP;rw[keep _ h1 λp hp q=>h2 ⟨p,hp,q⟩]
    rcases H.gl s h1 (λq=>by rw[<-opO _ h1];exact ho q)with⟨p,hp,hm⟩|hm
    ·rcases List.mem_append.mp hp with hp|hp
     ·exact .inl ⟨p,List.mem_append_left _ hp,hm⟩
     ·exact absurd ⟨p,hp,hm⟩ h
    ·exact .inr (by rw[hw];exact n37 hm hl)
  ·rcases glN s (Nat.le_of_not_lt h1) hs ho with h|h
   ·exact .inl ⟨_,List.mem_append_right _ (List.mem_singleton.mpr rfl),h⟩
   ·exact .inr h
theorem Sem.partOk(H:InvR text holds I RI)(S:Sem I text holds R it):PartOk I it.part:=by
 refine⟨S.ch,S.nd,?_,λh=>?_⟩
 ·rcases S.fr.hb with h|h
  ·exact(S.fr.pos _ h).2
  ·rw[h];exact H.len
 ·have hne:it.part.ms≠[]:=λe=>by have:=S.ch;rw[e]at this;exact h this
  have hl:=List.getLast?_eq_some_getLast hne
  rw[S.la _ hl]
  exact(S.ch.mem _ (List.mem_of_getLast? hl)).2
theorem Sem.itemOk(H:InvR text holds I RI)(S:Sem I text holds R it):ItemOk (text.length+1) I it:=
 ⟨S.partOk H,λh=>(S.none h).2.1,S.sh,S.tab.wf⟩
theorem zB9(h:v<I.length):zA0 (I++news) v=zA0 I v:=by
 unfold zA0;rw[List.getD_eq_getElem?_getD,List.getD_eq_getElem?_getD,List.getElem?_append_left h]
theorem zNc(j:Nat):zA0 (I++news) (I.length+j)=news.getD j (opI 6):=by
 unfold zA0;rw[List.getD_eq_getElem?_getD,List.getD_eq_getElem?_getD,List.getElem?_append_right (n38)];simp
theorem zP6(h:s / 2<I.length):wayP (I++news) s=wayP I s:=by unfold wayP;rw[zB9 h]
end
section
variable {I I':List Ins}{text holds:List Nat}{R:List Nat}{RH RG:List (List Nat×Item)}
theorem zC4(h1:∀ a,a<=L->Wf (L+1) (f a))(h2:∀ a,a<=L->first (f a)=f a)(h3:∀ a,a<=L->∀ e∈ends (f a),a<=e):TabOk L ((List.range (L+1)).map f):=by
 refine⟨zN0 λa ha=>h1 a (n20 ha),λa=>?_,λa e he=>?_⟩
 ·rw[zAs];split
  ·exact h2 a (by omega)
  ·rfl
 ·rw[zAs]at he;split at he
  ·exact h3 a (by omega) e he
  ·simp[ends]at he
theorem zNq:Agree I I R ms:=Agree.of_eq λU U=>rfl
theorem zQ4(z:(zA0 I 0).op=6):¬ Ent I text holds ms 0 a e:=by
 rintro⟨k,s,hs,_⟩;rw[zAj z]at hs;simp at hs
theorem zPp(z:(zA0 I 0).op=6)(tab:TabOk text.length t)(h:∀ a,row t a=[])(calm:Bool):Sem I text holds [] ⟨⟨zJb,[]⟩,(true,false),t,calm⟩:=by
 refine⟨⟨.inr rfl,by simp,by simp,by simp,by simp⟩,rfl,by simp,by simp,λU=>⟨rfl,rfl,h⟩,λh=>absurd rfl h,rfl,tab,λU a e he=>?_,λa ha e=>?_,λU a ha k hk=>⟨[],?_,?_⟩⟩
 ·dsimp only at he;rw[h]at he;simp[ends]at he
 ·rw[h];exact⟨λq=>absurd q (zQ4 z),λq=>by simp[ends]at q⟩
 ·show EnX I text holds [] (outs I text holds 0 a k) []
  rw[zAj z];exact .nil
 ·rw[h];rfl
theorem zHy(H:InvR text holds I (RH++RG))(hm:∀ p∈RG,p.2.part.ms=[])(tab:TabOk text.length t)(h:∀ a,row t a=[])(calm:Bool):InvR text holds I (RH++[([],⟨⟨zJb,[]⟩,(true,false),t,calm⟩)]):=by
 refine zDv H (Nat.le_refl _) (λU U U=>rfl) (λU U=>zNq) (λz=>zPp z tab h calm) (by simp) (λv h1 h2=>n27 h2 h1) (λp hp s hs=>?_) (λs h1 h2=>n61 h2 h1)
 rw[hm p hp]at hs;simp at hs
theorem zMi(H:InvR text holds I (RH++RG))(hg:g∈RG)(hm:∀ p∈RG,p.2.part.ms=[]\/p=g)(tab:TabOk text.length t)(h:∀ a,row t a=row g.2.tb a)(hc:calm=true->g.2.calm=true):InvR text holds I (RH++[(g.1,⟨g.2.part,g.2.sh,t,calm⟩)]):=by
 have S:=H.sem g (List.mem_append_right _ hg)
 refine zDv H (Nat.le_refl _) (λU U U=>rfl) (λU U=>zNq) (λz=>?_) (λv hv=>.inl ⟨g,hg,hv⟩) (λv h1 h2=>n27 h2 h1) (λp hp s hs=>?_) (λs h1 h2=>n61 h2 h1)
 ·refine⟨S.fr,S.ch,S.nd,S.la,λhb=>⟨(S.none hb).1,(S.none hb).2.1,λa=>by rw[h];exact(S.none hb).2.2 a⟩,S.ne,S.sh,tab,λhn a e he=>S.strict hn a e (by rw[<-h];exact he),λa ha e=>?_,λhcl a ha k hk=>?_⟩
  ·rw[h];exact S.r a ha e
  ·rw[h];exact S.e (hc hcl) a ha k hk
 ·rcases hm p hp with h1|h1
  ·rw[h1]at hs;simp at hs
  ·subst h1;exact .inl hs
theorem zHz(H:InvR text holds I (RH++RG))(hm:∀ p∈RG,p.2.part.ms=[])(tab:TabOk text.length t)(strict:nl=false->∀ a,∀ e∈ends (row t a),a<e)(op0:i.op≠0)(op4:i.op≠4)(out:i.out=0)(hd:Data i)
  (hout:∀(J:List Ins) n,zA0 J n=i->∀ a k,a<=text.length->k.length<=4->outs J text holds n a k=(row t a).map λw=>(2 * n,w.1,kept k w.2)) :
  InvR text holds (I++[i]) (RH++[([I.length],⟨⟨oneF I.length (I.length * 2) nl,[I.length * 2]⟩,(false,nl),t,calm⟩)]):=by
 have hn:zA0 (I++[i]) I.length=i:=by rw[zB1,if_pos rfl]
 have hl:=H.len
 have half:I.length * 2 / 2=I.length:=n34
 have hw:wayP (I++[i]) (I.length * 2)=0:=by rw[Nat.mul_comm,zB2,hn,out]
 refine zDv H (by simp) (λv hv U=>zB9 hv) (λp hp=>Agree.of_eq λv hv=>zB9 ((H.sem p (List.mem_append_right _ hp)).fr.pos v hv).2) (λz=>?_) (λv hv=>.inr (by simp at hv;exact n3 hv)) (λv h1 h2=>?_) (λp hp s hs=>by rw[hm p hp]at hs;simp at hs) (λs h1 h2 ho=>?_)
 ·refine⟨⟨.inl (by simp[oneF]),λv hv=>?_,λs hs=>?_,λs hs h1=>?_,λs hs h1 h2=>?_⟩,⟨rfl,by omega,by rw[half];simp,hw⟩,by simp,λk hk=>by simpa [oneF]using hk,λh=>by(have h:I.length=0:=h);omega,by simp,?_,tab,strict,?_,λU=>?_⟩
  ·simp at hv;subst hv;simp;exact Nat.zero_lt_of_lt hl
  ·simp at hs;subst hs;rw[half];simp
  ·simp at hs;omega
  ·simp at hs h1
   exact absurd (h2 (by omega)) (by rw[hs,hn];exact op0)
  ·show(decide (I.length=0),nl)=(false,nl)
   rw[decide_eq_false (n14 hl)]
  ·have:=yG5 (I:=I++[i]) (text:=text) (holds:=holds) (n:=I.length) (t:=t) λa ha=>hout _ _ hn a zAc ha (by simp[zAc])
   rw[Nat.mul_comm]at this
   exact this
  ·have:=yG6 (I:=I++[i]) (text:=text) (holds:=holds) (n:=I.length) (t:=t) tab.fst λa k ha hk=>hout _ _ hn a k ha hk
   rw[Nat.mul_comm]at this
   exact this
 ·have:v=I.length:=by simp at h2;exact Nat.eq_of_le_of_lt_succ h1 h2
  subst this
  rw[hn];exact⟨op4,hd⟩
 ·have h3:s / 2=I.length:=by simp at h2;exact Nat.eq_of_le_of_lt_succ h1 h2
  rw[h3,hn]at ho
  left
  simp
  have:¬ s % 2=1:=λh=>op0 (ho h)
  omega
theorem zDw:e∈ends [(a,zAc)]↔e=a:=by simp[ends]
theorem zFj(ts:List zAa)(r:Row)(text holds:List Nat):meant .range ts r text holds=(List.range (text.length+1)).map λa=>if zC9 r.lo r.hi r.fold text a then[(a+1,zAc)]else[]:=rfl
theorem zI9(ts:List zAa)(r:Row)(text holds:List Nat):meant .empty ts r text holds=(List.range (text.length+1)).map λa=>if zDd r.bits holds a then[(a,zAc)]else[]:=rfl
set_option tactic.hygienic true in
theorem zQw(H:InvR text holds I (RH++[]))(tk:TextOk text holds)(hr:RowOk rev r):∃ Rn,InvR text holds (made I .range [] r rev).1 (RH++[(Rn,zBp I .range [] r rev text holds)]):=by
 refine⟨_,zHz H (by simp) (i:=⟨1,0,0,r.lo,r.hi,r.fold⟩) (nl:=false) (calm:=zD3 .range []) (t:=meant .range [] r text holds) ?_ ?_ (by simp) (by simp) rfl ⟨λU=>hr.rng,λh=>by simp at h,λh=>by simp at h⟩ ?_⟩
 ·rw[zFj]
  refine zC4 (λa ha=>?_) (λa ha=>?_) (λa ha e he=>?_)
  ·split
   ·rename_i h;simp[zC9]at h
    exact⟨by simp,λp hp=>by simp at hp;subst hp;exact⟨by dsimp only;omega,by simp[zAc]⟩⟩
   ·exact .nil
  ·split<;>rfl
  ·split at he
   ·simp[ends]at he;exact n22 he
   ·simp[ends]at he
 ·intro _ a e he
  rw[zFj,zAs]at he
  split at he
  ·split at he
   ·simp[ends]at he;exact n9 he
   ·simp[ends]at he
  ·simp[ends]at he
 ·intro J n hn a k ha hk
  rw[zFj,zAs,if_pos (n1 ha)]
  unfold outs
  rw[hn]
  simp
  split<;>simp[zG4 hk]
theorem zQy(H:InvR text holds I (RH++[]))(tk:TextOk text holds)(hr:RowOk rev r):∃ Rn,InvR text holds (made I .empty [] r rev).1 (RH++[(Rn,zBp I .empty [] r rev text holds)]):=by
 refine⟨_,zHz H (by simp) (i:=⟨3,0,r.bits,0,0,false⟩) (nl:=true) (calm:=zD3 .empty []) (t:=meant .empty [] r text holds) ?_ (by simp) (by simp) (by simp) rfl ⟨λh=>by simp at h,λh=>by simp at h,λU=>hr.bits⟩ ?_⟩
 ·rw[zI9]
  refine zC4 (λa ha=>?_) (λa ha=>?_) (λa ha e he=>?_)
  ·split
   ·exact⟨by simp,zFt (n1 ha)⟩
   ·exact .nil
  ·split<;>rfl
  ·split at he
   ·rw[zDw]at he;exact n3 he
   ·simp[ends]at he
 ·intro J n hn a k ha hk
  rw[zI9,zAs,if_pos (n1 ha)]
  unfold outs
  rw[hn]
  simp
  cases h:zDd r.bits holds a<;>simp[zG4 hk]
def nopT(text:List Nat):zAa:=(List.range (text.length+1)).map λa=>[(a,zAc)]
theorem yBm(tk:TextOk text holds):TabOk text.length (nopT text):=zC4 (λa ha=>⟨by simp,zFt (n1 ha)⟩) (λU U=>rfl) (λa U e he=>by rw[zDw]at he;exact n3 he)
theorem zKj(H:InvR text holds I (RH++RG))(hm:∀ p∈RG,p.2.part.ms=[])(tk:TextOk text holds)(calm:Bool):InvR text holds (nopP I).1 (RH++[([I.length],⟨(nopP I).2,(false,true),nopT text,calm⟩)]):=by
 refine zHz H hm (i:=opI 5) (nl:=true) (yBm tk) (by simp) (by simp[opI]) (by simp[opI]) rfl ⟨λh=>by simp[opI]at h,λh=>by simp[opI]at h,λh=>by simp[opI]at h⟩ ?_
 intro J n hn a k ha hk
 unfold nopT
 rw[zAs,if_pos (n1 ha)]
 unfold outs
 rw[hn]
 simp[opI,zG4 hk]
end
section
variable {I I':List Ins}{text holds:List Nat}{R:List Nat}{RH RG:List (List Nat×Item)}
structure PatchOk(I I':List Ins)(R ms:List Nat)(t:Nat):Prop where
 len:I'.length=I.length
 off:∀ v,v∉R->zA0 I' v=zA0 I v
 core:∀ v,core (zA0 I' v)=core (zA0 I v)
 way:∀ s,wayP I' s=if s∈ms then t else wayP I s
theorem zHn(hm:∀ s∈ms,s / 2∈R)(hl:∀ s∈ms,s / 2<I.length)(t:Nat):PatchOk I (zAd I ms t) R ms t:=
 ⟨zAh ..,λv hv=>zEk t hl v λk hk e=>hv (e▸hm k hk),zJu t hl,zGh t hl⟩
theorem PatchOk.agree(P:PatchOk I I' R ms t):Agree I I' R' ms:=
 zE6 (λv U=>P.core v) λs U h=>by rw[P.way,if_neg h]
theorem PatchOk.agree_off(P:PatchOk I I' R ms t)(h:∀ v∈R',v∉R):Agree I I' R' ms':=Agree.of_eq λv hv=>P.off v (h v hv)
theorem yFx(t1 t2:zAa)(r:Row)(text holds:List Nat):meant .cat [t1,t2] r text holds=(List.range (text.length+1)).map λa=>joined (row t1 a) t2:=rfl
theorem yD2(tk:TextOk text holds)(k1:TabOk text.length t1)(k2:TabOk text.length t2):TabOk text.length ((List.range (text.length+1)).map λa=>joined (row t1 a) t2):=by
 have:=tk.len
 refine zC4 (λa ha=>zG5 (n2 this) k2.wf) (λa ha=>zB5 _) (λa ha e he=>?_)
 refine e12 (λm h1 h2=>?_) (ends_joined.mp he)
 have:=k1.mono a m h1
 have:=k2.mono m e h2
 omega
theorem zKy(h:(zA0 I v).op=5)(a:Nat)(k:Kept):outs I text holds v a k=[(2 * v,a,k)]:=by unfold outs;rw[h];simp
theorem zOt(h:(zA0 I v).op=5):Ent I text holds ms v a e↔ReX I text holds ms (2 * v) a e:=by
 constructor
 ·rintro⟨k,s,hs,q⟩
  rw[zKy h]at hs
  simp at hs;subst hs;exact q
 ·intro q;exact⟨zAc,_,by rw[zKy h];exact List.mem_cons_self ..,q⟩
theorem zPo(z:(zA0 I 0).op=6)(S:Sem I text holds R a)(h0:a.part.f.b≠0)(hI:(zA0 I' a.part.f.b).op=(zA0 I a.part.f.b).op)(hn:zE9 I' a.part.f=true):a.part.f.nl=true/\2 * a.part.f.b∈a.part.ms/\(zA0 I' a.part.f.b).op=5:=by
 unfold zE9 at hn
 simp only[Bool.and_eq_true,decide_eq_true_eq]at hn
 (revert hn;refine e03 λh5 he0 U=>?_)
 have hm:2 * a.part.f.b∈a.part.ms:=by
  have hc:=S.ch
  have hne:=S.ne h0
  refine e21 (λk r h=>?_) (zOc hne)
  rw[h]at hc ⊢
  have:a.part.f.e0=k:=hc.1
  rw[<-this,he0,Nat.mul_comm];exact List.mem_cons_self ..
 refine⟨?_,hm,h5⟩
 cases hz:a.part.f.nl with
 |true=>rfl
 |false=>
  have h5':=hI.symm.trans h5
  have:Ent I text holds a.part.ms a.part.f.b 0 0:=(zOt h5').mpr (.out hm)
  have:=S.strict hz 0 0 ((S.r 0 (Nat.zero_le _) 0).mp this)
  omega
theorem zH6{P:α->Prop}(h:P a)(k:P b):∀ p∈[a,b],P p:=λp q=>(List.mem_cons.mp q).elim (λe=>e.symm▸h) λq=>(List.mem_singleton.mp q).symm▸k
theorem InvR.two(H:InvR text holds I (RH++[(Ra,a),(Rb,b)])):Sem I text holds Ra a/\Sem I text holds Rb b/\∀ v∈Ra,v∉Rb:=
 ⟨H.sem _ (List.mem_append_right _ (List.mem_cons_self ..)),H.sem _ (List.mem_append_right _ (List.mem_cons_of_mem _ (List.mem_cons_self ..))),(List.pairwise_cons.mp (List.pairwise_append.mp H.dis).2.1).1 _ (List.mem_cons_self ..)⟩
section
variable {it:Item}{t:zAa}(H:InvR text holds I (RH++[(Ra,a),(Rb,b)]))
include H
theorem zYy(hI:I'=zAd (zAd I a.part.ms 0) b.part.ms 0)(S:(zA0 I' 0).op=6->Sem I' text holds [] it):InvR text holds I' (RH++[([],it)]):=by
 refine e03 (λSa Sb dab=>?_) H.two
 have P1:=zHn (R:=Ra) Sa.fr.hm (λs hs=>(Sa.ch.mem s hs).2) 0
 have P2:PatchOk (zAd I a.part.ms 0) I' Rb b.part.ms 0:=hI.symm▸zHn Sb.fr.hm (λs hs=>by rw[P1.len];exact(Sb.ch.mem s hs).2) 0
 have hlen:=P2.len.trans P1.len
 refine zDv H (n3 hlen) (λv hv h=>?_) (zH6 ?_ ?_) S (λU h=>absurd h List.not_mem_nil) (λv h1 h2=>by rw[hlen]at h2;exact n27 h2 h1) (zH6 (λs hs=>.inr ?_) λs hs=>.inr ?_) (λs h1 h2=>by rw[hlen]at h2;omega)
 ·rw[P2.off v (h _ (List.mem_cons_of_mem _ (List.mem_cons_self ..))),P1.off v (h _ (List.mem_cons_self ..))]
 ·refine zE6 (λv U=>(P2.core v).trans (P1.core v)) λs hs hn=>?_
  rw[P2.way,P1.way,if_neg (λh=>dab _ hs (Sb.fr.hm s h)),if_neg hn]
 ·refine zE6 (λv U=>(P2.core v).trans (P1.core v)) λs hs hn=>?_
  rw[P2.way,P1.way,if_neg hn,if_neg (λh=>dab _ (Sa.fr.hm s h) hs)]
 ·rw[P2.way,P1.way,if_pos hs,ite_self,hlen];exact H.len
 ·rw[P2.way,if_pos hs,hlen];exact H.len
theorem yD3(h0:a.part.f.b=0\/b.part.f.b=0)(x:Nat):joined (row a.tb x) b.tb=[]:=by
 refine e03 (λSa Sb U=>?_) H.two
 refine h0.elim (λh=>by rw[(Sa.none h).2.2];rfl) λh=>?_
 unfold joined zBq
 rw[show((row a.tb x).flatMap λp=>zB4 p.2 (row b.tb p.1))=[] from List.flatMap_eq_nil_iff.mpr λp U=>by rw[(Sb.none h).2.2];rfl];rfl
structure CatIt(text:List Nat)(a b it:Item):Prop where
 ms:it.part.ms=b.part.ms
 e0:it.part.f.e0=b.part.f.e0
 e1:it.part.f.e1=b.part.f.e1
 nl:it.part.f.nl=(a.part.f.nl&&b.part.f.nl)
 b0:it.part.f.b≠0
 sh:zAt it.part=it.sh
 tab:TabOk text.length it.tb
 row:∀ x,row it.tb x=if x<text.length+1 then joined (row a.tb x) b.tb else[]
 calm:it.calm=true->a.calm=true/\b.calm=true
theorem zRw(C:CatIt text a b it)(h:it.part.f.nl=false)(x:Nat):∀ e∈ends (row it.tb x),x<e:=by
 refine e03 (λSa Sb U=>?_) H.two
 intro e he
 rw[C.row]at he
 by_cases hx:x<text.length+1
 ·rw[if_pos hx]at he
  refine e12 (λm h1 h2=>?_) (ends_joined.mp he)
  exact(Bool.and_eq_false_iff.mp (C.nl.symm.trans h)).elim (λh=>Nat.lt_of_lt_of_le (Sa.strict h x m h1) (Sb.tab.mono m e h2)) λh=>Nat.lt_of_le_of_lt (Sa.tab.mono x m h1) (Sb.strict h m e h2)
 ·rw[if_neg hx]at he;exact absurd he List.not_mem_nil
variable (P:PatchOk I I' Ra a.part.ms b.part.f.b)
include P
theorem zVq(hb0:b.part.f.b≠0)(C:CatIt text a b it)(hb:it.part.f.b∈Ra++Rb)(r:(zA0 I' 0).op=6->SemR I' text holds it.part.f.b b.part.ms it.tb)(e:(zA0 I' 0).op=6->a.calm=true->b.calm=true->SemE I' text holds it.part.f.b b.part.ms it.tb):InvR text holds I' (RH++[(Ra++Rb,it)]):=by
 refine e03 (λSa Sb dab=>?_) H.two
 have dba:∀ v∈Rb,v∉Ra:=λv h1 h2=>dab v h2 h1
 have hbR:=Sb.fr.hb.resolve_right hb0
 have hlen:=P.len
 have gM:∀ s∈a.part.ms,wayP I' s<I'.length:=λs hs=>by rw[P.way,if_pos hs,hlen];exact(Sb.fr.pos _ hbR).2
 refine zDv H (n3 hlen) (λv U h=>P.off v (h _ (List.mem_cons_self ..))) (zH6 P.agree (P.agree_off dba)) (λz=>?_) (λv hv=>(List.mem_append.mp hv).elim (λh=>.inl ⟨_,List.mem_cons_self ..,h⟩) λh=>.inl ⟨_,List.mem_cons_of_mem _ (List.mem_cons_self ..),h⟩) (λv h1 h2=>n64 h2 hlen h1) (zH6 (λs hs=>.inr (gM s hs)) λs hs=>.inl (C.ms.symm▸hs)) (λs h1 h2=>n65 h2 hlen h1)
 have Sm:=Sb.move (λv hv=>P.off v (dba v hv)) (n3 hlen) H.z z
 refine⟨?_,by rw[C.ms,C.e0];exact Sm.ch,by rw[C.ms];exact Sm.nd,by rw[C.ms,C.e1];exact Sm.la,λh=>absurd h C.b0,λU=>by rw[C.ms];exact Sm.ne hb0,C.sh,C.tab,zRw H C,by rw[C.ms];exact r z,λhc=>by rw[C.ms];exact e z (C.calm hc).1 (C.calm hc).2⟩
 rw[C.ms]
 refine⟨.inl hb,λv hv=>(List.mem_append.mp hv).elim (λh=>?_) (Sm.fr.pos v),λs hs=>List.mem_append_right _ (Sm.fr.hm s hs),Sm.fr.odd,λs hs hsn ho=>(List.mem_append.mp hs).elim (λh=>?_) λh=>(Sm.fr.cl s h hsn ho).imp (List.mem_append_right _) id⟩
 ·rw[hlen];exact Sa.fr.pos v h
 ·by_cases hsa:s∈a.part.ms
  ·rw[P.way,if_pos hsa];exact .inl (List.mem_append_right _ hbR)
  ·rw[P.way,if_neg hsa]
   exact(Sa.fr.cl s h hsa λq=>by rw[<-zFm (P.core _)];exact ho q).imp (List.mem_append_left _) id
theorem zLq(C:CatIt text a b it)(z:(zA0 I' 0).op=6):SemR I' text holds a.part.f.b b.part.ms it.tb/\(a.calm=true->b.calm=true->SemE I' text holds a.part.f.b b.part.ms it.tb):=by
 refine e03 (λSa Sb dab=>?_) H.two
 have off:∀ s,s / 2∈Ra->s∉b.part.ms:=λs hs h=>dab _ hs (Sb.fr.hm s h)
 have to:∀ s∈a.part.ms,wayP I' s=b.part.f.b:=λs hs=>by rw[P.way,if_pos hs]
 have Sm:=Sb.move (λv hv=>P.off v λh=>dab v h hv) (n3 P.len) H.z z
 refine⟨λx hx e=>?_,λca cb x hx k hk=>?_⟩
 ·rw[C.row,if_pos (n1 hx)];exact yJ6 Sa.fr P.agree H.z z off to Sa.r Sm.r hx
 ·rw[C.row,if_pos (n1 hx)];exact yJ7 Sa.fr P.agree H.z z off to (Sa.e ca) (Sm.e cb) hx hk
theorem yD4(ha0:a.part.f.b≠0)(hn:zE9 I' a.part.f=true):a.part.f.nl=true/\(SemR I' text holds a.part.f.b b.part.ms t->SemR I' text holds b.part.f.b b.part.ms t)/\(SemE I' text holds a.part.f.b b.part.ms t->SemE I' text holds b.part.f.b b.part.ms t):=by
 refine e03 (λSa Sb dab=>?_) H.two
 refine e03 (λhnl hm2 h5=>?_) (zPo H.z Sa ha0 (zFm (P.core _)) hn)
 have hw2:wayP I' (2 * a.part.f.b)=b.part.f.b:=by rw[P.way,if_pos hm2]
 have hno:2 * a.part.f.b∉b.part.ms:=λh=>dab _ (Sa.fr.hm _ hm2) (Sb.fr.hm _ h)
 refine⟨hnl,λq x hx e=>?_,λq x hx k hk=>?_⟩
 ·rw[<-q x hx e,zOt h5,zGf hno,hw2]
 ·refine e12 (λl q1 q2=>⟨l,?_,q2⟩) (q x hx k hk)
  rw[zKy h5]at q1
  exact hw2▸zZi hno q1
end
theorem yD5(H:InvR text holds I (RH++[(Ra,a),(Rb,b)]))(hsh:zMm .cat [a.sh,b.sh]=sh)(tab:TabOk text.length t)(hr:∀ x,row t x=if x<text.length+1 then joined (row a.tb x) b.tb else[])(hc:calm=true->a.calm=true/\b.calm=true):∃ Rn,InvR text holds (catP I a.part b.part).1 (RH++[(Rn,⟨(catP I a.part b.part).2,sh,t,calm⟩)]):=by
 refine e03 (λSa Sb U=>?_) H.two
 replace hsh:((a.sh.1||b.sh.1),!(a.sh.1||b.sh.1)&&(a.sh.2&&b.sh.2))=sh:=hsh
 rw[<-Sa.sh,<-Sb.sh]at hsh
 by_cases h0:a.part.f.b=0\/b.part.f.b=0
 ·rw[show catP I a.part b.part=_ from if_pos h0]
  rw[show sh=(true,false) by rw[<-hsh];unfold zAt;rcases h0 with h|h<;>simp[h]]
  refine⟨[],zYy H rfl λz=>zPp z tab (λx=>?_) _⟩
  rw[hr,yD3 H h0,ite_self]
 ·have ha0:a.part.f.b≠0:=λh=>h0 (.inl h)
  have hb0:b.part.f.b≠0:=λh=>h0 (.inr h)
  have P:=zHn (R:=Ra) Sa.fr.hm (λs hs=>(Sa.ch.mem s hs).2) b.part.f.b
  rw[show catP I a.part b.part=_ from if_neg h0]
  generalize zAd I a.part.ms b.part.f.b=I' at P ⊢
  replace hsh:(false,a.part.f.nl&&b.part.f.nl)=sh:=by rw[<-hsh];unfold zAt;simp[ha0,hb0]
  subst hsh
  refine⟨Ra++Rb,?_⟩
  dsimp only
  by_cases hn:zE9 I' a.part.f=true
  ·rw[if_pos hn]
   refine e03 (λhnl q1 q2=>?_) (yD4 (t:=t) H P ha0 hn)
   have C:CatIt text a b ⟨b.part,(false,a.part.f.nl&&b.part.f.nl),t,calm⟩:=⟨rfl,rfl,rfl,by rw[hnl];rfl,hb0,by rw[hnl];unfold zAt;rw[decide_eq_false hb0];rfl,tab,hr,hc⟩
   exact zVq H P hb0 C (List.mem_append_right _ (Sb.fr.hb.resolve_right hb0)) (λz=>q1 (zLq H P C z).1) λz ca cb=>q2 ((zLq H P C z).2 ca cb)
  ·rw[if_neg hn]
   have C:CatIt text a b ⟨⟨⟨a.part.f.b,b.part.f.e0,b.part.f.e1,a.part.f.nl&&b.part.f.nl⟩,b.part.ms⟩,(false,a.part.f.nl&&b.part.f.nl),t,calm⟩:=⟨rfl,rfl,rfl,rfl,ha0,by unfold zAt;rw[decide_eq_false ha0],tab,hr,hc⟩
   exact zVq H P hb0 C (List.mem_append_left _ (Sa.fr.hb.resolve_right ha0)) (λz=>(zLq H P C z).1) λz=>(zLq H P C z).2
theorem zWn(H:InvR text holds I (RH++[(Ra,a),(Rb,b)]))(tk:TextOk text holds)(r:Row)(rev:Bool):∃ Rn,InvR text holds (made I .cat [a.part,b.part] r rev).1 (RH++[(Rn,zBp I .cat [a,b] r rev text holds)]):=
 yD5 H rfl (H.two.elim λSa q=>yD2 tk Sa.tab q.1.tab) (λx=>zAs _) λh=>by simpa [zD3]using h
end
section
variable {I I':List Ins}{text holds:List Nat}{R:List Nat}{RH RG:List (List Nat×Item)}
def optT(text:List Nat)(t:zAa)(lazy:Bool):zAa:=(List.range (text.length+1)).map λa=>first (if lazy then[(a,zAc)]++row t a else row t a++[(a,zAc)])
def zY1(text:List Nat)(t:zAa)(lazy:Bool):zAa:=(List.range (text.length+1)).map (row (loops t lazy))
theorem yDy(t:zAa)(r:Row)(text holds:List Nat):meant .plus [t] r text holds=zY1 text t r.lazy:=rfl
theorem yBq(t:zAa)(r:Row)(text holds:List Nat):meant .quest [t] r text holds=optT text t r.lazy:=rfl
theorem yDx(t:zAa)(r:Row)(text holds:List Nat):meant .star [t] r text holds=optT text (loops t r.lazy) r.lazy:=rfl
theorem opt_ends{lazy:Bool}{a e:Nat}:e∈ends (first (if lazy then[(a,zAc)]++row t a else row t a++[(a,zAc)]))↔e=a\/e∈ends (row t a):=by
 rw[zAv]
 cases lazy
 ·simp only[Bool.false_eq_true,if_false];rw[zA6,List.mem_append,zDw];exact Or.comm
 ·simp only[if_true];rw[zA6,List.mem_append,zDw]
theorem zTm(tk:TextOk text holds)(k:TabOk text.length t):TabOk text.length (optT text t lazy):=by
 have:=tk.len
 refine zC4 (λa ha=>?_) (λa ha=>zB5 _) (λa ha e he=>?_)
 ·have hr:=(zCi k.wf a).2
  split
  ·exact zG6 (n2 this) (zJ6 (zFt (n1 ha)) hr)
  ·exact zG6 (n2 this) (zJ6 hr (zFt (n1 ha)))
 ·rcases opt_ends.mp he with h|h
  ·exact n3 h
  ·exact k.mono a e h
theorem zXz(tk:TextOk text holds)(k:TabOk text.length t):TabOk text.length (zY1 text t lazy):=by
 have kT:=zL4 lazy tk.len k
 exact zC4 (λa U=>zCi kT.wf a) (λa U=>kT.fst a) (λa U=>kT.mono a)
theorem zJn(k:TabOk text.length t)(h:∀ a,row t a=[])(a:Nat):row (loops t lazy) a=[]:=by
 by_cases ha:a<=text.length
 ·rw[zG0 lazy k.wf ha,h];rfl
 ·exact zIa lazy k.wf ha
theorem Plus.lt(ok:TabOk L t)(strict:∀ a,∀ e∈ends (row t a),a<e)(h:Plus t a e):a<e:=by
 cases h with
 |one h=>exact strict _ _ h
 |more hm h=>have:=strict _ _ hm;have:=h.le ok;omega
theorem Sem.e0(S:Sem I text holds R it)(h:it.part.f.b≠0):it.part.f.e0≠0:=by
 have hc:=S.ch
 refine e21 (λk q h=>?_) (zOc (S.ne h))
 rw[h]at hc;rw[hc.1];exact hc.2.1
theorem yH8{i:Ins}(h:i.op=0):i.op≠4/\Data i:=⟨by rw[h];decide,λq=>absurd (h.symm.trans q) (by decide),λq=>absurd (h.symm.trans q) (by decide),λq=>absurd (h.symm.trans q) (by decide)⟩
structure AppOk(I I' news:List Ins)(R ms:List Nat)(t:Nat):Prop where
 len:I'.length=I.length+news.length
 off:∀ v,v<I.length->v∉R->zA0 I' v=zA0 I v
 core:∀ v,v<I.length->core (zA0 I' v)=core (zA0 I v)
 way:∀ s,s / 2<I.length->wayP I' s=if s∈ms then t else wayP I s
 new:∀ j,zA0 I' (I.length+j)=news.getD j (opI 6)
theorem zW6(hm:∀ s∈ms,s / 2∈R)(hl:∀ s∈ms,s / 2<I.length)(hR:∀ v∈R,v<I.length)(t:Nat):AppOk I (zAd (I++news) ms t) news R ms t:=by
 have P:PatchOk (I++news) (zAd (I++news) ms t) R ms t:=zHn hm (λs hs=>by have:=hl s hs;simp;exact Nat.lt_add_right _ this) t
 refine⟨by rw[P.len];simp,λv hv h=>?_,λv hv=>?_,λs hs=>?_,λj=>?_⟩
 ·rw[P.off v h,zB9 hv]
 ·rw[P.core,zB9 hv]
 ·rw[P.way,zP6 hs]
 ·rw[P.off _ (λh=>by have:=hR _ h;omega),zNc]
theorem zJw(n b:Nat)(lazy:Bool)(h:zA0 I' n=zBs b lazy):(zA0 I' n).op=0/\wayP I' (if lazy then 2 * n+1 else 2 * n)=b/\wayP I' (zA5 n lazy)=0:=by
 cases lazy with
 |true=>
  simp only[if_true,zA5]
  rw[zCr,Nat.mul_comm,zB2,h];exact⟨rfl,rfl,rfl⟩
 |false=>
  simp only[Bool.false_eq_true,if_false,zA5]
  rw[show n * 2+1=2 * n+1 by omega,zCr,zB2,h];exact⟨rfl,rfl,rfl⟩
theorem zKu(h:s / 2=n):s=zA5 n lazy\/s=(if lazy then 2 * n+1 else 2 * n):=by
 cases lazy<;>simp[zA5]<;>omega
theorem zN2(H:InvR text holds I (RH++[(Ra,a)]))(tk:TextOk text holds)(ha0:a.part.f.b≠0)(lazy:Bool)(hms:it.part.ms=[zA5 I.length lazy])(he:it.part.f.e0=zA5 I.length lazy/\it.part.f.e1=zA5 I.length lazy)(hb:it.part.f.b=a.part.f.b\/it.part.f.b=I.length)(hsh:zAt it.part=it.sh)(tab:TabOk text.length it.tb)(strict:it.part.f.nl=false->∀ x,∀ e∈ends (row it.tb x),x<e)
  (hr:∀ I',(zA0 I' 0).op=6->Agree I I' Ra a.part.ms->Loop I' Ra a.part.ms I.length a.part.f.b lazy->SemR I' text holds it.part.f.b it.part.ms it.tb)
  (hE:∀ I',(zA0 I' 0).op=6->Agree I I' Ra a.part.ms->Loop I' Ra a.part.ms I.length a.part.f.b lazy->it.calm=true->SemE I' text holds it.part.f.b it.part.ms it.tb) :
  InvR text holds (zAd (I++[zBs a.part.f.b lazy]) a.part.ms I.length) (RH++[(I.length::Ra,it)]):=by
 have Sa:=H.sem (Ra,a) (by simp)
 dsimp only at Sa
 have la:∀ s∈a.part.ms,s / 2<I.length:=λs hs=>(Sa.ch.mem s hs).2
 have lR:∀ v∈Ra,v<I.length:=λv hv=>(Sa.fr.pos v hv).2
 have P:=zW6 (news:=[zBs a.part.f.b lazy]) Sa.fr.hm la lR I.length
 generalize zAd (I++[zBs a.part.f.b lazy]) a.part.ms I.length=I' at P ⊢
 have hlen:I'.length=I.length+1:=P.len
 have hn:zA0 I' I.length=zBs a.part.f.b lazy:=P.new 0
 refine e03 (λh0 hw hp=>?_) (zJw I.length a.part.f.b lazy hn)
 have haR:a.part.f.b∈Ra:=Sa.fr.hb.resolve_right ha0
 have A:Agree I I' Ra a.part.ms:=zE6 (λv hv=>P.core v (lR v hv)) λs hs h=>by rw[P.way s (lR _ hs),if_neg h]
 have to:∀ s∈a.part.ms,wayP I' s=I.length:=λs hs=>by rw[P.way s (la s hs),if_pos hs]
 have off:I.length∉Ra:=λh=>by have:=lR _ h;exact n18 this
 have O:Loop I' Ra a.part.ms I.length a.part.f.b lazy:=⟨h0,hw,to,off⟩
 have hl:=H.len
 have half:=zBf I.length lazy
 refine zDv H (n22 hlen) (λv hv h=>P.off v hv (h (Ra,a) (by simp))) (λp hp=>by simp at hp;subst hp;exact A) (λz=>?_) (λv hv=>?_) (λv h1 h2=>?_) (λp hp s hs=>?_) (λs h1 h2 ho=>?_)
 ·refine⟨⟨?_,λv hv=>?_,λs hs=>?_,λs hs h1=>?_,λs hs hsn ho=>?_⟩,?_,by rw[hms];simp,λk hk=>?_,λh=>?_,λU=>by rw[hms];simp,hsh,tab,strict,hr I' z A O,hE I' z A O⟩
  ·rcases hb with h|h
   ·rw[h];exact .inl (List.mem_cons_of_mem _ haR)
   ·rw[h];exact .inl (List.mem_cons_self ..)
  ·rcases List.mem_cons.mp hv with rfl|hv
   ·exact n49 hl hlen
   ·have:=Sa.fr.pos v hv;exact n23 hlen this
  ·rw[hms,List.mem_singleton]at hs;subst hs;rw[half];exact List.mem_cons_self ..
  ·rw[hms,List.mem_singleton]at hs;subst hs;rw[half];exact h0
  ·rw[hms,List.mem_singleton]at hsn
   rcases List.mem_cons.mp hs with h|h
   ·rcases zKu (lazy:=lazy) h with h2|h2
    ·exact absurd h2 hsn
    ·left;rw[h2,hw];exact List.mem_cons_of_mem _ haR
   ·by_cases hsa:s∈a.part.ms
    ·left;rw[to s hsa];exact List.mem_cons_self ..
    ·rw[A.way s h hsa]
     exact(Sa.fr.cl s h hsa λq=>by rw[<-A.op _ h];exact ho q).imp (List.mem_cons_of_mem _) id
  ·rw[hms,he.1]
   exact⟨rfl,λe=>by rw[e]at half;exact n62 hl half,by rw[half];exact n9 hlen,hp⟩
  ·rw[hms]at hk;simp at hk;rw[<-hk];exact he.2
  ·rcases hb with h2|h2
   ·rw[h2]at h;exact absurd h ha0
   ·rw[h2]at h;omega
 ·rcases List.mem_cons.mp hv with rfl|hv
  ·exact .inr (Nat.le_refl _)
  ·exact .inl ⟨(Ra,a),by simp,hv⟩
 ·have:v=I.length:=n50 h2 hlen h1
  subst this
  refine⟨by rw[h0];decide,λh=>?_,λh=>?_,λh=>?_⟩<;>rw[h0]at h<;>simp at h
 ·simp at hp;subst hp
  right;rw[to s hs];exact n9 hlen
 ·have h3:s / 2=I.length:=by omega
  rcases zKu (lazy:=lazy) h3 with h4|h4
  ·left;rw[hms,h4];simp
  ·right;rw[h4,hw];have:=lR _ haR;exact n10 this hlen
theorem zHp(H:InvR text holds I (RH++[(Ra,a)]))(tk:TextOk text holds)(lazy:Bool):∀ I',(zA0 I' 0).op=6->Agree I I' Ra a.part.ms->Loop I' Ra a.part.ms I.length a.part.f.b lazy->
  (∀ x,x<=text.length->∀ e,Ent I' text holds [zA5 I.length lazy] a.part.f.b x e↔e∈ends (row (loops a.tb lazy) x))/\(a.calm=true->a.part.f.nl=false->SemE I' text holds a.part.f.b [zA5 I.length lazy] (loops a.tb lazy)):=by
 intro I' z A O
 have Sa:=H.sem (Ra,a) (by simp)
 dsimp only at Sa
 refine⟨λx hx e=>?_,λhc hz=>yG2 Sa.fr A H.z z O (Sa.e hc) Sa.tab tk.len (Sa.strict hz)⟩
 rw[yG1 Sa.fr A z O H.z Sa.r hx,zGo lazy Sa.tab _ x e hx (Nat.le_refl _)]
theorem zPl(H:InvR text holds I (RH++[(Ra,a)]))(tk:TextOk text holds)(ht:t=zY1 text a.tb lazy)(hc:calm=true->a.calm=true/\a.part.f.nl=false):∃ Rn,InvR text holds (zCt I a.part lazy).1 (RH++[(Rn,⟨(zCt I a.part lazy).2,a.sh,t,calm⟩)]):=by
 have S:Sem I text holds Ra a:=H.sem _ (List.mem_append_right _ (List.mem_singleton_self _))
 have tab:TabOk text.length t:=ht▸zXz tk S.tab
 have hr:∀ x,row t x=if x<text.length+1 then row (loops a.tb lazy) x else[]:=λx=>ht▸zAs _
 by_cases h0:a.part.f.b=0
 ·refine e03 (λhm hnl hrow=>?_) (S.none h0)
  have e:a.sh=(true,false):=by rw[<-S.sh];unfold zAt;rw[hnl,h0];rfl
  rw[show zCt I a.part lazy=_ from if_pos h0,e]
  exact⟨[],zHy H (λp hp=>(List.mem_singleton.mp hp).symm▸hm) tab (λx=>by rw[hr,zJn S.tab hrow];exact ite_self _) calm⟩
 ·rw[show zCt I a.part lazy=_ from if_neg h0]
  refine⟨_,zN2 H tk h0 lazy rfl ⟨rfl,rfl⟩ (.inl rfl) S.sh tab (λhz x e he=>?_) (λI' z A O x hx e=>?_) (λI' z A O h x hx k hk=>?_)⟩
  ·replace he:e∈ends (row t x):=he
   rw[hr]at he
   by_cases hx:x<text.length+1
   ·rw[if_pos hx]at he
    exact((zGo lazy S.tab _ x e (Nat.le_of_lt_succ hx) (Nat.le_refl _)).mp he).lt S.tab (S.strict hz)
   ·rw[if_neg hx]at he;exact absurd he List.not_mem_nil
  ·show _↔e∈ends (row t x)
   rw[hr,if_pos (n1 hx)]
   exact(zHp H tk lazy I' z A O).1 x hx e
  ·show ∃ l,_/\first l=zB4 k (row t x)
   rw[hr,if_pos (n1 hx)]
   exact(zHp H tk lazy I' z A O).2 (hc h).1 (hc h).2 x hx k hk
theorem zSn(H:InvR text holds I (RH++[(Ra,a)]))(tk:TextOk text holds)(r:Row)(rev:Bool):∃ Rn,InvR text holds (made I .plus [a.part] r rev).1 (RH++[(Rn,zBp I .plus [a] r rev text holds)]):=by
 have S:Sem I text holds Ra a:=H.sem _ (List.mem_append_right _ (List.mem_singleton_self _))
 refine zPl H tk rfl λh=>?_
 simp[zD3,shp]at h
 exact⟨h.1,(congrArg Prod.snd S.sh).trans h.2⟩
end
section
variable {I I':List Ins}{text holds:List Nat}{R:List Nat}{RH RG:List (List Nat×Item)}
theorem zTr(tk:TextOk text holds)(h:∀ a,row t a=[]):optT text t lazy=nopT text:=by
 unfold optT nopT
 refine List.map_congr_left λa U=>?_
 rw[h];cases lazy<;>rfl
structure QuestOk(I I':List Ins)(a:Item)(lazy:Bool):Prop where
 len:I'.length=I.length+1
 keep:∀ v,v<I.length->zA0 I' v=zA0 I v
 O:Opt I' I.length a.part.f.b lazy (zA5 I.length lazy::a.part.ms)
 wp:wayP I' (zA5 I.length lazy)=a.part.f.e0
structure QuestIt(I:List Ins)(text:List Nat)(a it:Item)(lazy:Bool):Prop where
 ms:it.part.ms=zA5 I.length lazy::a.part.ms
 bn:it.part.f.b=I.length
 e0:it.part.f.e0=zA5 I.length lazy
 e1:it.part.f.e1=a.part.f.e1
 nl:it.part.f.nl=true
 sh:zAt it.part=it.sh
 tb:it.tb=optT text a.tb lazy
 calm:it.calm=true->a.calm=true
theorem zTj(hl:0<n)(lazy:Bool):zA5 n lazy≠0:=λe=>n62 hl (e▸zBf n lazy)
theorem zW0(n:Nat)(lazy:Bool):(if lazy then 2 * n+1 else 2 * n) / 2=n:=by
 cases lazy with
 |true=>exact n6
 |false=>exact n63
section
variable {Ra:List Nat}{a it:Item}{lazy:Bool}(H:InvR text holds I (RH++[(Ra,a)]))(S:Sem I text holds Ra a)(h0:a.part.f.b≠0)
include H S
theorem zXd:QuestOk I (zD5 (I++[zBs a.part.f.b lazy]) (zA5 I.length lazy) a.part.f.e0) a lazy:=by
 have half:=zBf I.length lazy
 have p1:zA5 I.length lazy / 2<(I++[zBs a.part.f.b lazy]).length:=by rw[half,List.length_append];exact Nat.lt_succ_self _
 refine e03 (λq0 q1 U=>?_) (zJw (I':=I++[zBs a.part.f.b lazy]) I.length a.part.f.b lazy (by rw[zB1,if_pos rfl]))
 have hw:=zDk (is:=I++[zBs a.part.f.b lazy]) (k:=zA5 I.length lazy) a.part.f.e0 p1
 refine⟨by rw[zBg,List.length_append];rfl,λv hv=>?_,⟨by rw[zFm (zIm p1 _)];exact q0,List.mem_cons_self ..,λh=>(List.mem_cons.mp h).elim (zM3 _ _) λh=>?_,by rw[hw,if_neg (zM3 _ _)];exact q1⟩,by rw[hw,if_pos rfl]⟩
 ·rw[zDs p1,half,if_neg (Nat.ne_of_lt hv),zB9 hv]
 ·have:=(S.ch.mem _ h).2
  rw[zW0]at this;exact n18 this
variable (Q:QuestOk I I' a lazy)
include Q h0
theorem zTd(z:(zA0 I' 0).op=6)(tk:TextOk text holds):SemR I' text holds I.length (zA5 I.length lazy::a.part.ms) (optT text a.tb lazy)/\(a.calm=true->SemE I' text holds I.length (zA5 I.length lazy::a.part.ms) (optT text a.tb lazy)):=by
 have A:Agree I I' Ra a.part.ms:=Agree.of_eq λv hv=>Q.keep v (S.fr.pos v hv).2
 have hms:∀ s,s / 2∈Ra->(s∈zA5 I.length lazy::a.part.ms↔s∈a.part.ms):=λs hs=>⟨λh=>(List.mem_cons.mp h).resolve_left λe=>by rw[e,zBf]at hs;exact n18 (S.fr.pos _ hs).2,List.mem_cons_of_mem _⟩
 refine⟨λx hx e=>?_,λhc x hx k hk=>?_⟩
 ·unfold optT
  rw[zAs,if_pos (n1 hx),opt_ends,yBj Q.O,zLh S.fr A H.z z hms S.r x hx e]
 ·unfold optT
  rw[zAs,if_pos (n1 hx)]
  exact yFp Q.O (zLi S.fr A H.z z hms (S.e hc)) hx hk
theorem zTf(z:(zA0 I' 0).op=6):Frg I' (I.length::Ra) I.length (zA5 I.length lazy::a.part.ms):=by
 have half:=zBf I.length lazy
 have Sm:=S.move (λv hv=>Q.keep v (S.fr.pos v hv).2) (n22 Q.len) H.z z
 refine⟨.inl (List.mem_cons_self ..),λv hv=>(List.mem_cons.mp hv).elim (λe=>e▸n49 H.len Q.len) (Sm.fr.pos v),λs hs=>(List.mem_cons.mp hs).elim (λe=>by rw[e,half];exact List.mem_cons_self ..) λh=>List.mem_cons_of_mem _ (S.fr.hm s h),λs hs h1=>(List.mem_cons.mp hs).elim (λe=>by rw[e,half];exact Q.O.op) λh=>Sm.fr.odd s h h1,λs hs hsn ho=>?_⟩
 rw[List.mem_cons,not_or]at hsn
 refine(List.mem_cons.mp hs).elim (λh=>.inl ?_) λh=>(Sm.fr.cl s h hsn.2 ho).imp (List.mem_cons_of_mem _) id
 rw[(zKu (lazy:=lazy) h).resolve_left hsn.1,Q.O.way]
 exact List.mem_cons_of_mem _ (S.fr.hb.resolve_right h0)
theorem zTe(tk:TextOk text holds)(C:QuestIt I text a it lazy):InvR text holds I' (RH++[(I.length::Ra,it)]):=by
 have half:=zBf I.length lazy
 have hl:=H.len
 have haR:=S.fr.hb.resolve_right h0
 have kR:∀ v∈Ra,zA0 I' v=zA0 I v:=λv hv=>Q.keep v (S.fr.pos v hv).2
 refine zDv H (n22 Q.len) (λv hv U=>Q.keep v hv) (λp hp=>(List.mem_singleton.mp hp).symm▸Agree.of_eq kR) (λz=>?_) (λv hv=>(List.mem_cons.mp hv).elim (λe=>.inr (Nat.le_of_eq e.symm)) λh=>.inl ⟨_,List.mem_cons_self ..,h⟩) (λv h1 h2=>n50 h2 Q.len h1▸yH8 Q.O.op) (λp hp s hs=>.inl ?_) (λs h1 h2 ho=>?_)
 ·have Sm:=S.move kR (n22 Q.len) H.z z
  have q:=zTd H S h0 Q z tk
  refine⟨by rw[C.ms,C.bn];exact zTf H S h0 Q z,?_,by rw[C.ms];exact List.nodup_cons.mpr ⟨zPm S.ch lazy,S.nd⟩,λk hk=>?_,λh=>absurd (C.bn.symm.trans h) (n14 hl),λU=>by rw[C.ms];exact List.cons_ne_nil _ _,C.sh,by rw[C.tb];exact zTm tk S.tab,λh=>absurd (C.nl.symm.trans h) (by decide),by rw[C.ms,C.bn,C.tb];exact q.1,λhc=>by rw[C.ms,C.bn,C.tb];exact q.2 (C.calm hc)⟩
  ·rw[C.ms,C.e0];exact⟨rfl,zTj hl lazy,by rw[half];exact n9 Q.len,by rw[Q.wp];exact Sm.ch⟩
  ·rw[C.ms]at hk
   rw[C.e1]
   refine S.la k (hk▸?_)
   refine e21 (λy ys h=>?_) (zOc (S.ne h0))
   rw[h];exact(List.getLast?_cons_cons ..).symm
 ·rw[List.mem_singleton.mp hp]at hs
  rw[C.ms];exact List.mem_cons_of_mem _ hs
 ·have h3:s / 2=I.length:=n50 h2 Q.len h1
  refine(zKu (lazy:=lazy) h3).imp (λe=>by rw[C.ms,e];exact List.mem_cons_self ..) λe=>?_
  rw[e,Q.O.way];exact n10 (S.fr.pos _ haR).2 Q.len
end
theorem zMt{Ra:List Nat}{a:Item}{t:zAa}(H:InvR text holds I (RH++[(Ra,a)]))(tk:TextOk text holds)(ht:t=optT text a.tb lazy)(hc:calm=true->a.calm=true):∃ Rn,InvR text holds (zEh I a.part lazy).1 (RH++[(Rn,⟨(zEh I a.part lazy).2,(false,true),t,calm⟩)]):=by
 have S:Sem I text holds Ra a:=H.sem _ (List.mem_append_right _ (List.mem_singleton_self _))
 by_cases h0:a.part.f.b=0
 ·refine e03 (λhm U hrow=>?_) (S.none h0)
  rw[show zEh I a.part lazy=_ from if_pos h0,ht,zTr tk hrow]
  exact⟨_,zKj H (λp hp=>(List.mem_singleton.mp hp).symm▸hm) tk _⟩
 ·have p0:=zTj H.len lazy
  rw[show zEh I a.part lazy=_ from if_neg h0]
  dsimp only
  rw[show zOg (zA5 I.length lazy) _ a.part.f.e0 a.part.f.e1=_ from if_neg p0,if_neg (S.e0 h0)]
  rw[show zN9 _ (zA5 I.length lazy) _ a.part.f.e0=_ from if_neg p0,if_neg (S.e0 h0)]
  exact⟨_,zTe H S h0 (zXd H S) tk ⟨rfl,rfl,rfl,rfl,rfl,Prod.ext (decide_eq_false (n14 H.len)) rfl,ht,hc⟩⟩
theorem zQx(H:InvR text holds I (RH++[(Ra,a)]))(tk:TextOk text holds)(r:Row)(rev:Bool):∃ Rn,InvR text holds (made I .quest [a.part] r rev).1 (RH++[(Rn,zBp I .quest [a] r rev text holds)]):=
 zMt H tk rfl λh=>by simp[zD3]at h;exact h
theorem zR9(h:∀ a,a<=text.length->row t a=row t' a):optT text t lazy=optT text t' lazy:=by
 unfold optT
 refine List.map_congr_left λa ha=>?_
 rw[h a (by have:=List.mem_range.mp ha;exact n20 this)]
theorem zWp(H:InvR text holds I (RH++[(Ra,a)]))(tk:TextOk text holds)(ht:t=optT text (loops a.tb lazy) lazy)(hc:calm=true->a.calm=true/\a.part.f.nl=false):∃ Rn,InvR text holds (zKk I a.part lazy).1 (RH++[(Rn,⟨(zKk I a.part lazy).2,(false,true),t,calm⟩)]):=by
 have S:Sem I text holds Ra a:=H.sem _ (List.mem_append_right _ (List.mem_singleton_self _))
 by_cases h0:a.part.f.b=0
 ·refine e03 (λhm U hrow=>?_) (S.none h0)
  rw[show zKk I a.part lazy=_ from if_pos h0,ht,zTr tk (zJn S.tab hrow)]
  exact⟨_,zKj H (λp hp=>(List.mem_singleton.mp hp).symm▸hm) tk _⟩
 ·rw[show zKk I a.part lazy=_ from if_neg h0]
  by_cases hz:a.part.f.nl=true
  ·
   rw[if_pos hz]
   refine e11 (λRp Hp=>?_) (zPl (calm:=false) (lazy:=lazy) H tk rfl λh=>absurd h (by decide))
   refine zMt Hp tk (ht.trans (zR9 λx hx=>?_)) λh=>absurd (hz.symm.trans (hc h).2) (by decide)
   unfold zY1;rw[zAs,if_pos (n1 hx)]
  ·rw[if_neg hz]
   have hr:∀ x,x<=text.length->row t x=first (if lazy then[(x,zAc)]++row (loops a.tb lazy) x else row (loops a.tb lazy) x++[(x,zAc)]):=λx hx=>by
    rw[ht];unfold optT;rw[zAs,if_pos (n1 hx)]
   refine⟨_,zN2 H tk h0 lazy rfl ⟨rfl,rfl⟩ (.inr rfl) (Prod.ext (decide_eq_false (n14 H.len)) rfl) (ht▸zTm tk (zL4 lazy tk.len S.tab)) (λh=>absurd (show true=false from h) (by decide)) (λI' z A O x hx e=>?_) (λI' z A O h x hx k hk=>?_)⟩
   ·show _↔e∈ends (row t x)
    rw[hr x hx,opt_ends,<-(zHp H tk lazy I' z A O).1 x hx e]
    exact yBj O.opt
   ·show ∃ l,_/\first l=zB4 k (row t x)
    rw[hr x hx]
    exact yFp O.opt ((zHp H tk lazy I' z A O).2 (hc h).1 (hc h).2) hx hk
theorem zSm(H:InvR text holds I (RH++[(Ra,a)]))(tk:TextOk text holds)(r:Row)(rev:Bool):∃ Rn,InvR text holds (made I .star [a.part] r rev).1 (RH++[(Rn,zBp I .star [a] r rev text holds)]):=by
 have S:Sem I text holds Ra a:=H.sem _ (List.mem_append_right _ (List.mem_singleton_self _))
 refine zWp H tk rfl λh=>?_
 simp[zD3,shp]at h
 exact⟨h.1,(congrArg Prod.snd S.sh).trans h.2⟩
end
section
variable {I I':List Ins}{text holds:List Nat}{R:List Nat}{RH RG:List (List Nat×Item)}
def altT(text:List Nat)(t1 t2:zAa):zAa:=(List.range (text.length+1)).map λa=>first (row t1 a++row t2 a)
theorem yFz(t1 t2:zAa)(r:Row)(text holds:List Nat):meant .alt [t1,t2] r text holds=altT text t1 t2:=rfl
theorem alt_ends{t1 t2:zAa}{a e:Nat}:e∈ends (first (row t1 a++row t2 a))↔e∈ends (row t1 a)\/e∈ends (row t2 a):=by
 rw[zAv,zA6,List.mem_append]
theorem yDn(tk:TextOk text holds){t1 t2:zAa}(k1:TabOk text.length t1)(k2:TabOk text.length t2):TabOk text.length (altT text t1 t2):=by
 have:=tk.len
 refine zC4 (λa ha=>zG6 (n2 this) (zJ6 (zCi k1.wf a).2 (zCi k2.wf a).2)) (λa ha=>zB5 _) (λa ha e he=>?_)
 rcases alt_ends.mp he with h|h
 ·exact k1.mono a e h
 ·exact k2.mono a e h
theorem yB4{L:Nat}{t:zAa}(k:TabOk L t){a:Nat}(h:¬ a<=L):row t a=[]:=by
 unfold row;rw[List.getD_eq_getElem?_getD,List.getElem?_eq_none (by rw[k.wf.1];exact n46 h)];rfl
structure AltOk(I I':List Ins)(Ra:List Nat)(a b:Item):Prop where
 len:I'.length=I.length+1
 keep:∀ v,v<I.length->v∉Ra->zA0 I' v=zA0 I v
 h0:(zA0 I' I.length).op=0
 w0:wayP I' (2 * I.length)=a.part.f.b
 w1:wayP I' (2 * I.length+1)=b.part.f.b
 A:Agree I I' Ra a.part.ms
 ch:Chain I' a.part.f.e0 (a.part.ms++b.part.ms)
structure AltIt(I:List Ins)(text:List Nat)(a b it:Item):Prop where
 ms:it.part.ms=a.part.ms++b.part.ms
 bn:it.part.f.b=I.length
 e0:it.part.f.e0=a.part.f.e0
 e1:it.part.f.e1=b.part.f.e1
 nl:it.part.f.nl=(a.part.f.nl||b.part.f.nl)
 sh:zAt it.part=it.sh
 tab:TabOk text.length it.tb
 row:∀ x,row it.tb x=if x<text.length+1 then first (row a.tb x++row b.tb x)else[]
 calm:it.calm=true->a.calm=true/\b.calm=true
section
variable {Ra Rb:List Nat}{a b it:Item}{t:zAa}(H:InvR text holds I (RH++[(Ra,a),(Rb,b)]))
include H
theorem yHl{i:Ins}(ha0:a.part.f.b≠0)(hb0:b.part.f.b≠0)(i0:i.op=0)(i1:i.out=a.part.f.b)(i2:i.arg=b.part.f.b):AltOk I (zD5 (I++[i]) a.part.f.e1 b.part.f.e0) Ra a b:=by
 refine e03 (λSa Sb dab=>?_) H.two
 have hlast:a.part.ms.getLast?=some a.part.f.e1:=by
  have h:=List.getLast?_eq_some_getLast (Sa.ne ha0)
  rw[Sa.la _ h];exact h
 have e1m:=List.mem_of_getLast? hlast
 have e1R:=Sa.fr.hm _ e1m
 have l1:=(Sa.ch.mem _ e1m).2
 have p1:a.part.f.e1 / 2<(I++[i]).length:=by rw[List.length_append];exact n8 l1
 have lR:∀ v∈Ra,v<I.length:=λv hv=>(Sa.fr.pos v hv).2
 have hn:zA0 (zD5 (I++[i]) a.part.f.e1 b.part.f.e0) I.length=i:=by rw[zDs p1,if_neg (Nat.ne_of_gt l1),zB1,if_pos rfl]
 refine⟨by rw[zBg,List.length_append];rfl,λv hv h=>?_,by rw[hn];exact i0,by rw[zB2,hn];exact i1,by rw[zCr,hn];exact i2,zE6 (λv hv=>by rw[zIm p1,zB9 (lR v hv)]) λs hs h=>?_,Chain.join (Sa.ch.push _) (Sb.ch.push _) hlast (Sb.e0 hb0) (λh=>dab _ e1R (Sb.fr.hm _ h)) Sa.nd⟩
 ·rw[zDs p1,if_neg (λe:v=a.part.f.e1 / 2=>h (e▸e1R)),zB9 hv]
 ·rw[zDk _ p1,if_neg (λe:s=a.part.f.e1=>h (e▸e1m)),zP6 (lR _ hs)]
variable (O:AltOk I I' Ra a b)
include O
theorem yDr:Agree I I' Rb b.part.ms:=H.two.elim λU q=>Agree.of_eq λv hv=>O.keep v (q.1.fr.pos v hv).2 λh=>q.2 v h hv
theorem yDo(hr:∀ x,x<=text.length->row t x=first (row a.tb x++row b.tb x))(z:(zA0 I' 0).op=6):SemR I' text holds I.length (a.part.ms++b.part.ms) t/\(a.calm=true->b.calm=true->SemE I' text holds I.length (a.part.ms++b.part.ms) t):=by
 refine e03 (λSa Sb dab=>?_) H.two
 have Ab:=yDr H O
 have lt:∀ s∈a.part.ms++b.part.ms,s / 2<I.length:=λs hs=>(List.mem_append.mp hs).elim (λh=>(Sa.ch.mem s h).2) λh=>(Sb.ch.mem s h).2
 have m0:2 * I.length∉a.part.ms++b.part.ms:=λh=>n47 (lt _ h)
 have m1:2 * I.length+1∉a.part.ms++b.part.ms:=λh=>n48 (lt _ h)
 have ma:∀ s,s / 2∈Ra->(s∈a.part.ms++b.part.ms↔s∈a.part.ms):=λs hs=>⟨λh=>(List.mem_append.mp h).resolve_right λh=>dab _ hs (Sb.fr.hm s h),List.mem_append_left _⟩
 have mb:∀ s,s / 2∈Rb->(s∈a.part.ms++b.part.ms↔s∈b.part.ms):=λs hs=>⟨λh=>(List.mem_append.mp h).resolve_left λh=>dab _ (Sa.fr.hm s h) hs,List.mem_append_right _⟩
 refine⟨λx hx e=>?_,λca cb x hx k hk=>?_⟩
 ·rw[hr x hx,alt_ends,yHm O.h0,zGf m0,zGf m1,O.w0,O.w1,zLh Sa.fr O.A H.z z ma Sa.r x hx e,zLh Sb.fr Ab H.z z mb Sb.r x hx e]
 ·refine e12 (λl1 q1 q2=>?_) (zLi Sa.fr O.A H.z z ma (Sa.e ca) x hx k hk)
  refine e12 (λl2 q3 q4=>?_) (zLi Sb.fr Ab H.z z mb (Sb.e cb) x hx k hk)
  rw[hr x hx,zF7 O.h0]
  refine⟨l1++l2,EnX.append (S:=[(2 * I.length,x,k)]) (zHf m0 (by rw[O.w0];exact q1)) (zHf m1 (by rw[O.w1];exact q3)),?_⟩
  rw[zAo,q2,q4,<-zEg,zBy]
theorem yDq(ha0:a.part.f.b≠0)(hb0:b.part.f.b≠0):Frg I' (I.length::(Ra++Rb)) I.length (a.part.ms++b.part.ms):=by
 refine e03 (λSa Sb dab=>?_) H.two
 have Ab:=yDr H O
 have tl:∀{v},v∈Ra->v∈I.length::(Ra++Rb):=λh=>List.mem_cons_of_mem _ (List.mem_append_left _ h)
 have tr:∀{v},v∈Rb->v∈I.length::(Ra++Rb):=λh=>List.mem_cons_of_mem _ (List.mem_append_right _ h)
 refine⟨.inl (List.mem_cons_self ..),λv hv=>(List.mem_cons.mp hv).elim (λe=>e▸n49 H.len O.len) λhv=>n23 O.len ((List.mem_append.mp hv).elim (Sa.fr.pos v) (Sb.fr.pos v)),λs hs=>(List.mem_append.mp hs).elim (λh=>tl (Sa.fr.hm s h)) λh=>tr (Sb.fr.hm s h),λs hs h1=>(List.mem_append.mp hs).elim (λh=>?_) λh=>?_,λs hs hsn ho=>?_⟩
 ·rw[O.A.op _ (Sa.fr.hm s h)];exact Sa.fr.odd s h h1
 ·rw[Ab.op _ (Sb.fr.hm s h)];exact Sb.fr.odd s h h1
 ·have hsa:s∉a.part.ms:=λh=>hsn (List.mem_append_left _ h)
  have hsb:s∉b.part.ms:=λh=>hsn (List.mem_append_right _ h)
  refine(List.mem_cons.mp hs).elim (λh=>.inl ?_) λh=>(List.mem_append.mp h).elim (λh=>?_) λh=>?_
  ·have:s=2 * I.length\/s=2 * I.length+1:=by omega
   refine this.elim (λe=>?_) λe=>?_
   ·rw[e,O.w0];exact tl (Sa.fr.hb.resolve_right ha0)
   ·rw[e,O.w1];exact tr (Sb.fr.hb.resolve_right hb0)
  ·rw[O.A.way s h hsa];exact(Sa.fr.cl s h hsa λq=>by rw[<-O.A.op _ h];exact ho q).imp tl id
  ·rw[Ab.way s h hsb];exact(Sb.fr.cl s h hsb λq=>by rw[<-Ab.op _ h];exact ho q).imp tr id
theorem yDp(ha0:a.part.f.b≠0)(hb0:b.part.f.b≠0)(C:AltIt I text a b it):InvR text holds I' (RH++[(I.length::(Ra++Rb),it)]):=by
 refine e03 (λSa Sb dab=>?_) H.two
 have neb:=Sb.ne hb0
 refine zDv H (n22 O.len) (λv hv h=>O.keep v hv (h _ (List.mem_cons_self ..))) (zH6 O.A (yDr H O)) (λz=>?_) (λv hv=>(List.mem_cons.mp hv).elim (λe=>.inr (Nat.le_of_eq e.symm)) λhv=>(List.mem_append.mp hv).elim (λh=>.inl ⟨_,List.mem_cons_self ..,h⟩) λh=>.inl ⟨_,List.mem_cons_of_mem _ (List.mem_cons_self ..),h⟩) (λv h1 h2=>n50 h2 O.len h1▸yH8 O.h0) (zH6 (λs hs=>.inl (C.ms.symm▸List.mem_append_left _ hs)) λs hs=>.inl (C.ms.symm▸List.mem_append_right _ hs)) (λs h1 h2 ho=>.inr ?_)
 ·have S:=yDo H O (t:=it.tb) (λx hx=>by rw[C.row,if_pos (n1 hx)]) z
  refine⟨by rw[C.ms,C.bn];exact yDq H O ha0 hb0,by rw[C.ms,C.e0];exact O.ch,?_,λk hk=>?_,λh=>absurd (C.bn.symm.trans h) (n14 H.len),λU e=>?_,C.sh,C.tab,λhz x e he=>?_,by rw[C.ms,C.bn];exact S.1,λhc=>by rw[C.ms,C.bn];exact S.2 (C.calm hc).1 (C.calm hc).2⟩
  ·rw[C.ms,List.nodup_append]
   exact⟨Sa.nd,Sb.nd,λx hx y hy e=>dab _ (Sa.fr.hm x hx) (e▸Sb.fr.hm y hy)⟩
  ·rw[C.ms,List.getLast?_append,List.getLast?_eq_some_getLast neb,Option.some_or]at hk
   rw[C.e1];exact Sb.la k (by rw[List.getLast?_eq_some_getLast neb];exact hk)
  ·exact neb (List.append_eq_nil_iff.mp (C.ms.symm.trans e)).2
  ·rw[C.row]at he
   by_cases hx:x<text.length+1
   ·rw[if_pos hx]at he
    have q:=Bool.or_eq_false_iff.mp (C.nl.symm.trans hz)
    exact(alt_ends.mp he).elim (Sa.strict q.1 x e) (Sb.strict q.2 x e)
   ·rw[if_neg hx]at he;exact absurd he List.not_mem_nil
 ·have:s=2 * I.length\/s=2 * I.length+1:=by have:=n50 h2 O.len h1;omega
  refine this.elim (λe=>?_) λe=>?_
  ·rw[e,O.w0];exact n10 (Sa.fr.pos _ (Sa.fr.hb.resolve_right ha0)).2 O.len
  ·rw[e,O.w1];exact n10 (Sb.fr.pos _ (Sb.fr.hb.resolve_right hb0)).2 O.len
end
theorem zPh(k:TabOk L u)(x:Nat):(if x<L+1 then first (row u x)else[])=row u x:=by
 by_cases h:x<L+1
 ·rw[if_pos h];exact k.fst x
 ·rw[if_neg h];exact(yB4 k λq=>h (n1 q)).symm
theorem yDs{Ra Rb:List Nat}{a b:Item}{t:zAa}(H:InvR text holds I (RH++[(Ra,a),(Rb,b)]))(hsh:zMm .alt [a.sh,b.sh]=sh)(tab:TabOk text.length t)(hr:∀ x,row t x=if x<text.length+1 then first (row a.tb x++row b.tb x)else[])(hc:calm=true->a.calm=true/\b.calm=true):∃ Rn,InvR text holds (altP I a.part b.part).1 (RH++[(Rn,⟨(altP I a.part b.part).2,sh,t,calm⟩)]):=by
 refine e03 (λSa Sb U=>?_) H.two
 replace hsh:(a.sh.1&&b.sh.1,a.sh.2||b.sh.2)=sh:=hsh
 by_cases ha0:a.part.f.b=0
 ·refine e03 (λhm hnl hrow=>?_) (Sa.none ha0)
  have e:a.sh=(true,false):=by rw[<-Sa.sh];unfold zAt;rw[hnl,ha0];rfl
  rw[e]at hsh
  rw[show altP I a.part b.part=_ from if_pos ha0,show sh=b.sh from hsh.symm]
  exact⟨Rb,zMi H (g:=(Rb,b)) (List.mem_cons_of_mem _ (List.mem_cons_self ..)) (zH6 (.inl hm) (.inr rfl)) tab (λx=>by rw[hr,hrow];exact zPh Sb.tab x) λh=>(hc h).2⟩
 ·by_cases hb0:b.part.f.b=0
  ·refine e03 (λhm hnl hrow=>?_) (Sb.none hb0)
   have e:b.sh=(true,false):=by rw[<-Sb.sh];unfold zAt;rw[hnl,hb0];rfl
   rw[e]at hsh
   rw[show altP I a.part b.part=_ from if_neg ha0,if_pos hb0,show sh=a.sh by rw[<-hsh];exact Prod.ext (Bool.and_true _) (Bool.or_false _)]
   exact⟨Ra,zMi H (g:=(Ra,a)) (List.mem_cons_self ..) (zH6 (.inr rfl) (.inl hm)) tab (λx=>by rw[hr,hrow,List.append_nil];exact zPh Sa.tab x) λh=>(hc h).1⟩
  ·rw[show altP I a.part b.part=_ from if_neg ha0,if_neg hb0]
   rw[show zOg a.part.f.e0 a.part.f.e1 b.part.f.e0 b.part.f.e1=_ from if_neg (Sa.e0 ha0),if_neg (Sb.e0 hb0)]
   rw[show zN9 _ a.part.f.e0 a.part.f.e1 b.part.f.e0=_ from if_neg (Sa.e0 ha0),if_neg (Sb.e0 hb0)]
   exact⟨_,yDp H (yHl H ha0 hb0 rfl rfl rfl) ha0 hb0 ⟨rfl,rfl,rfl,rfl,rfl,by rw[<-hsh,<-Sa.sh,<-Sb.sh];unfold zAt;rw[decide_eq_false ha0,decide_eq_false (n14 H.len)];rfl,tab,hr,hc⟩⟩
theorem zWo{Ra Rb:List Nat}{a b:Item}(H:InvR text holds I (RH++[(Ra,a),(Rb,b)]))(tk:TextOk text holds)(r:Row)(rev:Bool):∃ Rn,InvR text holds (made I .alt [a.part,b.part] r rev).1 (RH++[(Rn,zBp I .alt [a,b] r rev text holds)]):=
 yDs H rfl (H.two.elim λSa q=>yDn tk Sa.tab q.1.tab) (λx=>zAs _) λh=>by simpa [zD3]using h
def capT(text:List Nat)(t:zAa)(s0 s1:Nat):zAa:=(List.range (text.length+1)).map λa=>group (row t a) a s0 s1
theorem yFy(t:zAa)(r:Row)(text holds:List Nat):meant .capture [t] r text holds=capT text t r.s0 r.s1:=rfl
theorem zGs{l:List Way}{a s0 s1:Nat}:ends (group l a s0 s1)=ends l:=by unfold ends group;rw[List.map_map];rfl
theorem yD6{t:zAa}(s0 s1:Nat)(k:TabOk text.length t):TabOk text.length (capT text t s0 s1):=by
 refine zC4 (λa ha=>?_) (λa ha=>?_) (λa ha e he=>?_)
 ·have:=zCi k.wf a
  refine⟨by simp[group];exact this.1,λp hp=>?_⟩
  obtain⟨q,hq,rfl⟩:=List.mem_map.mp hp
  exact⟨(this.2 q hq).1,zEz (by simp[zD2])⟩
 ·unfold group
  rw[zIj (g:=λp=>(p.1,kept (kept (zCm s0 a) p.2) (zCm s1 p.1))) (λU=>rfl),k.fst]
 ·rw[zGs]at he;exact k.mono a e he
structure CapIt(I:List Ins)(text:List Nat)(a it:Item)(s0 s1:Nat):Prop where
 ms:it.part.ms=[(I.length+1) * 2]
 bn:it.part.f.b=I.length
 e0:it.part.f.e0=(I.length+1) * 2
 e1:it.part.f.e1=(I.length+1) * 2
 nl:it.part.f.nl=a.part.f.nl
 sh:zAt it.part=it.sh
 tab:TabOk text.length it.tb
 row:∀ x,row it.tb x=if x<text.length+1 then group (row a.tb x) x s0 s1 else[]
 calm:it.calm=true->a.calm=true
structure CapOk(I I':List Ins)(Ra:List Nat)(a:Item)(s0 s1:Nat):Prop where
 len:I'.length=I.length+2
 off:∀ v,v<I.length->v∉Ra->zA0 I' v=zA0 I v
 A:Agree I I' Ra a.part.ms
 C:Cap I' a.part.ms I.length a.part.f.b s0 s1
 w:wayP I' ((I.length+1) * 2)=0
 d0:2<=(zA0 I' I.length).arg
 d1:2<=(zA0 I' (I.length+1)).arg
theorem zQb{i:Ins}(h:i.op=2)(k:2<=i.arg):i.op≠4/\Data i:=⟨by rw[h];decide,λq=>absurd (h.symm.trans q) (by decide),λU=>k,λq=>absurd (h.symm.trans q) (by decide)⟩
theorem zHu(h:s / 2=v)(h2:(zA0 I v).op=2)(ho:s % 2=1->(zA0 I (s / 2)).op=0):s=2 * v:=
 n51 h λq=>absurd (h2.symm.trans (h▸ho q)) (by decide)
section
variable {Ra:List Nat}{a it:Item}{t:zAa}(H:InvR text holds I (RH++[(Ra,a)]))(S:Sem I text holds Ra a)
include H S
theorem yHa{i j:Ins}(hi:i.op=2)(hj:j.op=2)(io:i.out=a.part.f.b)(jo:j.out=0)(ia:2<=i.arg)(ja:2<=j.arg)(i0:i.arg-2=s0)(j1:j.arg-2=s1):CapOk I (zAd (I++[i,j]) a.part.ms (I.length+1)) Ra a s0 s1:=by
 have lR:∀ v∈Ra,v<I.length:=λv hv=>(S.fr.pos v hv).2
 have la:∀ s∈a.part.ms,s / 2<I.length:=λs hs=>(S.ch.mem s hs).2
 have P:=zW6 (news:=[i,j]) S.fr.hm la lR (I.length+1)
 have p0:zA0 _ I.length=i:=P.new 0
 have p1:zA0 _ (I.length+1)=j:=P.new 1
 exact⟨P.len,P.off,zE6 (λv hv=>P.core v (lR v hv)) λs hs h=>by rw[P.way s (lR _ hs),if_neg h],⟨by rw[p0];exact hi,by rw[p1];exact hj,by rw[p0];exact i0,by rw[p1];exact j1,by rw[p0];exact io,λs hs=>by rw[P.way s (la s hs),if_pos hs]⟩,by rw[Nat.mul_comm,zB2,p1];exact jo,by rw[p0];exact ia,by rw[p1];exact ja⟩
variable (O:CapOk I I' Ra a s0 s1)(h0:a.part.f.b≠0)
include O h0
theorem yD8:Frg I' (I.length::(I.length+1)::Ra) I.length [(I.length+1) * 2]:=by
 have tl:∀{v},v∈Ra->v∈I.length::(I.length+1)::Ra:=λh=>List.mem_cons_of_mem _ (List.mem_cons_of_mem _ h)
 have h1:I.length+1∈I.length::(I.length+1)::Ra:=List.mem_cons_of_mem _ (List.mem_cons_self ..)
 have hl:=H.len
 have len:=O.len
 refine⟨.inl (List.mem_cons_self ..),λv hv=>(List.mem_cons.mp hv).elim (λe=>by omega) λhv=>(List.mem_cons.mp hv).elim (λe=>by omega) λhv=>by have:=S.fr.pos v hv;omega,λs hs=>List.mem_singleton.mp hs▸n24.symm▸h1,λs hs q=>?_,λs hs hsn ho=>(List.mem_cons.mp hs).elim (λh=>?_) λhs=>(List.mem_cons.mp hs).elim (λh=>?_) λh=>?_⟩
 ·rw[List.mem_singleton.mp hs,Nat.mul_mod_left]at q;exact absurd q (by decide)
 ·rw[zHu h O.C.op0 ho,zB2,O.C.out];exact .inl (tl (S.fr.hb.resolve_right h0))
 ·exact absurd (List.mem_singleton.mpr ((zHu h O.C.op1 ho).trans (Nat.mul_comm ..))) hsn
 ·by_cases hsa:s∈a.part.ms
  ·rw[O.C.to s hsa];exact .inl h1
  ·rw[O.A.way s h hsa];exact(S.fr.cl s h hsa λq=>by rw[<-O.A.op _ h];exact ho q).imp tl id
theorem yD7(C:CapIt I text a it s0 s1):InvR text holds I' (RH++[(I.length::(I.length+1)::Ra,it)]):=by
 have hl:=H.len
 have len:=O.len
 refine zDv H (Nat.le.intro len.symm) (λv hv h=>O.off v hv (h _ (List.mem_cons_self ..))) (λp hp=>(List.mem_singleton.mp hp).symm▸O.A) (λz=>?_) (λv hv=>(List.mem_cons.mp hv).elim (λe=>.inr (Nat.le_of_eq e.symm)) λhv=>(List.mem_cons.mp hv).elim (λe=>.inr (e▸Nat.le_succ _)) λh=>.inl ⟨_,List.mem_cons_self ..,h⟩) (λv h1 h2=>?_) (λp hp s hs=>.inr ?_) (λs h1 h2 ho=>?_)
 ·refine⟨by rw[C.ms,C.bn];exact yD8 H S O h0,?_,by rw[C.ms];exact List.nodup_cons.mpr ⟨List.not_mem_nil,.nil⟩,λk hk=>?_,λh=>absurd (C.bn.symm.trans h) (n14 hl),λU=>by rw[C.ms];exact List.cons_ne_nil _ _,C.sh,C.tab,λhz x e he=>?_,λx hx e=>?_,λhc x hx k hk=>?_⟩
  ·rw[C.ms,C.e0];exact⟨rfl,Ne.symm (Nat.zero_ne_add_one _),by rw[n24];exact n15 len,O.w⟩
  ·rw[C.ms]at hk;rw[C.e1];exact Option.some.inj hk
  ·rw[C.row]at he
   by_cases hx:x<text.length+1
   ·rw[if_pos hx,zGs]at he;exact S.strict (C.nl.symm.trans hz) x e he
   ·rw[if_neg hx]at he;exact absurd he List.not_mem_nil
  ·rw[C.ms,C.bn,C.row,if_pos (n1 hx),zGs]
   exact yJ8 S.fr O.A H.z z O.C (λh=>absurd (S.fr.pos _ h).2 (Nat.not_succ_lt_self)) S.r hx
  ·rw[C.ms,C.bn,C.row,if_pos (n1 hx)]
   exact yJ9 S.fr O.A H.z z O.C (λh=>absurd (S.fr.pos _ h).2 (Nat.not_succ_lt_self)) (S.e (C.calm hc)) S.tab.fst hx hk
 ·have:v=I.length\/v=I.length+1:=by omega
  exact this.elim (λe=>e▸zQb O.C.op0 O.d0) λe=>e▸zQb O.C.op1 O.d1
 ·rw[List.mem_singleton.mp hp]at hs
  rw[O.C.to s hs];exact n15 len
 ·have:s / 2=I.length\/s / 2=I.length+1:=by omega
  refine this.elim (λh=>.inr ?_) λh=>.inl ?_
  ·rw[zHu h O.C.op0 ho,zB2,O.C.out]
   exact Nat.lt_of_lt_of_le (S.fr.pos _ (S.fr.hb.resolve_right h0)).2 (Nat.le.intro len.symm)
  ·rw[C.ms];exact List.mem_singleton.mpr ((zHu h O.C.op1 ho).trans (Nat.mul_comm ..))
end
theorem yD9{Ra:List Nat}{a:Item}{t:zAa}(H:InvR text holds I (RH++[(Ra,a)]))(tab:TabOk text.length t)(hr:∀ x,row t x=if x<text.length+1 then group (row a.tb x) x s0 s1 else[])(hc:calm=true->a.calm=true)(h0:s0=if rev then 2 * g+1 else 2 * g)(h1:s1=if rev then 2 * g else 2 * g+1):∃ Rn,InvR text holds (capP I a.part (1+g) rev).1 (RH++[(Rn,⟨(capP I a.part (1+g) rev).2,a.sh,t,calm⟩)]):=by
 have S:Sem I text holds Ra a:=H.sem _ (List.mem_append_right _ (List.mem_singleton_self _))
 by_cases hb:a.part.f.b=0
 ·refine e03 (λhm hnl hrow=>?_) (S.none hb)
  have e:a.sh=(true,false):=by rw[<-S.sh];unfold zAt;rw[hnl,hb];rfl
  rw[show capP I a.part (1+g) rev=_ from if_pos hb,e]
  exact⟨[],zHy H (λp hp=>(List.mem_singleton.mp hp).symm▸hm) tab (λx=>by rw[hr,hrow];exact ite_self _) calm⟩
 ·rw[show capP I a.part (1+g) rev=_ from if_neg hb]
  refine⟨_,yD7 H S (yHa (s0:=s0) (s1:=s1) H S rfl rfl rfl rfl ?_ ?_ ?_ ?_) hb ⟨rfl,rfl,rfl,rfl,rfl,?_,tab,hr,hc⟩⟩
  ·cases rev<;>exact Nat.le_trans (Nat.mul_le_mul_left 2 (Nat.le_add_right 1 g)) (by first|exact Nat.le_refl _|exact Nat.le_succ _)
  ·cases rev<;>exact Nat.le_trans (Nat.mul_le_mul_left 2 (Nat.le_add_right 1 g)) (by first|exact Nat.le_refl _|exact Nat.le_succ _)
  ·rw[h0];cases rev<;>simp<;>omega
  ·rw[h1];cases rev<;>simp<;>omega
  ·rw[<-S.sh];unfold zAt;rw[decide_eq_false hb];exact Prod.ext (decide_eq_false (n14 H.len)) rfl
theorem zMj{Ra:List Nat}{a:Item}(H:InvR text holds I (RH++[(Ra,a)]))(tk:TextOk text holds){r:Row}{rev:Bool}(hr:RowOk rev r):∃ Rn,InvR text holds (made I .capture [a.part] r rev).1 (RH++[(Rn,zBp I .capture [a] r rev text holds)]):=by
 have S:Sem I text holds Ra a:=H.sem _ (List.mem_append_right _ (List.mem_singleton_self _))
 refine e13 (λg hg hs0 hs1=>?_) hr.slots
 have:=yD9 (calm:=zD3 .capture [a]) H (yD6 r.s0 r.s1 S.tab) (λx=>zAs _) (λh=>by simp[zD3]at h;exact h) hs0 hs1
 rw[show g=min r.s0 r.s1 / 2 by rw[hs0,hs1];cases rev<;>simp<;>omega]at this
 exact this
end
def KL(l:List Way):Prop:=∀ w∈l,kept zAc w.2=w.2
def KT(t:zAa):Prop:=∀ a,KL (row t a)
theorem KL.nil:KL []:=λw h=>by simp at h
theorem KL.single(a:Nat):KL [(a,zAc)]:=λw h=>by simp at h;subst h;rfl
theorem KL.first(h:KL l):KL (first l):=λw hw=>h w (zIh hw)
theorem KL.append(h:KL l)(k:KL m):KL (l++m):=λw hw=>(List.mem_append.mp hw).elim (h w) (k w)
theorem KL.joined(h:KL l):KL (joined l t):=by
 refine KL.first λw hw=>?_
 refine e12 (λp hp hw=>?_) (List.mem_flatMap.mp hw)
 obtain⟨q,hq,rfl⟩:=List.mem_map.mp hw
 dsimp only
 rw[zCv,h p hp]
theorem zY8(s a:Nat):kept zAc (zCm s a)=zCm s a:=by
 unfold zCm zAc kept
 have:List.range 4=[0,1,2,3]:=rfl
 rw[this]
 simp only[List.map_cons,List.map_nil,List.zip_cons_cons,List.zip_nil_right]
 have h:∀ n:Nat,(if 0<=(if n=s then Int.ofNat a else -1)then(if n=s then Int.ofNat a else -1)else -1)=(if n=s then Int.ofNat a else -1):=by
  intro n
  by_cases e:n=s
  ·simp[e]
  ·simp[e]
 simp only[h]
theorem KL.group:KL (group l a s0 s1):=λw hw=>by
 obtain⟨p,_,rfl⟩:=List.mem_map.mp hw
 dsimp only
 rw[zCv,zCv,zY8]
theorem KL.loopOne(h:kept zAc p.2=p.2):KL (loopOne f lazy a p):=by
 have h1:KL [p]:=λw hw=>by simp at hw;subst hw;exact h
 have h2:KL (if a<p.1 then Mine.Internal.joined [p] f else[]):=by
  split
  ·exact KL.joined h1
  ·exact KL.nil
 unfold Mine.Internal.loopOne
 dsimp only
 split
 ·exact h1.append h2
 ·exact h2.append h1
theorem KT.loops(lazy:Bool)(h:KT t):KT (loops t lazy):=by
 have key:∀(as:List Nat) (f:zAa),KT f->KT (as.foldl (zAi t lazy) f):=by
  intro as
  induction as with
  |nil=>intro f hf;exact hf
  |cons a r ih=>
   intro f hf
   refine ih _ λx=>?_
   unfold zAi
   by_cases hl:a<f.length
   ·rw[zT4 hl]
    split
    ·refine KL.first λw hw=>?_
     refine e12 (λp hp hw=>?_) (List.mem_flatMap.mp hw)
     exact KL.loopOne (h _ p hp) w hw
    ·exact hf x
   ·have:f.set a (Mine.Internal.first ((row t a).flatMap (Mine.Internal.loopOne f lazy a)))=f:=List.set_eq_of_length_le (n11 hl)
    rw[this];exact hf x
 unfold Mine.Internal.loops
 refine key _ _ λx=>?_
 unfold row
 rw[List.getD_eq_getElem?_getD,List.getElem?_map]
 cases t[x]?<;>exact KL.nil
theorem KT.tab(h:∀ t∈l,KT t)(k:Nat):KT (tab l k):=by
 unfold Mine.Internal.tab
 rw[List.getD_eq_getElem?_getD]
 cases e:l[k]? with
 |none=>intro a;show KL (row [] a);unfold row;simp;exact KL.nil
 |some t=>exact h t (List.mem_of_getElem? e)
theorem KT.range(h:∀ a,KL (f a)):KT ((List.range N).map f):=λa=>by
 rw[zAs];split
 ·exact h a
 ·exact KL.nil
theorem KT.meant(h:∀ t∈l,KT t):KT (meant o l r text holds):=by
 have h0:=KT.tab h 0
 have h1:=KT.tab h 1
 unfold Mine.Internal.meant
 refine KT.range λa=>?_
 cases o<;>dsimp only
 ·split
  ·intro w hw;simp at hw;subst hw;rfl
  ·exact KL.nil
 ·exact(h0 a).joined
 ·exact((h0 a).append (h1 a)).first
 ·split
  ·exact((KL.single a).append (h0.loops r.lazy a)).first
  ·exact((h0.loops r.lazy a).append (KL.single a)).first
 ·exact KL.group
 ·split
  ·exact((KL.single a).append (h0 a)).first
  ·exact((h0 a).append (KL.single a)).first
 ·exact h0.loops r.lazy a
 ·split
  ·exact KL.single a
  ·exact KL.nil
 ·exact KL.single a
 ·exact KL.nil
theorem zO0(h:KL l):zB4 zAc l=l:=by
 unfold zB4
 have:∀ w∈l,(λp:Way=>(p.1,kept zAc p.2)) w=id w:=λw hw=>by simp only[h w hw];rfl
 rw[List.map_congr_left this,List.map_id]
def InvL(text holds:List Nat)(I:List Ins)(items:List Item):Prop:=Inv text holds I items/\∀ it∈items,KT it.tb
theorem zUr(text holds:List Nat)(tk:TextOk text holds):InvL text holds [opI 6] []:=by
 have hat:∀ v,zA0 [opI 6] v=opI 6:=λv=>by
  by_cases h:v=0
  ·subst h;rfl
  ·exact zIg (by simp;exact Nat.one_le_iff_ne_zero.mpr h)
 refine⟨⟨[],rfl,⟨rfl,by simp,by simp,.nil,λv=>by rw[hat];decide,λv U=>by rw[hat];exact⟨λh=>by simp[opI]at h,λh=>by simp[opI]at h,λh=>by simp[opI]at h⟩,λs U U=>.inr ?_⟩⟩,by simp⟩
 unfold wayP;rw[hat];simp[opI]
theorem zUq(tk:TextOk text holds)(h:InvL text holds I (heap++given))(hm:given.length=many o)(hr:o≠.cat->RowOk rev r):InvL text holds (made I o (given.map (·.part)) r rev).1 (heap++[zBp I o given r rev text holds]):=by
 obtain⟨⟨RI,e,H⟩,hk⟩:=h
 obtain⟨RH,RG,rfl,rfl,rfl⟩:=List.map_eq_append_iff.mp e
 rw[List.length_map]at hm
 refine⟨?_,λit hit=>?_⟩
 ·have fin:∀{I':List Ins} {it:Item},(∃ Rn,InvR text holds I' (RH++[(Rn,it)]))->Inv text holds I' (RH.map (·.2)++[it]):=λh=>h.elim λRn h=>⟨_,by rw[List.map_append];rfl,h⟩
  cases o<;>simp only[many]at hm
  case range=>
   obtain rfl:RG=[]:=List.eq_nil_of_length_eq_zero hm
   exact fin (zQw H tk (hr (by simp)))
  case empty=>
   obtain rfl:RG=[]:=List.eq_nil_of_length_eq_zero hm
   exact fin (zQy H tk (hr (by simp)))
  case nop=>
   obtain rfl:RG=[]:=List.eq_nil_of_length_eq_zero hm
   exact fin ⟨_,zKj H (by simp) tk (zD3 .nop [])⟩
  case none=>
   obtain rfl:RG=[]:=List.eq_nil_of_length_eq_zero hm
   refine fin ⟨_,zHy H (by simp) (t:=meant .none [] r text holds) ?_ ?_ (zD3 .none [])⟩
   ·exact zC4 (λU U=>.nil) (λU U=>rfl) (λU U e he=>by simp[ends]at he)
   ·intro a;unfold meant;rw[zAs];split<;>rfl
  case cat=>
   obtain⟨⟨Ra,a⟩,⟨Rb,b⟩,rfl⟩:=len2 hm
   exact fin (zWn H tk r rev)
  case alt=>
   obtain⟨⟨Ra,a⟩,⟨Rb,b⟩,rfl⟩:=len2 hm
   exact fin (zWo H tk r rev)
  case star=>
   obtain⟨⟨Ra,a⟩,rfl⟩:=len1 hm
   exact fin (zSm H tk r rev)
  case quest=>
   obtain⟨⟨Ra,a⟩,rfl⟩:=len1 hm
   exact fin (zQx H tk r rev)
  case plus=>
   obtain⟨⟨Ra,a⟩,rfl⟩:=len1 hm
   exact fin (zSn H tk r rev)
  case capture=>
   obtain⟨⟨Ra,a⟩,rfl⟩:=len1 hm
   exact fin (zMj H tk (hr (by simp)))
 ·rcases List.mem_append.mp hit with h|h
  ·exact hk it (List.mem_append_left _ h)
  ·rw[List.mem_singleton]at h;subst h
   refine KT.meant λt ht=>?_
   obtain⟨x,hx,rfl⟩:=List.mem_map.mp ht
   exact hk x (List.mem_append_right _ hx)
theorem zRk(h:InvL text holds I items):(∀ it∈items,ItemOk (text.length+1) I it)/\items.Pairwise λa b=>∀ k∈a.part.ms,k∉b.part.ms:=by
 obtain⟨⟨RI,rfl,H⟩,_⟩:=h
 refine⟨λit hit=>?_,?_⟩
 ·obtain⟨p,hp,rfl⟩:=List.mem_map.mp hit
  exact(H.sem p hp).itemOk H
 ·rw[List.pairwise_map]
  exact H.dis.imp_of_mem λ{p q} hp hq hd k hk hk'=>hd _ ((H.sem p hp).fr.hm k hk) ((H.sem q hq).fr.hm k hk')
section
variable {I I':List Ins}{text holds:List Nat}{R ms:List Nat}{b n:Nat}
structure ToM(I I':List Ins)(R ms:List Nat)(n:Nat):Prop where
 ag:Agree I I' R ms
 to:∀ s∈ms,wayP I' s=n
 op:(zA0 I' n).op=4
 nm:∀ v∈R,(zA0 I' v).op≠4
theorem zQo(h:(zA0 I v).op=4)(a:Nat)(k:Kept):ways (zA0 I v) a k text holds=[]:=by unfold ways;rw[h];rfl
theorem zWa(h:(zA0 I v).op=4){S:List Conf}{l:List Way}(q:EnL I text holds S l):EnL I text holds ((v,a,k)::S) ((a,k)::l):=by
 have:=EnL.cons (v:=v) (a:=a) (k:=k) (by rw[zQo h];exact .nil) q
 rwa [hitM,if_pos h,List.append_nil]at this
theorem zM6(h:(zA0 I v).op≠4){S:List Conf}{l1 l:List Way}(q:EnL I text holds ((outs I text holds v a k).map (goes I)) l1)(r:EnL I text holds S l):EnL I text holds ((v,a,k)::S) (l1++l):=by
 have:=EnL.cons (v:=v) (a:=a) (k:=k) ((zEd I text holds v a k).symm▸q) r
 rwa [hitM,if_neg h,List.nil_append]at this
theorem yAd(h:(zA0 I v).op≠4)(q:EnL I text holds ((outs I text holds v a k).map (goes I)) l):EnL I text holds [(v,a,k)] l:=
 List.append_nil l▸zM6 h q .nil
set_option tactic.hygienic true in
theorem yBr(F:Frg I R b ms)(M:ToM I I' R ms n)(z:(zA0 I 0).op=6)(z':(zA0 I' 0).op=6){S:List (Nat×Nat×Kept)}{l:List Way}(h:EnX I text holds ms S l):(∀ s∈S,s.1 / 2∈R/\(s.1 % 2=1->(zA0 I (s.1 / 2)).op=0))->EnL I' text holds (S.map (goes I')) l:=by
 induction h with
 |nil=>exact λU=>.nil
 |out hs h' ih=>
  rename_i s a k r l
  intro hS
  rw[List.map_cons,show goes I' (s,a,k)=(n,a,k) from congrArg (λv=>(v,a,k)) (M.to s hs)]
  exact zWa M.op (ih λs h=>hS s (List.mem_cons_of_mem _ h))
 |go hs h1 h2 ih1 ih2=>
  rename_i s a k r l1 l2
  intro hS
  have h0:s / 2∈R/\_:=hS _ (List.mem_cons_self ..)
  rw[List.map_cons,show goes I' (s,a,k)=(wayP I s,a,k) from congrArg (λv=>(v,a,k)) (M.ag.way s h0.1 hs)]
  have ih2:=ih2 λs h=>hS s (List.mem_cons_of_mem _ h)
  refine(F.cl s h0.1 hs h0.2).elim (λhR=>?_) λhR=>?_
  ·exact zM6 (M.nm _ hR) (by rw[zAr F M.ag hR];exact ih1 λt ht=>zEi hR ht) ih2
  ·rw[hR]at h1 ⊢
   rw[zAj z]at h1
   exact zM6 (by rw[z'];decide) (by rw[zAj z',h1.nil_eq];exact .nil) ih2
theorem zZs(h:∀ k,outs I text holds v a k=[])(q:Rch I text holds (v,a) e):(zA0 I v).op=4/\e=a:=
 q.inv.elim id λq=>q.elim λy q=>q.1.elim λk p=>p.elim λs p=>absurd (h k▸p.1) List.not_mem_nil
theorem zJk(h:(zA0 I v).op=4)(k:Kept):outs I text holds v a k=[]:=by unfold outs;rw[h];rfl
theorem zTa(h:(zA0 I v).op=4):Rch I text holds (v,a) e↔e=a:=
 ⟨λq=>(zZs (zJk h) q).2,λq=>by rw[q];exact .here (x:=(v,a)) h⟩
theorem zXc(z:(zA0 I 0).op=6):¬ Rch I text holds (0,a) e:=λq=>by
 have:=(zZs (λk=>zAj z a k) q).1
 rw[z]at this;exact absurd this (by decide)
set_option tactic.hygienic true in
theorem zU3(F:Frg I R b ms)(M:ToM I I' R ms n)(z:(zA0 I 0).op=6)(z':(zA0 I' 0).op=6){s a e:Nat}(hs:s / 2∈R)(ho:s % 2=1->(zA0 I (s / 2)).op=0):Rch I' text holds (wayP I' s,a) e↔ReX I text holds ms s a e:=by
 constructor
 ·have key:∀ x e,Rch I' text holds x e->∀ s a,x=(wayP I' s,a)->s / 2∈R->(s % 2=1->(zA0 I (s / 2)).op=0)->ReX I text holds ms s a e:=by
   intro x e h
   induction h with
   |here h4=>
    intro s a hx hs ho
    subst hx
    by_cases hm:s∈ms
    ·exact .out hm
    ·dsimp only at h4
     rw[M.ag.way s hs hm]at h4
     exact(F.cl s hs hm ho).elim (λhR=>absurd h4 (M.nm _ hR)) λhR=>by rw[hR,z']at h4;exact absurd h4 (by decide)
   |step ht hr ih=>
    intro s a hx hs ho
    subst hx
    refine ht.elim λk ht=>ht.elim λt ht=>?_
    have h1:=ht.1
    dsimp only at h1
    by_cases hm:s∈ms
    ·rw[M.to s hm,zJk M.op]at h1;exact absurd h1 List.not_mem_nil
    ·rw[M.ag.way s hs hm]at h1
     refine(F.cl s hs hm ho).elim (λhR=>?_) λhR=>by rw[hR,zAj z']at h1;exact absurd h1 List.not_mem_nil
     rw[zAr F M.ag hR]at h1
     have h2:=zEi hR h1
     exact .go hm h1 (ih _ _ ht.2 h2.1 h2.2)
  exact λh=>key _ _ h s a rfl hs ho
 ·intro h
  induction h with
  |out h1=>rw[M.to _ h1];exact .here (x:=(n,_)) M.op
  |go h1 ht hr ih=>
   rename_i s a k t e
   rw[M.ag.way s hs h1]
   refine(F.cl s hs h1 ho).elim (λhR=>?_) λhR=>by rw[hR,zAj z]at ht;exact absurd ht List.not_mem_nil
   have h2:=zEi hR ht
   exact .step ⟨k,t,by rw[zAr F M.ag hR];exact ht,rfl⟩ (ih h2.1 h2.2)
structure Fn(text holds:List Nat)(I I':List Ins)(R:List Nat)(it:Item):Prop where
 S:Sem I text holds R it
 z:(zA0 I 0).op=6
 z':(zA0 I' 0).op=6
 M:ToM I I' R it.part.ms I.length
 len:I'.length=I.length+1
 lR:∀ v∈R,v<I.length
def stB(I I':List Ins)(f:Fr):Nat:=if f.b=0 then 0 else if zE9 I' f then I.length else f.b
variable {it:Item}
theorem Fn.cs(F:Fn text holds I I' R it){P:Nat->Prop}(h0:it.part.f.b=0->P 0)(h1:it.part.f.b∈R->2 * it.part.f.b∈it.part.ms->(zA0 I it.part.f.b).op=5->P I.length)(h2:it.part.f.b∈R->P it.part.f.b):P (stB I I' it.part.f):=by
 unfold stB
 by_cases h:it.part.f.b=0
 ·rw[if_pos h];exact h0 h
 ·rw[if_neg h]
  have hb:=F.S.fr.hb.resolve_right h
  cases hn:zE9 I' it.part.f with
  |true=>
   refine e03 (λU hm h5=>?_) (zPo F.z F.S h (F.M.ag.op _ hb) hn)
   exact h1 hb hm ((F.M.ag.op _ hb).symm.trans h5)
  |false=>exact h2 hb
theorem Fn.calm(F:Fn text holds I I' R it)(hc:it.calm=true)(kl:KL (row it.tb 0)):∃ l,EnL I' text holds [(stB I I' it.part.f,0,zAc)] l/\first l=row it.tb 0:=by
 refine e12 (λl q1 q2=>?_) (F.S.e hc 0 (Nat.zero_le _) zAc (by decide))
 replace q2:=q2.trans (zO0 kl)
 refine F.cs (P:=λv=>∃ l,EnL I' text holds [(v,0,zAc)] l/\first l=row it.tb 0) (λh0=>?_) (λhb hm h5=>?_) λhb=>?_
 ·exact⟨[],yAd (by rw[F.z'];decide) (by rw[zAj F.z'];exact .nil),((F.S.none h0).2.2 0).symm⟩
 ·rw[zKy h5]at q1
  exact⟨_,zWa F.M.op .nil,yDu hm q1▸q2⟩
 ·exact⟨l,yAd (F.M.nm _ hb) (by rw[zAr F.S.fr F.M.ag hb];exact yBr F.S.fr F.M F.z F.z' q1 λs hs=>zEi hb hs),q2⟩
theorem Fn.rch(F:Fn text holds I I' R it)(e:Nat):Rch I' text holds (stB I I' it.part.f,0) e↔e∈ends (row it.tb 0):=by
 refine(F.cs (P:=λv=>Rch I' text holds (v,0) e↔Ent I text holds it.part.ms it.part.f.b 0 e) (λh0=>?_) (λhb hm h5=>?_) λhb=>?_).trans (F.S.r 0 (Nat.zero_le _) e)
 ·rw[h0];exact iff_of_false (zXc F.z') (zQ4 F.z)
 ·exact(zTa F.M.op).trans ((zOt h5).trans (zKa hm)).symm
 ·refine⟨λh=>(h.inv.resolve_left λh=>F.M.nm _ hb h.1).elim λy h=>h.1.elim λk p=>p.elim λs p=>?_,λh=>h.elim λk h=>h.elim λs h=>?_⟩
  ·have ht:=p.1
   dsimp only at ht
   rw[zAr F.S.fr F.M.ag hb]at ht
   have q:=zEi hb ht
   exact⟨k,s,ht,(zU3 F.S.fr F.M F.z F.z' q.1 q.2).mp (p.2▸h.2)⟩
  ·have q:=zEi hb h.1
   exact .step ⟨k,s,by rw[zAr F.S.fr F.M.ag hb];exact h.1,rfl⟩ ((zU3 F.S.fr F.M F.z F.z' q.1 q.2).mpr h.2)
theorem yA2{P:α->Prop}(h:∃ p,p∈[a]/\P p):P a:=h.elim λp q=>List.mem_singleton.mp q.1▸q.2
theorem yJ5:Data (opI 4):=⟨λh=>absurd h (by decide),λh=>absurd h (by decide),λh=>absurd h (by decide)⟩
section
variable (H:InvR text holds I [(R,it)])(P:AppOk I I' [opI 4] R it.part.ms I.length)
include H P
theorem yJ1(S:Sem I text holds R it)(lR:∀ v∈R,v<I.length):Fn text holds I I' R it where
 S:=S
 z:=H.z
 z':=(zFm (P.core 0 H.len)).trans H.z
 M:=⟨zE6 (λv hv=>P.core v (lR v hv)) λs hs h=>by rw[P.way s (lR _ hs),if_neg h],λs hs=>by rw[P.way s (S.ch.mem s hs).2,if_pos hs],congrArg Ins.op (P.new 0),λv hv=>by rw[zFm (P.core v (lR v hv))];exact H.nm v⟩
 len:=P.len
 lR:=lR
theorem yGs(hl:I'.length=I.length+1)(hs:s / 2<I'.length)(ho:s % 2=1->(zA0 I' (s / 2)).op=0):wayP I' s<I'.length:=by
 by_cases h1:s / 2<I.length
 ·rw[P.way s h1]
  by_cases hm:s∈it.part.ms
  ·rw[if_pos hm];exact n9 hl
  ·rw[if_neg hm]
   exact n10 ((H.gl s h1 λq=>by rw[<-zFm (P.core _ h1)];exact ho q).resolve_left λh=>hm (yA2 (P:=λp:List Nat×Item=>s∈p.2.part.ms) h)) hl
 ·have e:s / 2=I.length:=by omega
  unfold wayP
  rw[e,show zA0 I' I.length=opI 4 from P.new 0]
  exact(ite_self 0).symm▸n19 hl
theorem yGt(hl:I'.length=I.length+1):Uni I':=by
 have:∀ v,(zA0 I' v).op=4->v=I.length:=by
  intro v h4
  by_cases h1:v<I.length
  ·rw[zFm (P.core v h1)]at h4;exact absurd h4 (H.nm v)
  ·by_cases h2:v=I.length
   ·exact h2
   ·rw[zIg (by omega)]at h4;cases h4
 exact λv w hv hw=>(this v hv).trans (this w hw).symm
theorem yGu(F:Fn text holds I I' R it)(hv:v<I'.length):Data (zA0 I' v):=by
 by_cases h1:v<I.length
 ·by_cases h:v∈R
  ·exact(H.data v h1).congr (F.M.ag.op v h) (F.M.ag.low v h) (F.M.ag.high v h) λh0=>zNp F.S.fr F.M.ag h h0
  ·rw[P.off v h1 h];exact H.data v h1
 ·have e:v=I.length:=Nat.le_antisymm (Nat.le_of_lt_succ (Nat.lt_of_lt_of_eq hv F.len)) (Nat.le_of_not_lt h1)
  rw[e,show zA0 I' I.length=opI 4 from P.new 0];exact yJ5
end
theorem Fn.out(F:Fn text holds I I' R it)(kl:KL (row it.tb 0))(uni:Uni I')(D:Dfs I' text holds [(stB I I' it.part.f,0,zAc)] [] [] res):(it.calm=true->res=row it.tb 0)/\(ends res).Perm (ends (row it.tb 0)):=by
 refine⟨λhc=>?_,(List.perm_ext_iff_of_nodup (zVg uni D .nil λU h=>absurd h List.not_mem_nil) (by rw[<-F.S.tab.fst 0];exact zIi _)).mpr λe=>?_⟩
 ·refine e12 (λl E ef=>?_) (F.calm hc kl)
  refine e13 (λmet' D' U U=>?_) (zVh uni E [] [] [] res (λU h=>absurd h List.not_mem_nil) (λU h=>absurd h List.not_mem_nil) rfl D)
  cases D'
  exact ef
 ·refine Iff.trans ⟨λh=>?_,λh=>zNh D (λU h=>absurd h List.not_mem_nil) _ (.inr ⟨_,List.mem_cons_self ..,rfl⟩) e h⟩ (F.rch e)
  exact yA2 (P:=λc=>Rch I' text holds (key c) e) ((zVf D e h).resolve_left List.not_mem_nil)
theorem Fn.all(F:Fn text holds I I' R it)(kl:KL (row it.tb 0))(uni:Uni I')(way:∀ s,s / 2<I'.length->(s % 2=1->(zA0 I' (s / 2)).op=0)->wayP I' s<I'.length)(dat:∀ v,v<I'.length->Data (zA0 I' v))(tk:TextOk text holds)(hs:I.length<=60):(zA0 I' 0).op=6/\(∀ k<I'.length,InsOk (zA0 I' k) I'.length)/\stB I I' it.part.f<I'.length/\
  ∃ res,Dfs I' text holds [(stB I I' it.part.f,0,zAc)] [] [] res/\(it.calm=true->res=row it.tb 0)/\(res.map (·.1)).Perm ((row it.tb 0).map (·.1)):=by
 have hst:stB I I' it.part.f<I'.length:=F.cs (P:=λv=>v<I'.length) (λU=>n19 F.len) (λU U U=>n9 F.len) λhb=>n10 (F.lR _ hb) F.len
 refine⟨F.z',λk hk=>⟨(dat k hk).range,(dat k hk).cap,(dat k hk).empty,λU U=>?_,λh=>?_⟩,hst,?_⟩
 ·rw[<-zB2];exact way _ (by omega) (by omega)
 ·rw[<-zCr];exact way _ (by omega) (λU=>by rw[show(2 * k+1) / 2=k by omega];exact h)
 ·refine e11 (λres D=>⟨res,D,F.out kl uni D⟩) (zVe (I:=I') (text:=text) (holds:=holds) (S:=[(_,0,zAc)]) ?_ (λv a k hv ha s hs=>?_) (λc hc=>List.mem_singleton.mp hc▸⟨hst,Nat.zero_le _⟩) (Nat.le_refl _))
  ·exact Nat.le_trans (Nat.mul_le_mul (F.len▸Nat.succ_le_succ hs:I'.length<=61) (n2 tk.len)) (by decide)
  ·have q:=zAx I' text holds hs
   exact way _ (q.1.symm▸hv) (q.1.symm▸q.2.1)
theorem zYb{c:Prop}[Decidable c](J:List Ins)(p q:Part):(if c then(J,p)else(J,q)).1=J/\(if c then(J,p)else(J,q)).2.f.b=if c then p.f.b else q.f.b:=by
 by_cases h:c
 ·rw[if_pos h,if_pos h];exact⟨rfl,rfl⟩
 ·rw[if_neg h,if_neg h];exact⟨rfl,rfl⟩
theorem zWg(hl:0<I.length)(h:it.part.f.b=0->it.part.ms=[]):(zAl I it).1=zAd (I++[opI 4]) it.part.ms I.length/\(zAl I it).2.f.b=stB I (zAd (I++[opI 4]) it.part.ms I.length) it.part.f:=by
 unfold stB
 by_cases h0:it.part.f.b=0
 ·rw[show zAl I it=_ from if_pos (.inl h0),if_pos h0,h h0];exact⟨rfl,rfl⟩
 ·rw[show zAl I it=_ from if_neg λq=>q.elim h0 (Nat.ne_of_gt hl),if_neg h0]
  exact zYb _ _ _
theorem zYc{it:Item}(tk:TextOk text holds)(h:InvL text holds I [it])(hs:I.length<=60):(zA0 (zAl I it).1 0).op=6/\(∀ k<(zAl I it).1.length,InsOk (zA0 (zAl I it).1 k) (zAl I it).1.length)/\(zAl I it).2.f.b<(zAl I it).1.length/\
  ∃ res,Dfs (zAl I it).1 text holds [((zAl I it).2.f.b,0,zAc)] [] [] res/\(it.calm=true->res=row it.tb 0)/\(res.map (·.1)).Perm ((row it.tb 0).map (·.1)):=by
 refine e12 (λRI e H=>?_) h.1
 refine e12 (λa e1 e2=>?_) (yBs e)
 have H:InvR text holds I [(a.1,it)]:=by rw[<-e2];exact e1▸H
 have S:Sem I text holds a.1 it:=H.sem _ (List.mem_singleton_self _)
 have lR:∀ v∈a.1,v<I.length:=λv hv=>(S.fr.pos v hv).2
 have P:=zW6 (news:=[opI 4]) S.fr.hm (λs hs=>(S.ch.mem s hs).2) lR I.length
 have W:=zWg H.len λh=>(S.none h).1
 rw[W.2];rw[W.1]
 have F:=yJ1 H P S lR
 exact F.all (h.2 it (List.mem_singleton_self _) 0) (yGt H P P.len) (λs=>yGs H P P.len) (λv=>yGu H P F) tk hs
theorem yBw:LawInv InvL where
 init:=zUr
 step:=λtk h hm hr U=>zUq tk h hm hr
 items:=λU h=>zRk h
 fin:=λtk h hs=>zYc tk h hs
end
end Mine.Internal
end
noncomputable section
open PySem PySem.W PyProof.Rows
namespace Mine.Internal
theorem zT7{g:Hp}{vs:List Value}{l:List Int}(h:IntsAre vs l):RepL g (l.map .int) vs:=by
 induction h with
 |nil=>exact .nil
 |cons n t _ ih=>exact .cons (.int n t) ih
theorem join{W:Wd}(G:Gd W){s:Shared}(hh:W.h₀=s.heap)(hos:W.os=s.os)(hg:s.gens=#[]){a:Addr}{vs:List Value}{l:List Int}(ha:s.heap.get? a=some (listOf vs.toArray 0))(hI:IntsAre vs l)(hl:l.length<=63)
  {R:Result->Shared->Prop} (hR:∀ s',(∀ b o,s.heap.get? b=some o->s'.heap.get? b=some o)->s'.gens=#[]->s'.os=s.os->R (.ok (.ret (.bool true))) s'):codeAny W.M callerA (.call (.ref 421) ⟨[.ref a],[]⟩) R s:=by
 have C:=yEq G (n:=0) (m:=λU=>none) (Q:=λd U=>d=.bool true) (X:=λU U=>False) yBw l (nLit hl rfl) rfl
 refine codeAny_mono (C callerA W.h₀.get? (λU=>none) s [.ref a] ?_ ?_ ?_ ?_ ?_) λr s' h=>?_
 ·exact⟨rfl,by decide +kernel,by decide +kernel⟩
 ·exact⟨[],rfl,λenv h=>by simp at h⟩
 ·rw[hh];exact Nat.le_refl _
 ·exact⟨λU U h=>h,λb o h=>by rw[<-hh];exact h,λb o h=>by simp at h,λb o h=>by simp at h,λb o h=>by simp at h,hg,hos.symm⟩
 ·exact .cons (.lst (by rw[hh];exact ha) (zT7 hI)) .nil
 ·unfold zP2 at h
  match r,h with
  |.ok (.ret v),h=>
   obtain⟨g',m',d,hE,hS,hr,rfl⟩:=h
   cases hr
   exact hR s' (λb o e=>hS.frz b o (hE b o (by rw[hh];exact e))) hS.gens (hS.os.trans hos)
  |.error e,h=>(revert h;refine e45 λU U U U U U U U h=>?_);exact h.elim
end Mine.Internal
end
open PySem PySem.W PyProof.Rows
set_option maxRecDepth 100000 in
set_option maxHeartbeats 8000000 in
set_option tactic.hygienic true in
theorem PySem.Challenge.cw_xw0283_01_holds : PySem.Challenge.rw_xw0283_01.Holds := by
  refine holds_law Mine.Internal.wellSaid fun said => ?_
  refine holds_open (q := Mine.Internal.gQ) (loose := Mine.Internal.gL) (Xt := fun s => xlAt Mine.Internal.gQ [] s && recOk (RowW.records PySem.Challenge.rw_xw0283_01.row.toRowW) s) (XP := XL Mine.Internal.gQ []) (Yf := fun s => (Mine.Internal.obS (Mine.Internal.frL s.heap Mine.Internal.frA), Mine.Internal.obFs (Mine.Internal.frL s.heap Mine.Internal.frA))) (Ya := fun _ => (Mine.Internal.exS, Mine.Internal.exFs)) (YP := fun _ h => ∃ K : Frag, K.In h ∧ Mine.Internal.obS K = Mine.Internal.exS ∧ Mine.Internal.obFs K = Mine.Internal.exFs) (N := 5790) Mine.Internal.left (fun _ s e => ⟨_, Mine.Internal.frL_in Mine.Internal.frA, Prod.mk.inj e⟩) (fun _ _ _ e k => e.elim fun K q => ⟨K, q.1.keeps k, q.2⟩) (fun s e => xl_of s (Bool.and_eq_true_iff.mp e).1) XL.keeps (by rfl) (by rfl) (by rfl) (fun s e => recFacts_of (Bool.and_eq_true_iff.mp e).2) (by rfl) (by first | assumption | decide +kernel) (by decide +kernel) ⟨rfl, rfl, rfl, rfl, rfl, by decide +kernel⟩ ?hw ?hc
  case hw => w_witness2
  intro w s₀ s₁ mg mb G Y fa o pm cd doc dV kV ho hd' hcd hD hmg hg args vals as hpre hlay hrd hwl hlo
  obtain ⟨K, KX, hK⟩ := Y
  refine Ground.open G ?_
  intro T B D TE TW
  wrow_args hpre hlay hrd hwl hlo
  all_goals (
    first | refine callC_kw (enter_call ?_) | refine enter_call ?_ | refine callC_kw (enter_callW ?_) | refine enter_callW ?_ | w_how)
  rename_i l _ _ _ _ _ _ _ a vs _ hL ra w1 r0 hI _ hc _
  have WO : (Mine.Internal.Wd.mk PySem.Challenge.rw_xw0283_01.row.prog w K s₁.heap mg mb s₁.os).Ok := ⟨KX, T.g, T.b, T.nolimit, T.builtins⟩
  have GD : Mine.Internal.Gd (Mine.Internal.Wd.mk PySem.Challenge.rw_xw0283_01.row.prog w K s₁.heap mg mb s₁.os) := ⟨WO, hK⟩
  have hfa : fa = 421 := by
    have e : mg "law" = some (.ref 421) := GD.law
    have e' : mg "law" = some (.ref fa) := hmg
    rw [e] at e'
    cases e'; rfl
  subst hfa
  have ha : s₁.heap.get? a = some (PySem.W.listOf vs.toArray 0) := by
    rcases w1 with _ | _ | _ | _ | _ | _ | _ | ⟨q, _⟩
    obtain ⟨o', ho1, ho2, n', ho3⟩ := hL
    rw [q] at ho1
    cases ho1
    cases ho3
    exact q
  refine Mine.Internal.join (W := Mine.Internal.Wd.mk PySem.Challenge.rw_xw0283_01.row.prog w K s₁.heap mg mb s₁.os) GD rfl rfl hg ha hI (by omega) fun s' hk hg' hos => ?_
  refine ⟨.inl ⟨.bool true, .bool true, [], rfl, fun _ => rfl, .bool true, ?_, fun _ => ⟨by simp, by simp⟩⟩, .of_keep hk, hos, .of_eq hg'⟩
  exact postW_of (by wrow_shape) (by wtm_val) (by rfl)
