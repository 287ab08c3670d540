import PyProof.Rows.All
import Wide.All
import OpenK.AllK
import Wide.FinOn
import PySem.Challenge.RW_xw0283_01
/-
The statement is joined from these parts, each a text of its own in wip/ of the same repo (there with remarks and wider rows):
 1. `hd`: the walk over the program's top, by the kit's open_top.
 2. A small abstract machine: deep values DV, mutable objects MObj, relations Rep, Good; a compact syntax CE, CS; the compilers cE, cS from Expr, Stmt; a calculator of weakest preconditions wpE, wpSs.
 3. Its soundness over the model: one lemma for each construct, then `wp_sound`, then `spec_of` (a function's CallOk from its compiled body).
 4. The bodies c_NAME of the program's functions, compiled, and the facts Gd.k_NAME that tie them to the program's heap.
 5. The plain model of the law (P texts): items, rows, texts, `LawInv`.
 6. Specs sp_NAME of every function, each walked once in the small machine (S texts).
 7. The plain law: what the functions compute answers as the statement says, `law_inv` (P texts).
 8. `join` and the theorem.
Rows are told with few blanks, for the file's size alone.
-/
set_option Elab.async false
set_option maxRecDepth 100000
section
open PySem PySem.W PyProof.Rows
namespace Mine
set_option maxHeartbeats 8000000 in
open_top hd for PySem.Challenge.rw_xw0283_01
def okL: List Nat->Bool
 |[]=>true
 |c::r=>Nat.ble c 127&&okL r
def okc (s: Str): Bool := okL s.cps.toList
def encL: List Nat->Nat
 |[]=>0
 |c::r=>encL r * 129+(c+1)
def enc (s: Str): Nat := encL s.cps.toList
theorem encL_inj: ∀{a b: List Nat},okL a=true->okL b=true->encL a=encL b->a=b
 |[],[],_,_,_=>rfl
 |[],c::r,_,_,h=>by simp only[encL]at h;omega
 |c::r,[],_,_,h=>by simp only[encL]at h;omega
 |c::r,d::t,ha,hb,h=>by
  simp only[okL,Bool.and_eq_true,Nat.ble_eq]at ha hb
  simp only[encL]at h
  have h1: c=d := by omega
  have h2: encL r=encL t := by omega
  rw[h1,encL_inj ha.2 hb.2 h2]
theorem enc_inj {s t: Str} (hs: okc s=true) (ht: okc t=true) (h: enc s=enc t): s=t := by
 cases s;cases t
 have := encL_inj hs ht h
 simp only[Str.mk.injEq]
 exact Array.toList_inj.mp this
inductive Bi where
 |len|range|zip|tuple|sorted|min|int|bytes
 deriving DecidableEq
def Bi.val: Bi->Value
 |.len=>.builtin "len"|.range=>.type "range"|.zip=>.type "zip"|.tuple=>.type "tuple"|.sorted=>.builtin "sorted"|.min=>.builtin "min"|.int=>.type "int"|.bytes=>.type "bytes"
inductive DV where
 |none
 |bool (b: Bool)
 |int (i: Int)
 |str (n: Nat)
 |bytes (b: Array UInt8)
 |rng (a b c: Int)
 |tup (l: List DV)
 |lst (l: List DV)
 |inst (C: Addr) (ns: List Nat) (vs: List DV)
 |ref (a: Addr)
 |fn (a: Addr)
 |cls (C: Addr)
 |bi (b: Bi)
abbrev Hp := Addr->Option Obj
mutual
inductive Rep (g: Hp): DV->Value->Prop
 |none: Rep g .none Value.none
 |bool (b: Bool): Rep g (.bool b) (Value.bool b)
 |int (i: Int) (t: Tok): Rep g (.int i) (Value.int i t)
 |str (s: Str) (t: Tok) (h: okc s=true): Rep g (.str (enc s)) (Value.str s t)
 |bytes (b: Array UInt8) (t: Tok): Rep g (.bytes b) (Value.bytes b t)
 |rng {a: Addr} {x y z: Int} {t u v: Tok} (h: g a=some {cls := .type "range",dict := none,data := .fields #[.int x t,.int y u,.int z v],slots := #[]}): Rep g (.rng x y z) (.ref a)
 |tup {a: Addr} {o: Obj} {n: Nat} {ds: List DV} {vs: List Value} (h: g a=some o) (hc: o.cls=.type "tuple") (hd: o.data=.seq vs.toArray n) (r: RepL g ds vs): Rep g (.tup ds) (.ref a)
 |lst {a: Addr} {n: Nat} {ds: List DV} {vs: List Value} (h: g a=some (listOf vs.toArray n)) (r: RepL g ds vs): Rep g (.lst ds) (.ref a)
 |inst {a C dx: Addr} {sl: Array (Option Value)} {es: List DictEntry} {n: Nat} {ns: List Nat} {ds: List DV} (h: g a=some ⟨.ref C,some dx,.plain,sl⟩) (hd: g dx=some (dictOf es n)) (r: RepE g ns ds es): Rep g (.inst C ns ds) (.ref a)
 |ref (a: Addr): Rep g (.ref a) (Value.ref a)
 |fn (a: Addr): Rep g (.fn a) (Value.ref a)
 |cls (a: Addr): Rep g (.cls a) (Value.ref a)
 |bi (b: Bi): Rep g (.bi b) b.val
inductive RepL (g: Hp): List DV->List Value->Prop
 |nil: RepL g [] []
 |cons {d: DV} {v: Value} {ds: List DV} {vs: List Value} (h: Rep g d v) (r: RepL g ds vs): RepL g (d::ds) (v::vs)
inductive RepE (g: Hp): List Nat->List DV->List DictEntry->Prop
 |nil: RepE g [] [] []
 |cons {d: DV} {v: Value} {x: Str} {t: Tok} {hs: Int} {ns: List Nat} {ds: List DV} {es: List DictEntry} (ok: okc x=true) (h: Rep g d v) (r: RepE g ns ds es) :
   RepE g (enc x::ns) (d::ds) (⟨hs,.str x t,v⟩::es)
end
def Ext (g g': Hp): Prop := ∀ b o,g b=some o->g' b=some o
theorem Ext.rfl {g: Hp}: Ext g g := fun _ _ h=>h
theorem Ext.trans {g g' g'': Hp} (a: Ext g g') (b: Ext g' g''): Ext g g'' := fun _ _ h=>b _ _ (a _ _ h)
mutual
theorem Rep.mono {g g': Hp} (e: Ext g g'): ∀{d v},Rep g d v->Rep g' d v
 |_,_,.none=>.none
 |_,_,.bool b=>.bool b
 |_,_,.int i t=>.int i t
 |_,_,.str s t h=>.str s t h
 |_,_,.bytes b t=>.bytes b t
 |_,_,.rng h=>.rng (e _ _ h)
 |_,_,.tup h hc hd r=>.tup (e _ _ h) hc hd (RepL.mono e r)
 |_,_,.lst h r=>.lst (e _ _ h) (RepL.mono e r)
 |_,_,.inst h hd r=>.inst (e _ _ h) (e _ _ hd) (RepE.mono e r)
 |_,_,.ref a=>.ref a
 |_,_,.fn a=>.fn a
 |_,_,.cls a=>.cls a
 |_,_,.bi b=>.bi b
theorem RepL.mono {g g': Hp} (e: Ext g g'): ∀{ds vs},RepL g ds vs->RepL g' ds vs
 |_,_,.nil=>.nil
 |_,_,.cons h r=>.cons (Rep.mono e h) (RepL.mono e r)
theorem RepE.mono {g g': Hp} (e: Ext g g'): ∀{ns ds es},RepE g ns ds es->RepE g' ns ds es
 |_,_,_,.nil=>.nil
 |_,_,_,.cons ok h r=>.cons ok (Rep.mono e h) (RepE.mono e r)
end
theorem RepL.length {g: Hp}: ∀{ds: List DV} {vs: List Value},RepL g ds vs->ds.length=vs.length
 |_,_,.nil=>rfl
 |_,_,.cons _ r=>by rw[List.length_cons,List.length_cons,r.length]
theorem RepL.append {g: Hp}: ∀{ds ds': List DV} {vs vs': List Value},RepL g ds vs->RepL g ds' vs'->RepL g (ds++ds') (vs++vs')
 |_,_,_,_,.nil,k=>k
 |_,_,_,_,.cons h r,k=>.cons h (r.append k)
theorem RepL.get {g: Hp}: ∀{ds: List DV} {vs: List Value},RepL g ds vs->∀{i: Nat} {d: DV},ds[i]?=some d->∃ v,vs[i]?=some v/\Rep g d v
 |_,_,.nil,_,_,h=>by simp at h
 |_,_,.cons h r,0,d,e=>by simp only[List.getElem?_cons_zero,Option.some.injEq]at e;subst e;exact⟨_,rfl,h⟩
 |_,_,.cons h r,i+1,d,e=>by simp only[List.getElem?_cons_succ]at e ⊢;exact r.get e
theorem RepL.of_get {g: Hp}: ∀{ds: List DV} {vs: List Value},RepL g ds vs->∀{i: Nat} {v: Value},vs[i]?=some v->∃ d,ds[i]?=some d/\Rep g d v
 |_,_,.nil,_,_,h=>by simp at h
 |_,_,.cons h r,0,d,e=>by simp only[List.getElem?_cons_zero,Option.some.injEq]at e;subst e;exact⟨_,rfl,h⟩
 |_,_,.cons h r,i+1,d,e=>by simp only[List.getElem?_cons_succ]at e ⊢;exact r.of_get e
theorem RepL.drop {g: Hp}: ∀(n: Nat) {ds: List DV} {vs: List Value},RepL g ds vs->RepL g (ds.drop n) (vs.drop n)
 |0,_,_,h=>h
 |_+1,_,_,.nil=>.nil
 |n+1,_,_,.cons _ r=>r.drop n
theorem RepL.take {g: Hp}: ∀(n: Nat) {ds: List DV} {vs: List Value},RepL g ds vs->RepL g (ds.take n) (vs.take n)
 |0,_,_,_=>.nil
 |_+1,_,_,.nil=>.nil
 |n+1,_,_,.cons h r=>.cons h (r.take n)
theorem RepL.reverse {g: Hp}: ∀{ds: List DV} {vs: List Value},RepL g ds vs->RepL g ds.reverse vs.reverse
 |_,_,.nil=>.nil
 |_,_,.cons h r=>by rw[List.reverse_cons,List.reverse_cons];exact r.reverse.append (.cons h .nil)
theorem RepL.set {g: Hp}: ∀{ds: List DV} {vs: List Value},RepL g ds vs->∀(i: Nat) {d: DV} {v: Value},Rep g d v->RepL g (ds.set i d) (vs.set i v)
 |_,_,.nil,_,_,_,_=>.nil
 |_,_,.cons h r,0,_,_,k=>.cons k r
 |_,_,.cons h r,i+1,_,_,k=>.cons h (r.set i k)
def fld: List Nat->List DV->Nat->Option DV
 |n::ns,d::ds,m=>if Nat.beq n m then some d else fld ns ds m
 |_,_,_=>.none
def fput: List Nat->List DV->Nat->DV->List Nat×List DV
 |n::ns,d::ds,m,v=>if Nat.beq n m then(n::ns,v::ds)else let r := fput ns ds m v;(n::r.1,d::r.2)
 |_,_,m,v=>([m],[v])
inductive F2 {α β: Type} (R: α->β->Prop): List α->List β->Prop
 |nil: F2 R [] []
 |cons {a: α} {b: β} {l: List α} {m: List β} (h: R a b) (r: F2 R l m): F2 R (a::l) (b::m)
inductive MObj where
 |lst (l: List DV)
 |dE
 |dI (ks: List Int)
 |dT (ks: List (List Int))
 |dS (kv: List (Nat×DV))
 |inst (C dx: Addr)
 |attrs (ns: List Nat) (vs: List DV)
abbrev Mt := Addr->Option MObj
def Mt.set (m: Mt) (a: Addr) (o: MObj): Mt := fun b=>if Nat.beq b a then some o else m b
def Mt.del (m: Mt) (a: Addr): Mt := fun b=>if Nat.beq b a then none else m b
theorem beq_false {a b: Nat} (h: a≠b): Nat.beq a b=false := by
 cases e: Nat.beq a b with
 |false=>rfl
 |true=>exact absurd (Nat.eq_of_beq_eq_true e) h
theorem beq_self (a: Nat): Nat.beq a a=true := Nat.beq_refl a
inductive MRep (prog: Program) (w: World) (g: Hp): MObj->Obj->Prop
 |lst {ds: List DV} {vs: List Value} {n: Nat} (r: RepL g ds vs): MRep prog w g (.lst ds) (listOf vs.toArray n)
 |dE {ep: Nat}: MRep prog w g .dE {cls := .type "dict",data := .dict #[] ep}
 |dI {o: Obj} {kvs: List (Int×Value)} (h: o.IsDictOf (intKind prog w) kvs): MRep prog w g (.dI (kvs.map (·.1))) o
 |dT {o: Obj} {xs: List (List Int×Addr×Value)} {es: Array DictEntry} {ep: Nat} (hx: o.ExactDict) (hd: o.data=.dict es ep) (he: es.toList=xs.map (entryOfKey (tupleKind (intKind prog w))))
   (hi: ∀ x∈xs,∃ o n vs,g x.2.1=some o/\o.cls=.type "tuple"/\o.data=.seq vs n/\ItemsAre (intKind prog w) x.1 vs.toList) (nd: (xs.map (·.1)).Nodup): MRep prog w g (.dT (xs.map (·.1))) o
 |dS {o: Obj} {kvs: List (Str×Value)} {kv: List (Nat×DV)} (h: o.IsDictOf (strKind prog w) kvs) (r: F2 (fun k e=>okc e.1=true/\enc e.1=k.1/\Rep g k.2 e.2) kv kvs): MRep prog w g (.dS kv) o
 |inst {C dx: Addr} {sl: Array (Option Value)}: MRep prog w g (.inst C dx) ⟨.ref C,some dx,.plain,sl⟩
 |attrs {ns: List Nat} {ds: List DV} {es: List DictEntry} {n: Nat} (r: RepE g ns ds es): MRep prog w g (.attrs ns ds) (dictOf es n)
theorem F2.imp {α β: Type} {R S: α->β->Prop} (h: ∀ a b,R a b->S a b): ∀{l: List α} {m: List β},F2 R l m->F2 S l m
 |_,_,.nil=>.nil
 |_,_,.cons a r=>.cons (h _ _ a) (F2.imp h r)
theorem MRep.mono {prog: Program} {w: World} {g g': Hp} (e: Ext g g'): ∀{m o},MRep prog w g m o->MRep prog w g' m o
 |_,_,.lst r=>.lst (r.mono e)
 |_,_,.dE=>.dE
 |_,_,.dI h=>.dI h
 |_,_,.dT hx hd he hi nd=>.dT hx hd he (fun x hx=>by obtain⟨o,n,vs,a,b⟩ := hi x hx;exact⟨o,n,vs,e _ _ a,b⟩) nd
 |_,_,.dS h r=>.dS h (F2.imp (fun _ _ ⟨a,b,c⟩=>⟨a,b,c.mono e⟩) r)
 |_,_,.inst=>.inst
 |_,_,.attrs r=>.attrs (r.mono e)
structure Wd where
 prog: Program
 w: World
 K: Frag
 h₀: Heap
 mg: Str->Option Value
 mb: Str->Option Value
 os: OsState
abbrev Wd.M (W: Wd): Model := model W.prog W.w
structure Wd.Ok (W: Wd): Prop where
 kin: W.K.In W.h₀
 ng: W.h₀.Ns mainGlobals W.mg
 nb: W.h₀.Ns builtinsNs W.mb
 nolim: W.h₀.NoLimit
 bt: ∀ x: Str,x≠"__name__"->W.mb x=bootBuiltins x
def isD (o: Obj): Bool := match o.data with|.dict _ _=>true|_=>false
def Kpt (o: Obj) (x: Option Obj): Prop := x=some o\/(isD o=true/\∃ sl,x=some {o with slots := sl})
structure Sim (W: Wd) (g kp: Hp) (m: Mt) (s: Shared): Prop where
 base: ∀ b o,W.h₀.get? b=some o->g b=some o
 frz: ∀ b o,g b=some o->s.heap.get? b=some o
 kept: ∀ b o,kp b=some o->g b=none/\Kpt o (s.heap.get? b)
 muts: ∀ b o,m b=some o->g b=none/\kp b=none/\∃ ob,s.heap.get? b=some ob/\MRep W.prog W.w g o ob
 mabove: ∀ b o,m b=some o->W.h₀.objs.size<=b
 gens: s.gens=#[]
 os: s.os=W.os
abbrev Loc := List (Nat×DV)
def look: Loc->Nat->Option DV
 |[],_=>none
 |(k,d)::r,x=>if Nat.beq k x then some d else look r x
def put: Loc->Nat->DV->Loc
 |[],x,d=>[(x,d)]
 |(k,e)::r,x,d=>if Nat.beq k x then(k,d)::r else(k,e)::put r x d
structure St where
 loc: Loc
 mu: Mt
def kindN (kd: List (Nat×Nat)) (x: Nat): Nat := match kd with
 |[]=>9
 |(y,k)::r=>if Nat.beq y x then k else kindN r x
structure Frm (env: Env) (kd: List (Nat×Nat)) (kp g: Hp) (σ: St) (s: Shared): Prop where
 ns: ∃ m,s.heap.Ns env.locals m/\∀(x: Str) d,okc x=true->look σ.loc (enc x)=some d->kindN kd (enc x)=0->∃ v,m x=some v/\Rep g d v
 cells: ∀(x: Str) d,okc x=true->look σ.loc (enc x)=some d->kindN kd (enc x)=1->∃ c v,env.cells.lookup x=some c/\s.heap.IsCell c (some v)/\Rep g d v
 apart: g env.locals=none/\kp env.locals=none/\σ.mu env.locals=none
 capart: ∀ x c,(x,c)∈env.cells->g c=none/\σ.mu c=none/\c≠env.locals/\∃ v,s.heap.IsCell c v
section
theorem look_put_self: ∀(l: Loc) (x: Nat) (d: DV),look (put l x d) x=some d
 |[],x,d=>by simp[put,look]
 |(k,e)::r,x,d=>by
  unfold put
  cases h: Nat.beq k x with
  |true=>simp[look,h]
  |false=>simp[look,h,look_put_self r x d]
theorem look_put_ne: ∀(l: Loc) {x y: Nat} (d: DV),x≠y->look (put l x d) y=look l y
 |[],x,y,d,h=>by simp[put,look,beq_false h]
 |(k,e)::r,x,y,d,h=>by
  unfold put
  cases hk: Nat.beq k x with
  |true=>
   have: k=x := Nat.eq_of_beq_eq_true hk
   subst this
   simp[look,beq_false h]
  |false=>
   simp only[Bool.false_eq_true,if_false,look]
   cases Nat.beq k y with
   |true=>rfl
   |false=>simp[look_put_ne r d h]
theorem Mt.set_self (m: Mt) (a: Addr) (o: MObj): m.set a o a=some o := by simp[Mt.set]
theorem Mt.set_ne (m: Mt) {a b: Addr} (o: MObj) (h: b≠a): m.set a o b=m b := by simp[Mt.set,beq_false h]
theorem Mt.del_self (m: Mt) (a: Addr): m.del a a=none := by simp[Mt.del]
theorem Mt.del_ne (m: Mt) {a b: Addr} (h: b≠a): m.del a b=m b := by simp[Mt.del,beq_false h]
section
variable {W: Wd} {g g' kp: Hp} {m m': Mt} {s s': Shared}
theorem Sim.ext (S: Sim W g kp m s): ∀ b o,W.h₀.get? b=some o->s.heap.get? b=some o := fun b o h=>S.frz b o (S.base b o h)
theorem Sim.gmu (S: Sim W g kp m s) {b: Addr} {o: Obj} (h: g b=some o): m b=none := by
 cases e: m b with
 |none=>rfl
 |some x=>rw[(S.muts b x e).1]at h;cases h
theorem Sim.kmu (S: Sim W g kp m s) {b: Addr} {o: Obj} (h: kp b=some o): m b=none := by
 cases e: m b with
 |none=>rfl
 |some x=>rw[(S.muts b x e).2.1]at h;cases h
theorem Sim.gnone (S: Sim W g kp m s) {b: Addr} (h: s.heap.get? b=none): g b=none := by
 cases e: g b with
 |none=>rfl
 |some x=>rw[S.frz b x e]at h;cases h
theorem Sim.knone (S: Sim W g kp m s) {b: Addr} (h: s.heap.get? b=none): kp b=none := by
 cases e: kp b with
 |none=>rfl
 |some x=>rcases(S.kept b x e).2 with q|⟨_,sl,q⟩<;>rw[q]at h<;>cases h
theorem Sim.mnone (S: Sim W g kp m s) {b: Addr} (h: s.heap.get? b=none): m b=none := by
 cases e: m b with
 |none=>rfl
 |some x=>obtain⟨_,_,ob,q,_⟩ := S.muts b x e;rw[q]at h;cases h
theorem fresh_none (h: Heap): h.get? h.objs.size=none := by
 cases e: h.get? h.objs.size with
 |none=>rfl
 |some o=>exact absurd (Heap.lt_size e) (Nat.lt_irrefl _)
theorem none_of_le {h: Heap} {b: Addr} (hb: h.objs.size<=b): h.get? b=none := by
 cases e: h.get? b with
 |none=>rfl
 |some o=>exact absurd (Heap.lt_size e) (Nat.not_lt.mpr hb)
theorem Sim.step (S: Sim W g kp m s) (hg: Ext g g')
  (hnew: ∀ b o,g' b=some o->g b=some o\/(s'.heap.get? b=some o/\(s.heap.get? b=none\/m b≠none)))
  (hk: ∀ b o,s.heap.get? b=some o->g b≠none\/kp b≠none->m b=none->s'.heap.get? b=some o)
  (hm: ∀ b o,m' b=some o->g' b=none/\(s.heap.objs.size<=b\/m b≠none)/\∃ ob,s'.heap.get? b=some ob/\MRep W.prog W.w g' o ob)
  (hge: s'.gens=s.gens) (hos: s'.os=s.os) (hsz: W.h₀.objs.size<=s.heap.objs.size): Sim W g' kp m' s' where
 mabove b o h := by
  rcases(hm b o h).2.1 with q|q
  ·exact Nat.le_trans hsz q
  ·cases e: m b with
   |none=>exact absurd e q
   |some x=>exact S.mabove b x e
 base b o h := hg _ _ (S.base b o h)
 frz b o h := by
  rcases hnew b o h with h|h
  ·exact hk _ _ (S.frz b o h) (.inl (by rw[h];simp)) (S.gmu h)
  ·exact h.1
 kept b o h := by
  obtain⟨h1,h2⟩ := S.kept b o h
  refine⟨?_,?_⟩
  ·cases e: g' b with
   |none=>rfl
   |some x=>
    rcases hnew b x e with q|⟨_,q|q⟩
    ·rw[h1]at q;cases q
    ·rcases h2 with h2|⟨_,sl,h2⟩<;>rw[h2]at q<;>cases q
    ·exact absurd (S.kmu h) q
  ·rcases h2 with h2|⟨hd,sl,h2⟩
   ·exact .inl (hk _ _ h2 (.inr (by rw[h];simp)) (S.kmu h))
   ·exact .inr ⟨hd,sl,hk _ _ h2 (.inr (by rw[h];simp)) (S.kmu h)⟩
 muts b o h := by
  obtain⟨h1,h2,h3⟩ := hm b o h
  refine⟨h1,?_,h3⟩
  rcases h2 with q|q
  ·exact S.knone (none_of_le q)
  ·cases e: kp b with
   |none=>rfl
   |some x=>exact absurd (S.kmu e) q
 gens := hge.trans S.gens
 os := hos.trans S.os
theorem Sim.toks (S: Sim W g kp m s) (t: Nat): Sim W g kp m {s with toks := t} := ⟨S.base,S.frz,S.kept,S.muts,S.mabove,S.gens,S.os⟩
end
structure Cx where
 A: Around
 env: Env
 kd: List (Nat×Nat)
 kp: Hp
 g₀: Hp
structure Good (W: Wd) (cx: Cx) (g: Hp) (σ: St) (s: Shared): Prop where
 ext: Ext cx.g₀ g
 sim: Sim W g cx.kp σ.mu s
 frm: Frm cx.env cx.kd cx.kp g σ s
 above: W.h₀.objs.size<=cx.env.locals
section
variable {W: Wd} {cx: Cx} {g g': Hp} {σ: St} {s s': Shared}
theorem Good.lt (G: Good W cx g σ s): cx.env.locals<s.heap.objs.size := by
 obtain⟨⟨mm,hns,_⟩,_⟩ := G.frm
 exact hns.lt
theorem Good.size (G: Good W cx g σ s): W.h₀.objs.size<=s.heap.objs.size := Nat.le_of_lt (Nat.lt_of_le_of_lt G.above G.lt)
theorem Good.stepL {m': Mt} (G: Good W cx g σ s) (hg: Ext g g')
  (hnew: ∀ b o,g' b=some o->g b=some o\/(s'.heap.get? b=some o/\(s.heap.get? b=none\/σ.mu b≠none)))
  (hk: ∀ b o,b≠cx.env.locals->s.heap.get? b=some o->σ.mu b=none->s'.heap.get? b=some o)
  (hL: ∀ mm,s.heap.Ns cx.env.locals mm->s'.heap.Ns cx.env.locals mm)
  (hm: ∀ b o,m' b=some o->g' b=none/\(s.heap.objs.size<=b\/σ.mu b≠none)/\∃ ob,s'.heap.get? b=some ob/\MRep W.prog W.w g' o ob)
  (hge: s'.gens=s.gens) (hos: s'.os=s.os): Good W cx g' ⟨σ.loc,m'⟩ s' where
 ext := G.ext.trans hg
 above := G.above
 sim := G.sim.step hg hnew (fun b o h hgk hmu=>hk b o (fun e=>by
  subst e
  obtain⟨a1,a2,_⟩ := G.frm.apart
  rcases hgk with q|q
  ·exact q a1
  ·exact q a2) h hmu) hm hge hos G.size
 frm := by
  obtain⟨⟨mm,hns,hv⟩,hc,⟨a1,a2,a3⟩,ca⟩ := G.frm
  have hns' := hL mm hns
  obtain⟨oL,es,ep,hLo,hr⟩ := hns
  refine⟨⟨mm,hns',fun x d ok hl hkd=>?_⟩,fun x d ok hl hkd=>?_,⟨?_,a2,?_⟩,fun x c hxc=>?_⟩
  ·obtain⟨v,h1,h2⟩ := hv x d ok hl hkd
   exact⟨v,h1,h2.mono hg⟩
  ·obtain⟨c,v,h1,⟨o,h2,h2'⟩,h3⟩ := hc x d ok hl hkd
   exact⟨c,v,h1,⟨o,hk _ _ (ca x c (mem_of_lookup h1)).2.2.1 h2 (ca x c (mem_of_lookup h1)).2.1,h2'⟩,h3.mono hg⟩
  ·cases e: g' cx.env.locals with
   |none=>rfl
   |some o=>
    rcases hnew _ o e with q|⟨_,q|q⟩
    ·rw[a1]at q;cases q
    ·rw[hLo]at q;cases q
    ·exact absurd a3 q
  ·cases e: m' cx.env.locals with
   |none=>exact e
   |some o=>
    rcases(hm _ o e).2.1 with q|q
    ·rw[none_of_le q]at hLo;cases hLo
    ·exact absurd a3 q
  ·obtain⟨c1,c2,c3,v,o,ho,hd⟩ := ca x c hxc
   refine⟨?_,?_,c3,v,o,hk _ _ c3 ho c2,hd⟩
   ·cases e: g' c with
    |none=>rfl
    |some o'=>
     rcases hnew _ o' e with q|⟨_,q|q⟩
     ·rw[c1]at q;cases q
     ·rw[ho]at q;cases q
     ·exact absurd c2 q
   ·cases e: m' c with
    |none=>exact e
    |some o'=>
     rcases(hm _ o' e).2.1 with q|q
     ·rw[none_of_le q]at ho;cases ho
     ·exact absurd c2 q
theorem Good.step {m': Mt} (G: Good W cx g σ s) (hg: Ext g g')
  (hnew: ∀ b o,g' b=some o->g b=some o\/(s'.heap.get? b=some o/\(s.heap.get? b=none\/σ.mu b≠none)))
  (hk: ∀ b o,s.heap.get? b=some o->σ.mu b=none->s'.heap.get? b=some o)
  (hm: ∀ b o,m' b=some o->g' b=none/\(s.heap.objs.size<=b\/σ.mu b≠none)/\∃ ob,s'.heap.get? b=some ob/\MRep W.prog W.w g' o ob)
  (hge: s'.gens=s.gens) (hos: s'.os=s.os): Good W cx g' ⟨σ.loc,m'⟩ s' :=
 G.stepL hg hnew (fun b o _=>hk b o) (fun mm ⟨o,es,ep,h,r⟩=>⟨o,es,ep,hk _ _ h G.frm.apart.2.2,r⟩) hm hge hos
theorem Good.toks (G: Good W cx g σ s) (t: Nat): Good W cx g σ {s with toks := t} :=
 ⟨G.ext,G.sim.toks t,⟨G.frm.ns,G.frm.cells,G.frm.apart,G.frm.capart⟩,G.above⟩
theorem Good.grow (G: Good W cx g σ s) {h': Heap} {t: Nat} (hk: ∀ b o,s.heap.get? b=some o->h'.get? b=some o): Good W cx g σ {s with heap := h',toks := t} := by
 have := G.step (g' := g) (m' := σ.mu) (s' := {s with heap := h',toks := t}) Ext.rfl (fun _ _ h=>.inl h) (fun b o h _=>hk b o h) (fun b o h=>by
  obtain⟨h1,_,ob,h3,h4⟩ := G.sim.muts b o h
  exact⟨h1,.inr (by rw[h];simp),ob,hk _ _ h3,h4⟩) rfl rfl
 exact this
def gadd (g: Hp) (a: Addr) (o: Obj): Hp := fun b=>if Nat.beq b a then some o else g b
theorem gadd_self (g: Hp) (a: Addr) (o: Obj): gadd g a o a=some o := by simp[gadd]
theorem gadd_ne (g: Hp) {a b: Addr} (o: Obj) (h: b≠a): gadd g a o b=g b := by simp[gadd,beq_false h]
theorem ext_gadd {g: Hp} {a: Addr} {o: Obj} (h: g a=none): Ext g (gadd g a o) := fun b o' e=>by
 by_cases q: b=a
 ·subst q;rw[h]at e;cases e
 ·rw[gadd_ne _ _ q];exact e
theorem Good.newF (G: Good W cx g σ s) (o: Obj) (hf: o.isFreed=false): Ext g (gadd g s.heap.objs.size o)/\Good W cx (gadd g s.heap.objs.size o) σ {s with heap := s.heap.push o} := by
 have hn := fresh_none s.heap
 have he: Ext g (gadd g s.heap.objs.size o) := ext_gadd (G.sim.gnone hn)
 refine⟨he,?_⟩
 have := G.step (g' := gadd g s.heap.objs.size o) (m' := σ.mu) (s' := {s with heap := s.heap.push o}) he (fun b o' h=>?_) (fun b o' h _=>Heap.get?_push_of_some _ h) (fun b o' h=>?_) rfl rfl
 ·exact this
 ·by_cases q: b=s.heap.objs.size
  ·subst q;rw[gadd_self]at h;cases h
   exact .inr ⟨Heap.get?_push_size _ hf,.inl hn⟩
  ·rw[gadd_ne _ _ q]at h;exact .inl h
 ·obtain⟨h1,_,ob,h3,h4⟩ := G.sim.muts b o' h
  have q: b≠s.heap.objs.size := fun q=>by subst q;rw[hn]at h3;cases h3
  exact⟨by rw[gadd_ne _ _ q];exact h1,.inr (by rw[h];simp),ob,Heap.get?_push_of_some _ h3,h4.mono he⟩
theorem Good.newM (G: Good W cx g σ s) {mo: MObj} (o: Obj) (hf: o.isFreed=false) (r: MRep W.prog W.w g mo o): Good W cx g ⟨σ.loc,σ.mu.set s.heap.objs.size mo⟩ {s with heap := s.heap.push o} := by
 have hn := fresh_none s.heap
 refine G.step Ext.rfl (fun _ _ h=>.inl h) (fun b o' h _=>Heap.get?_push_of_some _ h) (fun b o' h=>?_) rfl rfl
 by_cases q: b=s.heap.objs.size
 ·subst q;rw[Mt.set_self]at h;cases h
  exact⟨G.sim.gnone hn,.inl (Nat.le_refl _),o,Heap.get?_push_size _ hf,r⟩
 ·rw[Mt.set_ne _ _ q]at h
  obtain⟨h1,_,ob,h3,h4⟩ := G.sim.muts b o' h
  exact⟨h1,.inr (by rw[h];simp),ob,Heap.get?_push_of_some _ h3,h4⟩
theorem Good.updM (G: Good W cx g σ s) {a: Addr} {mo mo': MObj} {o': Obj} {h': Heap} {t: Nat} (hm: σ.mu a=some mo) (hs: Heap.SameBut a s.heap h') (ho: h'.get? a=some o') (r: MRep W.prog W.w g mo' o') :
  Good W cx g ⟨σ.loc,σ.mu.set a mo'⟩ {s with heap := h',toks := t} := by
 refine G.step Ext.rfl (fun _ _ h=>.inl h) (fun b o h hb=>?_) (fun b o h=>?_) rfl rfl
 ·have q: b≠a := fun q=>by subst q;rw[hm]at hb;cases hb
  exact(hs.2 b q).trans h
 ·by_cases q: b=a
  ·subst q;rw[Mt.set_self]at h;cases h
   exact⟨(G.sim.muts _ _ hm).1,.inr (by rw[hm];simp),o',ho,r⟩
  ·rw[Mt.set_ne _ _ q]at h
   obtain⟨h1,_,ob,h3,h4⟩ := G.sim.muts b o h
   exact⟨h1,.inr (by rw[h];simp),ob,(hs.2 b q).trans h3,h4⟩
theorem Good.drop (G: Good W cx g σ s) {m': Mt} (hm: ∀ b o,m' b=some o->σ.mu b=some o): Good W cx g ⟨σ.loc,m'⟩ s :=
 G.step Ext.rfl (fun _ _ h=>.inl h) (fun _ _ h _=>h) (fun b o h=>by
  obtain⟨k1,_,ob',k3,k4⟩ := G.sim.muts b o (hm b o h)
  exact⟨k1,.inr (by rw[hm b o h];simp),ob',k3,k4⟩) rfl rfl
theorem Ns_unique {h: Heap} {L: Addr} {m m': Str->Option Value} (a: h.Ns L m) (b: h.Ns L m'): m=m' := by
 obtain⟨o,es,ep,ho,hd,_,hm⟩ := a
 obtain⟨o',es',ep',ho',hd',_,hm'⟩ := b
 rw[ho]at ho';cases ho'
 rw[hd]at hd';cases hd'
 funext x
 rw[<-hm x,<-hm' x]
def ledger (h₀ h: Heap) (L: Addr): List (Addr×Obj) := (List.range h.objs.size).filterMap fun b=>if b=L then none else match h₀.get? b with|some _=>none|none=>(h.get? b).map fun o=>(b,o)
theorem mem_ledger {h₀ h: Heap} {L b: Addr} {o: Obj}: (b,o)∈ledger h₀ h L↔b≠L/\h₀.get? b=none/\h.get? b=some o := by
 unfold ledger
 rw[List.mem_filterMap]
 constructor
 ·rintro⟨c,_,hc⟩
  by_cases q: c=L
  ·rw[if_pos q]at hc;cases hc
  ·rw[if_neg q]at hc
   cases e: h₀.get? c with
   |some x=>rw[e]at hc;cases hc
   |none=>
    rw[e]at hc
    cases e2: h.get? c with
    |none=>rw[e2]at hc;cases hc
    |some x=>rw[e2]at hc;cases hc;exact⟨q,e,e2⟩
 ·rintro⟨h1,h2,h3⟩
  exact⟨b,List.mem_range.mpr (Heap.lt_size h3),by rw[if_neg h1,h2,h3];rfl⟩
def ledPut (a: Addr) (o: Obj): List (Addr×Obj)->List (Addr×Obj)
 |[]=>[]
 |p::r=>if p.1=a then(a,o)::r else p::ledPut a o r
theorem upd_put {a: Addr} {o o': Obj}: ∀{l: List (Addr×Obj)},(a,o)∈l->(l.map (·.1)).Nodup->Upd a o o' l (ledPut a o' l)
 |p::r,h,nd=>by
  rw[List.map_cons,List.nodup_cons]at nd
  unfold ledPut
  by_cases q: p.1=a
  ·rw[if_pos q]
   have: p=(a,o) := by
    rcases List.mem_cons.mp h with e|e
    ·exact e.symm
    ·exact absurd (List.mem_map.mpr ⟨_,e,rfl⟩) (q▸nd.1)
   subst this
   exact .head fun x hx e=>nd.1 (List.mem_map.mpr ⟨x,hx,e⟩)
  ·rw[if_neg q]
   refine .tail q (upd_put ?_ nd.2)
   rcases List.mem_cons.mp h with e|e
   ·exact absurd (by rw[<-e]) q
   ·exact e
theorem mem_put {a: Addr} {o: Obj} {p: Addr×Obj} (hp: p.1≠a) {l: List (Addr×Obj)} (h: p∈l): p∈ledPut a o l := by
 induction l with
 |nil=>cases h
 |cons q r ih=>
  unfold ledPut
  rcases List.mem_cons.mp h with e|e
  ·subst e;rw[if_neg hp];exact .head _
  ·split
   ·exact .tail _ e
   ·exact .tail _ (ih e)
theorem mem_put_self {a: Addr} {o o': Obj} {l: List (Addr×Obj)} (h: (a,o)∈l): (a,o')∈ledPut a o' l := by
 induction l with
 |nil=>cases h
 |cons q r ih=>
  unfold ledPut
  split
  ·exact .head _
  ·rename_i hq
   rcases List.mem_cons.mp h with e|e
   ·exact absurd (by rw[<-e]) hq
   ·exact .tail _ (ih e)
theorem nodup_filterMap {β: Type} {f: Nat->Option (Nat×β)} (hf: ∀ a p,f a=some p->p.1=a): ∀{l: List Nat},l.Nodup->((l.filterMap f).map (·.1)).Nodup
 |[],_=>.nil
 |a::r,nd=>by
  rw[List.nodup_cons]at nd
  rw[List.filterMap_cons]
  cases e: f a with
  |none=>exact nodup_filterMap hf nd.2
  |some p=>
   rw[List.map_cons,List.nodup_cons]
   refine⟨fun hm=>?_,nodup_filterMap hf nd.2⟩
   obtain⟨q,hq,hq'⟩ := List.mem_map.mp hm
   obtain⟨b,hb,hfb⟩ := List.mem_filterMap.mp hq
   have h1 := hf a p e
   have h2 := hf b q hfb
   exact nd.1 (by rw[<-h1,<-hq',h2];exact hb)
theorem ledger_nodup (h₀ h: Heap) (L: Addr): ((ledger h₀ h L).map (·.1)).Nodup := by
 refine nodup_filterMap (fun b p e=>?_) List.nodup_range
 split at e
 ·cases e
 ·split at e
  ·cases e
  ·cases q: h.get? b with
   |none=>rw[q]at e;cases e
   |some o=>rw[q]at e;cases e;rfl
theorem Good.fr (G: Good W cx g σ s): ∃ mm,Fr W.h₀ cx.env.locals s.heap mm/\News W.h₀ cx.env.locals s.heap (ledger W.h₀ s.heap cx.env.locals) := by
 obtain⟨⟨mm,hns,_⟩,_⟩ := G.frm
 exact⟨mm,⟨hns,G.sim.ext,G.above⟩,fun p hp=>by
  obtain⟨b,o⟩ := p
  obtain⟨h1,h2,h3⟩ := mem_ledger.mp hp
  exact⟨h3,h1,h2⟩⟩
theorem fr_keeps {h₀ h h': Heap} {L: Addr} {mm: Str->Option Value} {news: List (Addr×Obj)} (F': Fr h₀ L h' mm) (k: ∀ b o,h₀.get? b=some o->h.get? b=some o) (N': News h₀ L h' news) (hs: ∀ p∈ledger h₀ h L,p∈news) :
  ∀ b o,b≠L->h.get? b=some o->h'.get? b=some o := fun b o hb e=>by
 cases q: h₀.get? b with
 |some x=>rw[k _ _ q]at e;cases e;exact F'.keep _ _ q
 |none=>exact(N' _ (hs _ (mem_ledger.mpr ⟨hb,q,e⟩))).1
theorem Good.inLedger (G: Good W cx g σ s) {a: Addr} {mo: MObj} {o: Obj} (hm: σ.mu a=some mo) (ho: s.heap.get? a=some o): (a,o)∈ledger W.h₀ s.heap cx.env.locals := by
 refine mem_ledger.mpr ⟨fun e=>?_,?_,ho⟩
 ·subst e;rw[G.frm.apart.2.2]at hm;cases hm
 ·cases e: W.h₀.get? a with
  |none=>rfl
  |some x=>rw[G.sim.gmu (G.sim.base _ _ e)]at hm;cases hm
theorem Good.newsU (G: Good W cx g σ s) {mm: Str->Option Value} (F: Fr W.h₀ cx.env.locals s.heap mm) {h': Heap} {t: Nat} {a: Addr} {mo mo': MObj} {o o': Obj} (hm: σ.mu a=some mo) (ho: s.heap.get? a=some o)
  (F': Fr W.h₀ cx.env.locals h' mm) (N': News W.h₀ cx.env.locals h' (ledPut a o' (ledger W.h₀ s.heap cx.env.locals))) (r: MRep W.prog W.w g mo' o') :
  Good W cx g ⟨σ.loc,σ.mu.set a mo'⟩ {s with heap := h',toks := t} := by
 have hin := G.inLedger hm ho
 have hk: ∀ b o,b≠cx.env.locals->b≠a->s.heap.get? b=some o->h'.get? b=some o := fun b o hb hba e=>by
  cases q: W.h₀.get? b with
  |some x=>rw[G.sim.ext _ _ q]at e;cases e;exact F'.keep _ _ q
  |none=>exact(N' _ (mem_put hba (mem_ledger.mpr ⟨hb,q,e⟩))).1
 refine G.stepL Ext.rfl (fun _ _ h=>.inl h) (fun b o hb h hmu=>hk b o hb (fun e=>by subst e;rw[hm]at hmu;cases hmu) h) (fun m₂ h=>by rw[<-Ns_unique F.ns h];exact F'.ns) (fun b o₂ h=>?_) rfl rfl
 by_cases q: b=a
 ·subst q;rw[Mt.set_self]at h;cases h
  exact⟨(G.sim.muts _ _ hm).1,.inr (by rw[hm];simp),o',(N' _ (mem_put_self hin)).1,r⟩
 ·rw[Mt.set_ne _ _ q]at h
  obtain⟨h1,_,ob,h3,h4⟩ := G.sim.muts b o₂ h
  exact⟨h1,.inr (by rw[h];simp),ob,hk _ _ (fun e=>by subst e;rw[G.frm.apart.2.2]at h;cases h) q h3,h4⟩
theorem Good.newsL (G: Good W cx g σ s) {mm: Str->Option Value} (F: Fr W.h₀ cx.env.locals s.heap mm) {h': Heap} {t: Nat} {l: List DV} {o: Obj} (F': Fr W.h₀ cx.env.locals h' mm)
  (N': News W.h₀ cx.env.locals h' ((s.heap.objs.size,o)::ledger W.h₀ s.heap cx.env.locals)) (r: MRep W.prog W.w g (.lst l) o) :
  Good W cx g ⟨σ.loc,σ.mu.set s.heap.objs.size (.lst l)⟩ {s with heap := h',toks := t} := by
 have hn := fresh_none s.heap
 have hk := fr_keeps F' G.sim.ext N' fun p hp=>.tail _ hp
 refine G.stepL Ext.rfl (fun _ _ h=>.inl h) (fun b o hb h _=>hk b o hb h) (fun m₂ h=>by rw[<-Ns_unique F.ns h];exact F'.ns) (fun b o' h=>?_) rfl rfl
 by_cases q: b=s.heap.objs.size
 ·subst q;rw[Mt.set_self]at h;cases h
  exact⟨G.sim.gnone hn,.inl (Nat.le_refl _),o,(N' _ (.head _)).1,r⟩
 ·rw[Mt.set_ne _ _ q]at h
  obtain⟨h1,_,ob,h3,h4⟩ := G.sim.muts b o' h
  exact⟨h1,.inr (by rw[h];simp),ob,hk _ _ (fun e=>by subst e;rw[G.frm.apart.2.2]at h;cases h) h3,h4⟩
end
end
inductive BOp where|add|sub|mul|fdiv|mod|pow|band
 deriving DecidableEq
inductive COp where|eq|ne|lt|le|gt|ge|inn|nin
 deriving DecidableEq
mutual
inductive CE where
 |cst (d: DV)
 |var (x: Nat)
 |glob (x: Nat)
 |tup (es: CEs)
 |lst (es: CEs)
 |dct (kv: List (Nat×Int))
 |bin (op: BOp) (a b: CE)
 |neg (i: Int)
 |notE (a: CE)
 |ite (t a b: CE)
 |andE (a b: CE)
 |orE (a b: CE)
 |cmp (a: CE) (r: CCs)
 |isN (b: Bool) (a: CE)
 |call (f: CE) (es: CEs)
 |meth (o: CE) (m: Nat) (es: CEs)
 |attr (o: CE) (m: Nat)
 |sub (o i: CE)
 |slc (o l u: CE)
 |rev (o: CE)
 |comp (elt: CE) (xs: CN) (it: CE) (ifs: CEs)
 |compZ (elt: CE) (xs: CN) (a b: CE)
 |bad
inductive CEs where
 |nil
 |cons (e: CE) (r: CEs)
inductive CCs where
 |one (op: COp) (e: CE)
 |cons (op: COp) (e: CE) (r: CCs)
inductive CN where
 |one (x: Nat)
 |tup (xs: List Nat)
end
inductive CT where
 |nm (n: CN)
 |swap (xs: List Nat)
 |attr (o: CE) (m: Nat)
 |sub (o i: CE)
 |attr3 (o₁: CE) (m₁: Nat) (o₂: CE) (m₂: Nat) (o₃: CE) (m₃: Nat)
mutual
inductive CS where
 |asg (t: CT) (e: CE)
 |expr (e: CE)
 |ret (e: CE)
 |ife (t: CE) (a b: CSs)
 |whl (t: CE) (b: CSs)
 |forS (n: CN) (it: CE) (b: CSs)
 |raiseT (e: CE)
 |tryT (x: Nat) (e: CE) (ev told: Nat)
 |bad
inductive CSs where
 |nil
 |cons (s: CS) (r: CSs)
end
def kinds: List (Str×NameKind)->List (Nat×Nat)
 |[]=>[]
 |(x,k)::r=>(enc x,match k with|.local=>0|.cell=>1|.free=>1|.globalImplicit=>2|.globalExplicit=>8)::kinds r
def nClassdict: Nat := 2054627849268437038508221251
def nZip: Nat := 1894230
def nDot0: Nat := 6368
def okNames: List (Str×NameKind)->Bool
 |[]=>true
 |(x,_)::r=>okc x&&!(Nat.beq (enc x) nClassdict)&&okNames r
def kindsC (l: List (Str×NameKind)): List (Nat×Nat) := (kinds l).filter fun p=>!(Nat.beq p.1 nDot0)
def noCell: List (Str×NameKind)->Bool
 |[]=>true
 |(_,.cell)::_=>false
 |_::r=>noCell r
def isFun: ScopeKind->Bool
 |.function=>true
 |_=>false
def freeIn (kd: List (Nat×Nat)): List (Str×NameKind)->Bool
 |[]=>true
 |(x,.free)::r=>Nat.beq (kindN kd (enc x)) 1&&freeIn kd r
 |_::r=>freeIn kd r
def cnN: CN->List Nat
 |.one x=>[x]
 |.tup xs=>xs
def cBOp: Operator->Option BOp
 |.Add=>some .add|.Sub=>some .sub|.Mult=>some .mul|.FloorDiv=>some .fdiv|.Mod=>some .mod|.Pow=>some .pow|.BitAnd=>some .band
 |_=>none
def cCOp: CmpOp->Option COp
 |.Eq=>some .eq|.NotEq=>some .ne|.Lt=>some .lt|.LtE=>some .le|.Gt=>some .gt|.GtE=>some .ge|.In=>some .inn|.NotIn=>some .nin
 |_=>none
def cStr (x: Str): CE := if okc x then .cst (.str (enc x))else .bad
def cConst: Const->CE
 |.none=>.cst .none
 |.bool b=>.cst (.bool b)
 |.int i=>.cst (.int i)
 |.str x=>cStr x
 |.bytes b=>.cst (.bytes b.toArray)
 |_=>.bad
def cName (kd: List (Nat×Nat)) (x: Str): CE :=
 if okc x&&!(Nat.beq (enc x) (enc "__debug__"))then(match kindN kd (enc x)with|0=>.var (enc x)|1=>.var (enc x)|2=>.glob (enc x)|_=>.bad)else .bad
def cSto (kd: List (Nat×Nat)) (x: Str): Option Nat :=
 if okc x then(match kindN kd (enc x)with|0=>some (enc x)|1=>some (enc x)|_=>none)else none
def cStoL (kd: List (Nat×Nat)) (x: Str): Option Nat :=
 if okc x then(match kindN kd (enc x)with|0=>some (enc x)|_=>none)else none
def cNames (f: Str->Option Nat): List PySem.Expr->Option (List Nat)
 |[]=>some []
 |.Name x _::r=>match f x,cNames f r with|some n,some l=>some (n::l)|_,_=>none
 |_=>none
def cKV: List (Option PySem.Expr)->List PySem.Expr->Option (List (Nat×Int))
 |[],[]=>some []
 |some (.Constant (.str x) _ _)::r,.Constant (.int i) _ _::vs=>if okc x then(match cKV r vs with|some l=>some ((enc x,i)::l)|none=>none)else none
 |_,_=>none
def distinct: List Nat->Bool
 |[]=>true
 |x::r=>!(r.any fun y=>Nat.beq x y)&&distinct r
def cTgt (f: Str->Option Nat): PySem.Expr->Option CN
 |.Name x _=>match f x with|some n=>some (.one n)|none=>none
 |.Tuple es _ _=>match cNames f es with|some l=>if distinct l then some (.tup l)else none|none=>none
 |_=>none
def scOk (kd: List (Nat×Nat)) (sc: Scope) (xs: List Nat): Bool :=
 okNames sc.names&&isFun sc.kind&&noCell sc.names&&distinct ((kinds sc.names).map (·.1))&&freeIn kd sc.names&&(kindsC sc.names).all (fun p=>!(Nat.beq p.2 0)||xs.any (Nat.beq p.1))
def plainIter: PySem.Expr->Bool
 |.Set ..=>false
 |_=>true
def isTupN: CN->Bool
 |.tup _=>true
 |_=>false
def noStar: List PySem.Expr->Bool
 |[]=>true
 |.Starred ..::_=>false
 |_::r=>noStar r
def attrBase: PySem.Expr->Bool
 |.Call (.Name _ _) [] [] _=>false
 |_=>true
mutual
def cE: Nat->List (Nat×Nat)->PySem.Expr->CE
 |0,_,_=>.bad
 |n+1,kd,e=>match e with
  |.Constant c _ _=>cConst c
  |.Name x _=>cName kd x
  |.Tuple es _ _=>if noStar es then .tup (cEs n kd es)else .bad
  |.List es _=>if noStar es then .lst (cEs n kd es)else .bad
  |.Dict ks vs _=>match cKV ks vs with|some l=>if Nat.ble l.length 15&&distinct (l.map (·.1))then .dct l else .bad|none=>.bad
  |.BinOp a op b _=>match cBOp op with|some o=>.bin o (cE n kd a) (cE n kd b)|none=>.bad
  |.UnaryOp .USub (.Constant (.int i) _ _) _=>.neg i
  |.UnaryOp .Not a _=>.notE (cE n kd a)
  |.IfExp t a b _=>.ite (cE n kd t) (cE n kd a) (cE n kd b)
  |.BoolOp op vs _=>cBool n kd (match op with|.And=>true|.Or=>false) vs
  |.Compare a [.Is] [.Constant .none _ _] _=>.isN true (cE n kd a)
  |.Compare a [.IsNot] [.Constant .none _ _] _=>.isN false (cE n kd a)
  |.Compare a ops es _=>if lastMarks ops es then .bad else match cCmp n kd ops es with|some r=>.cmp (cE n kd a) r|none=>.bad
  |.Call (.Attribute o m ap) es [] pos=>if okc m&&noStar es&&attrBase o&&ap.endLine==pos.line&&Nat.ble es.length 20 then .meth (cE n kd o) (enc m) (cEs n kd es)else .bad
  |.Call f es [] _=>if noStar es then .call (cE n kd f) (cEs n kd es)else .bad
  |.Attribute o m _=>if okc m&&attrBase o then .attr (cE n kd o) (enc m)else .bad
  |.Subscript o (.Slice none none (some (.UnaryOp .USub (.Constant (.int 1) _ _) _)) _) _=>.rev (cE n kd o)
  |.Subscript o (.Slice l u none _) _=>.slc (cE n kd o) (match l with|some l=>cE n kd l|none=>.cst .none) (match u with|some u=>cE n kd u|none=>.cst .none)
  |.Subscript o i _=>(match i with|.Slice ..=>.bad|_=>.sub (cE n kd o) (cE n kd i))
  |.ListComp elt [⟨t,it,ifs,0⟩] sc _=>
   (match cTgt (cStoL (kindsC sc.names)) t with
    |some xs=>if scOk kd sc (cnN xs)&&plainIter it then
      (match it,ifs with
       |.Call (.Name z _) [a,b] [] _,[]=>if Nat.beq (enc z) nZip&&okc z&&Nat.beq (kindN kd (enc z)) 2&&isTupN xs&&noStar [a,b]then .compZ (cE n (kindsC sc.names) elt) xs (cE n kd a) (cE n kd b)else .comp (cE n (kindsC sc.names) elt) xs (cE n kd it) (cEs n (kindsC sc.names) ifs)
       |it,ifs=>.comp (cE n (kindsC sc.names) elt) xs (cE n kd it) (cEs n (kindsC sc.names) ifs))
     else .bad
    |none=>.bad)
  |_=>.bad
def cEs: Nat->List (Nat×Nat)->List PySem.Expr->CEs
 |0,_,_=>.cons .bad .nil
 |_+1,_,[]=>.nil
 |n+1,kd,e::r=>.cons (cE n kd e) (cEs n kd r)
def cBool: Nat->List (Nat×Nat)->Bool->List PySem.Expr->CE
 |0,_,_,_=>.bad
 |_+1,_,_,[]=>.bad
 |n+1,kd,_,[e]=>cE n kd e
 |n+1,kd,true,e::r=>.andE (cE n kd e) (cBool n kd true r)
 |n+1,kd,false,e::r=>.orE (cE n kd e) (cBool n kd false r)
def cCmp: Nat->List (Nat×Nat)->List CmpOp->List PySem.Expr->Option CCs
 |0,_,_,_=>none
 |n+1,kd,[op],[e]=>match cCOp op with|some o=>some (.one o (cE n kd e))|none=>none
 |n+1,kd,op::ops,e::es=>match cCOp op,cCmp n kd ops es with|some o,some r=>some (.cons o (cE n kd e) r)|_,_=>none
 |_,_,_,_=>none
end
def isComp: PySem.Expr->Bool
 |.ListComp ..=>true
 |.SetComp ..=>true
 |.DictComp ..=>true
 |_=>false
def swapsN (kd: List (Nat×Nat)) (ts vs: List PySem.Expr): Option (List Nat) :=
 if(ts.length==2||ts.length==3)&&vs.length==ts.length&&(match ts with|t::r=>r.all (fun u=>u.pos.line==t.pos.line)|[]=>false)&&!(vs.any fun|.Starred ..=>true|_=>false)&&!(vs.all (constantsAlone 8))then
  match cNames (cStoL kd) ts with
  |some l=>if distinct l then some l else none
  |none=>none
 else none
def isZ: CE->Bool
 |.compZ ..=>true
 |_=>false
def cAsg (n: Nat) (kd: List (Nat×Nat)) (t v: PySem.Expr) (line: Nat): CS := match t with
 |.Name x p=>match v with
  |.ListComp _ _ sc vp=>
   (match cStoL kd x with
    |some y=>if p.line==vp.line&&(kinds sc.names).all (fun q=>!(Nat.beq q.1 y)||Nat.beq q.2 2||Nat.beq q.2 8)&&!(isZ (cE n kd v))then .asg (.nm (.one y)) (cE n kd v)else .bad
    |none=>.bad)
  |v=>if isComp v then .bad else match cSto kd x with|some y=>.asg (.nm (.one y)) (cE n kd v)|none=>.bad
 |.Tuple ts _ _=>if isComp v then .bad else
  match ts with
  |[.Attribute o₁ m₁ _,.Attribute o₂ m₂ _,.Attribute o₃ m₃ _]=>if okc m₁&&okc m₂&&okc m₃ then .asg (.attr3 (cE n kd o₁) (enc m₁) (cE n kd o₂) (enc m₂) (cE n kd o₃) (enc m₃)) (cE n kd v)else .bad
  |ts=>match v with
   |.Tuple vs _ _=>(match swapsN kd ts vs with
     |some l=>if vs.all (foldedForSure 8)then(match cNames (cSto kd) ts with|some l=>if distinct l then .asg (.nm (.tup l)) (cE n kd v)else .bad|none=>.bad)else .asg (.swap l) (cE n kd v)
     |none=>if vs.all (foldedForSure 8)then(match cNames (cSto kd) ts with|some l=>if distinct l then .asg (.nm (.tup l)) (cE n kd v)else .bad|none=>.bad)else .bad)
   |v=>match cNames (cSto kd) ts with|some l=>if distinct l then .asg (.nm (.tup l)) (cE n kd v)else .bad|none=>.bad
 |.Attribute o m _=>if isComp v then .bad else if okc m then .asg (.attr (cE n kd o) (enc m)) (cE n kd v)else .bad
 |.Subscript o i _=>if isComp v then .bad else(match i with|.Slice ..=>.bad|_=>.asg (.sub (cE n kd o) (cE n kd i)) (cE n kd v))
 |_=>.bad
mutual
def cS: Nat->List (Nat×Nat)->Stmt->CS
 |0,_,_=>.bad
 |n+1,kd,s=>match s with
  |.Assign [t] v p=>cAsg n kd t v p.line
  |.Expr v _=>if isComp v then .bad else .expr (cE n kd v)
  |.Return (some v) _=>.ret (cE n kd v)
  |.If t a b _=>.ife (cE n kd t) (cSs n kd a) (cSs n kd b)
  |.While t b [] _=>.whl (cE n kd t) (cSs n kd b)
  |.For t it b [] _=>if plainIter it then(match cTgt (cSto kd) t with|some xs=>.forS xs (cE n kd it) (cSs n kd b)|none=>.bad)else .bad
  |.Raise (some (.Call (.Name c _) [e] [] _)) none _=>if Nat.beq (enc c) (enc "TooLarge")&&okc c&&Nat.beq (kindN kd (enc c)) 2 then(match e with|.Starred ..=>.bad|_=>.raiseT (cE n kd e))else .bad
  |.Try [.Assign [.Name x _] v _] [.ExceptHandler (some (.Name c _)) (some ev) [.Assign [.Name t _] (.Attribute (.Name ev' _) at' _) _] _] [] [] _=>
   (match cStoL kd x,cStoL kd t,cStoL kd ev with
    |some x,some t,some ev=>if Nat.beq (enc c) (enc "TooLarge")&&okc c&&Nat.beq (kindN kd (enc c)) 2&&okc ev'&&Nat.beq (enc ev') ev&&okc at'&&Nat.beq (enc at') (enc "told")&&distinct [x,t,ev]&&!(isComp v)&&!(Nat.beq ev (enc "__debug__"))then .tryT x (cE n kd v) ev t else .bad
    |_,_,_=>.bad)
  |_=>.bad
def cSs: Nat->List (Nat×Nat)->List Stmt->CSs
 |0,_,_=>.cons .bad .nil
 |_+1,_,[]=>.nil
 |n+1,kd,s::r=>.cons (cS n kd s) (cSs n kd r)
end
section
def Room (n: Nat) (A: Around): Prop := A.handled=none/\A.depth+2 * n+4<=recursionLimit/\A.units+8 * n+80<=cLine
def Frames (A: Around) (kp: Hp): Prop := ∃ l,A.frames=some l/\∀ env∈l,env.scope.kind≠.module/\∃ L o,env.frame=some L/\kp L=some o/\isD o=true
structure Exc (g kp: Hp) (m: Mt) (too: Addr) (ea: Addr) (d: DV) (s: Shared): Prop where
 off: g ea=none/\kp ea=none/\m ea=none
 obj: ∃ dx vs sl es n,s.heap.get? ea=some ⟨.ref too,some dx,.fields vs,sl⟩/\s.heap.get? dx=some (dictOf es n)/\RepE g [enc "told"] [d] es/\(g dx=none/\kp dx=none/\m dx=none)/\dx≠ea/\
  1<vs.size/\(vs[1]?=some .none\/∃ T oT ts,vs[1]?=some (.ref T)/\(g T=none/\kp T=none/\m T=none)/\T≠ea/\T≠dx/\s.heap.get? T=some oT/\oT.data=.fields ts/\ts[3]?=some .none)
def RetPost (W: Wd) (too: Addr) (g kp: Hp) (Q X: DV->Mt->Prop) (r: Result) (s': Shared): Prop := match r with
 |.ok (.ret v)=>∃ g' m' d,Ext g g'/\Sim W g' kp m' s'/\Rep g' d v/\Q d m'
 |.ok _=>False
 |.error e=>∃ ea g' m' d,e=.ref ea/\Ext g g'/\Sim W g' kp m' s'/\Exc g' kp m' too ea d s'/\X d m'
def CallOk (W: Wd) (too: Addr) (n: Nat) (f: Addr) (ds: List DV) (m: Mt) (Q X: DV->Mt->Prop): Prop :=
 ∀ A g kp s vs,Room n A->Frames A kp->W.h₀.objs.size<=s.heap.objs.size->Sim W g kp m s->RepL g ds vs->codeAny W.M A (.call (.ref f) ⟨vs,[]⟩) (RetPost W too g kp Q X) s
structure Tb where
 gl: Loc
 rd: Addr->Nat->Bool
 st: Addr->Nat->Bool
 me: Addr->Nat->Option Addr
 ini: Addr->Option Addr
 kf: Addr->Bool
inductive Fz: Mt->DV->Mt->DV->Prop
 |refl {m d}: Fz m d m d
 |trans {m d m' d' m'' d''}: Fz m d m' d'->Fz m' d' m'' d''->Fz m d m'' d''
 |lst {m: Mt} {a l}: m a=some (.lst l)->Fz m (.ref a) (m.del a) (.lst l)
 |inst {m: Mt} {a C dx ns vs}: m a=some (.inst C dx)->m dx=some (.attrs ns vs)->a≠dx->Fz m (.ref a) ((m.del a).del dx) (.inst C ns vs)
 |drop {m m': Mt} {d}: (∀ b o,m' b=some o->m b=some o)->Fz m d m' d
def asL (m: Mt): DV->Option (List DV)
 |.lst l=>some l
 |.ref a=>match m a with|some (.lst l)=>some l|_=>none
 |_=>none
def seqV (m: Mt): DV->Option (List DV)
 |.tup l=>some l
 |d=>asL m d
def upTo: Nat->Int->Int->List DV
 |0,_,_=>[]
 |k+1,a,c=>.int a::upTo k (a+c) c
def rngLen (a b c: Int): Nat := (Builtin.Range.rangeSize a b c).toNat
def iterL (m: Mt): DV->Option (List DV)
 |.rng a b c=>some (upTo (rngLen a b c) a c)
 |d=>seqV m d
def lenV (m: Mt): DV->Option Nat
 |.bytes b=>some b.size
 |d=>(seqV m d).map (·.length)
def truthV: DV->Option Bool
 |.bool b=>some b
 |_=>none
def isNone: DV->Bool
 |.none=>true
 |_=>false
def noBi: DV->Bool
 |.bi _=>false
 |_=>true
def plainN: Nat->DV->Bool
 |_,.none=>true
 |_,.bool _=>true
 |_,.int _=>true
 |_,.str _=>true
 |n+1,.tup l=>l.all (plainN n)
 |n+1,.lst l=>l.all (plainN n)
 |_,_=>false
def eqL (f: DV->DV->Option Bool): List DV->List DV->Option Bool
 |[],[]=>some true
 |[],_::_=>some false
 |_::_,[]=>some false
 |a::as,b::bs=>match f a b with|some true=>eqL f as bs|some false=>(match eqL f as bs with|some _=>some false|none=>none)|none=>none
def eqN: Nat->DV->DV->Option Bool
 |_,.none,.none=>some true
 |_,.bool a,.bool b=>some (a==b)
 |_,.int a,.int b=>some (decide (a=b))
 |_,.str a,.str b=>some (Nat.beq a b)
 |n+1,.tup a,.tup b=>eqL (eqN n) a b
 |n+1,.lst a,.lst b=>eqL (eqN n) a b
 |_,_,_=>none
def eqTop (m: Mt) (a b: DV): Option Bool := match asL m a,asL m b with
 |some x,some y=>(match Nat.beq x.length y.length with
  |true=>(match x.all (plainN 8)&&y.all (plainN 8)with|true=>eqL (eqN 8) x y|false=>none)
  |false=>some false)
 |none,none=>(match plainN 8 a&&plainN 8 b with|true=>eqN 8 a b|false=>none)
 |_,_=>none
def memL (x: DV): List DV->Option Bool
 |[]=>some false
 |y::r=>match eqN 8 y x with|some b=>(match memL x r with|some t=>some (b||t)|none=>none)|none=>none
def memV (x: DV) (l: List DV): Option Bool := match plainN 8 x&&l.all (plainN 8)with|true=>memL x l|false=>none
def dctHas (k: DV): MObj->Option Bool
 |.dE=>(match k with|.int _=>some false|.tup [.int _,.int _]=>some false|_=>none)
 |.dI ks=>(match k with|.int i=>some (ks.contains i)|_=>none)
 |.dT ks=>(match k with|.tup [.int i,.int j]=>some (ks.contains [i,j])|_=>none)
 |_=>none
def dctPut (k: DV): MObj->Option MObj
 |.dE=>(match k with|.int i=>some (.dI [i])|.tup [.int i,.int j]=>some (.dT [[i,j]])|_=>none)
 |.dI ks=>(match k with|.int i=>some (.dI (if ks.contains i then ks else ks++[i]))|_=>none)
 |.dT ks=>(match k with|.tup [.int i,.int j]=>some (.dT (if ks.contains [i,j]then ks else ks++[[i,j]]))|_=>none)
 |_=>none
def dctLen: MObj->Nat
 |.dI ks=>ks.length
 |.dT ks=>ks.length
 |_=>0
def inV (m: Mt) (x: DV): DV->Option Bool
 |.ref a=>match m a with|some (.lst l)=>memV x l|some o=>dctHas x o|none=>none
 |d=>match seqV m d with|some l=>memV x l|none=>none
def cmpV (m: Mt) (op: COp) (a b: DV): Option Bool := match op with
 |.eq=>eqTop m a b
 |.ne=>(eqTop m a b).map (!·)
 |.lt=>(match a,b with|.int i,.int j=>some (decide (i<j))|_,_=>none)
 |.le=>(match a,b with|.int i,.int j=>some (decide (i<=j))|_,_=>none)
 |.gt=>(match a,b with|.int i,.int j=>some (decide (j<i))|_,_=>none)
 |.ge=>(match a,b with|.int i,.int j=>some (decide (j<=i))|_,_=>none)
 |.inn=>inV m a b
 |.nin=>(inV m a b).map (!·)
def getA (m: Mt) (o: DV) (x: Nat): Option (Addr×DV) := match o with
 |.inst C ns vs=>(fld ns vs x).map fun d=>(C,d)
 |.ref a=>match m a with
  |some (.inst C dx)=>(match m dx with|some (.attrs ns vs)=>(fld ns vs x).map fun d=>(C,d)|_=>none)
  |_=>none
 |_=>none
def bigI (i: Int): Prop := i.natAbs<2 ^ 60
def small (n: Nat): Prop := n<=2 ^ 20
def nth (l: List DV): Int->Option DV
 |.ofNat k=>l[k]?
 |.negSucc _=>none
def nthB (b: Array UInt8): Int->Option DV
 |.ofNat k=>(b.toList[k]?).map fun x=>.int (Int.ofNat x.toNat)
 |.negSucc _=>none
def subW (m: Mt) (o i: DV) (K: DV->Prop): Prop := match i with
 |.int k=>bigI k/\(match o with
  |.bytes b=>small b.size/\(match nthB b k with|some d=>K d|none=>False)
  |o=>match seqV m o with|some l=>(match nth l k with|some d=>K d|none=>False)|none=>False)
 |_=>False
def rngOk: DV->Prop
 |.rng a b c=>bigI a/\bigI b/\(c=1\/c=-1)
 |_=>True
section
variable (W: Wd) (too: Addr) (T: Tb) (n: Nat)
def newL (l: List DV) (Q: DV->St->Prop) (σ: St): Prop := ∀ a,σ.mu a=none->Q (.ref a) ⟨σ.loc,σ.mu.set a (.lst l)⟩
def wpBin (op: BOp) (x y: DV) (Q: DV->St->Prop) (σ: St): Prop := match op with
 |.add=>(match x,y with
  |.int i,.int j=>Q (.int (i+j)) σ
  |x,y=>match asL σ.mu x,asL σ.mu y with|some l,some r=>small (l.length+r.length)/\newL (l++r) Q σ|_,_=>False)
 |.sub=>(match x,y with|.int i,.int j=>Q (.int (i-j)) σ|_,_=>False)
 |.mul=>(match x,y with
  |.int i,.int j=>bigI i/\bigI j/\Q (.int (i * j)) σ
  |x,.int j=>(match asL σ.mu x with|some l=>0<=j/\j<2 ^ 63/\small (l.length * j.toNat)/\newL (List.replicate j.toNat l).flatten Q σ|none=>False)
  |_,_=>False)
 |.fdiv=>(match x,y with|.int i,.int j=>0<j/\bigI j/\Q (.int (i / j)) σ|_,_=>False)
 |.mod=>(match x,y with|.int i,.int j=>0<j/\Q (.int (i % j)) σ|_,_=>False)
 |.pow=>(match x,y with|.int i,.int j=>i=10/\j=12/\Q (.int 1000000000000) σ|_,_=>False)
 |.band=>(match x,y with|.int i,.int j=>0<=i/\0<=j/\Q (.int (Int.ofNat (i.toNat&&& j.toNat))) σ|_,_=>False)
def allInts: List DV->Option (List Int)
 |[]=>some []
 |.int i::r=>match allInts r with|some l=>some (i::l)|none=>none
 |_=>none
def wpBi (b: Bi) (ds: List DV) (Q: DV->St->Prop) (σ: St): Prop := match b,ds with
 |.len,[d]=>(match lenV σ.mu d with|some k=>small k/\Q (.int (Int.ofNat k)) σ|none=>False)
 |.range,[.int k]=>bigI k/\Q (.rng 0 k 1) σ
 |.range,[.int a,.int b,.int c]=>bigI a/\bigI b/\(c=1\/c=-1)/\Q (.rng a b c) σ
 |.tuple,[d]=>(match asL σ.mu d with|some l=>small l.length/\Q (.tup l) σ|none=>False)
 |.sorted,[d]=>(match asL σ.mu d with|some l=>(match allInts l with|some is=>is.length<64/\∀ is': List Int,is'.Perm is->is'.Pairwise (·<=·)->newL (is'.map .int) Q σ|none=>False)|none=>False)
 |.min,[.tup [.int a,.int b]]=>Q (.int (if b<a then b else a)) σ
 |.int,[.int i]=>Q (.int i) σ
 |.bytes,[d]=>(match asL σ.mu d with|some l=>(match allInts l with|some is=>small is.length/\(∀ i∈is,0<=i/\i<256)/\Q (.bytes (is.map fun i=>UInt8.ofNat i.toNat).toArray) σ|none=>False)|none=>False)
 |_,_=>False
def wpCall (f: DV) (ds: List DV) (Q X: DV->St->Prop) (σ: St): Prop := match f with
 |.fn a=>(match T.kf a with|true=>CallOk W too n a ds σ.mu (fun d m=>Q d ⟨σ.loc,m⟩) (fun d m=>X d ⟨σ.loc,m⟩)|false=>False)
 |.cls C=>(match T.ini C,n with
  |some f,n+1=>∀ x dx,σ.mu x=none->σ.mu dx=none->x≠dx->CallOk W too n f (.ref x::ds) ((σ.mu.set dx (.attrs [] [])).set x (.inst C dx)) (fun d m=>d=.none/\Q (.ref x) ⟨σ.loc,m⟩) (fun _ _=>False)
  |_,_=>False)
 |.bi b=>wpBi b ds Q σ
 |_=>False
inductive Cal where
 |fn (f: Addr)
 |append|pop|extend|get
def calOf (m: Mt) (o: DV) (x: Nat): Option Cal := match o with
 |.ref a=>match m a with
  |some (.inst C dx)=>(match m dx with
   |some (.attrs ns vs)=>(match fld ns vs x with|none=>(match T.me C x with|some f=>some (.fn f)|none=>none)|some _=>none)
   |_=>none)
  |some (.lst _)=>if Nat.beq x (3638987513726)then some .append else if Nat.beq x (1894994)then some .pop else if Nat.beq x (3638987581326)then some .extend else none
  |some (.dS _)=>if Nat.beq x (1960259)then some .get else none
  |_=>none
 |_=>none
def lookS: List (Nat×DV)->Nat->Option DV
 |[],_=>none
 |(k,d)::r,x=>if Nat.beq k x then some d else lookS r x
def wpCal (c: Cal) (o: DV) (ds: List DV) (Q X: DV->St->Prop) (σ: St): Prop := match c with
 |.fn f=>CallOk W too n f (o::ds) σ.mu (fun d m=>Q d ⟨σ.loc,m⟩) (fun d m=>X d ⟨σ.loc,m⟩)
 |.append=>(match o,ds with
  |.ref a,[d]=>(match σ.mu a with|some (.lst l)=>small l.length/\Q .none ⟨σ.loc,σ.mu.set a (.lst (l++[d]))⟩|_=>False)
  |_,_=>False)
 |.pop=>(match o,ds with
  |.ref a,[]=>(match σ.mu a with|some (.lst l)=>(match l.getLast? with|some d=>small l.length/\Q d ⟨σ.loc,σ.mu.set a (.lst l.dropLast)⟩|none=>False)|_=>False)
  |.ref a,[.int 0]=>(match σ.mu a with|some (.lst (d::l))=>small l.length/\Q d ⟨σ.loc,σ.mu.set a (.lst l)⟩|_=>False)
  |_,_=>False)
 |.extend=>(match o,ds with
  |.ref a,[d]=>(match σ.mu a with|some (.lst l)=>(match asL σ.mu d with|some r=>small (l.length+r.length)/\Q .none ⟨σ.loc,σ.mu.set a (.lst (l++r))⟩|none=>False)|_=>False)
  |_,_=>False)
 |.get=>(match o,ds with
  |.ref a,[.str x,d]=>(match σ.mu a with|some (.dS kv)=>Q ((lookS kv x).getD d) σ|_=>False)
  |_,_=>False)
def bnd (dflt: Nat): DV->Option Nat
 |.none=>some dflt
 |.int (.ofNat k)=>some k
 |_=>none
def wpSlc (o l u: DV) (Q: DV->St->Prop) (σ: St): Prop := match asL σ.mu o with
 |some xs=>(match bnd 0 l,bnd xs.length u with|some i,some j=>small xs.length/\newL ((xs.take j).drop i) Q σ|_,_=>False)
 |none=>False
def puts: Loc->List Nat->List DV->Loc
 |l,x::xs,d::ds=>puts (put l x d) xs ds
 |l,_,_=>l
def bindN (l: Loc) (m: Mt) (ns: CN) (d: DV): Option Loc := match ns with
 |.one x=>some (put l x d)
 |.tup xs=>match seqV m d with|some ds=>if Nat.beq xs.length ds.length then some (puts l xs ds)else none|none=>none
def bindC (l: Loc) (m: Mt) (ns: CN) (d: DV): Option Loc := match ns with
 |.one x=>some ((x,d)::l)
 |.tup xs=>match seqV m d with|some ds=>if Nat.beq xs.length ds.length then some (xs.zip ds++l)else none|none=>none
def guardL (d: DV) (xs: List DV) (σ: St): Prop := match d with
 |.ref a=>σ.mu a=some (.lst xs)
 |_=>True
def forW (gd: St->Prop) (B: DV->(St->Prop)->St->Prop) (R: St->Prop): List DV->St->Prop
 |[],σ=>gd σ/\R σ
 |x::xs,σ=>gd σ/\B x (forW gd B R xs) σ
def compW (gd: St->Prop) (B: DV->(Option DV->Mt->Prop)->Mt->Prop) (loc: Loc) (Q: DV->St->Prop): List DV->List DV->Mt->Prop
 |[],acc,m=>gd ⟨loc,m⟩/\newL acc Q ⟨loc,m⟩
 |x::xs,acc,m=>gd ⟨loc,m⟩/\B x (fun r m'=>match r with|none=>compW gd B loc Q xs acc m'|some d=>compW gd B loc Q xs (acc++[d]) m') m
def whileN (B: (St->Prop)->St->Prop): Nat->St->Prop
 |0,_=>False
 |k+1,σ=>B (whileN B k) σ
def no (_: DV) (_: St): Prop := False
def dctV: List (Nat×Int)->List (Nat×DV)
 |[]=>[]
 |(k,i)::r=>(k,.int i)::dctV r
mutual
def wpE: CE->(DV->St->Prop)->(DV->St->Prop)->St->Prop
 |.cst d,Q,_,σ=>Q d σ
 |.var x,Q,_,σ=>(match look σ.loc x with|some d=>Q d σ|none=>False)
 |.glob x,Q,_,σ=>(match look T.gl x with|some d=>Q d σ|none=>False)
 |.tup es,Q,X,σ=>wpEs es (fun ds σ=>match Nat.ble ds.length 1000 with|true=>Q (.tup ds) σ|false=>False) X σ
 |.lst es,Q,X,σ=>wpEs es (fun ds σ=>match Nat.ble ds.length 1000 with|true=>newL ds Q σ|false=>False) X σ
 |.dct kv,Q,_,σ=>∀ a,σ.mu a=none->Q (.ref a) ⟨σ.loc,σ.mu.set a (match kv with|[]=>.dE|kv=>.dS (dctV kv))⟩
 |.bin op a b,Q,X,σ=>wpE a (fun x σ=>wpE b (fun y σ=>wpBin op x y Q σ) X σ) X σ
 |.neg i,Q,_,σ=>Q (.int (-i)) σ
 |.notE a,Q,X,σ=>wpE a (fun d σ=>match truthV d with|some t=>Q (.bool (!t)) σ|none=>False) X σ
 |.ite t a b,Q,X,σ=>wpT t (fun r σ=>match r with|true=>wpE a Q X σ|false=>wpE b Q X σ) X σ
 |.andE a b,Q,X,σ=>wpE a (fun d σ=>match truthV d with|some true=>wpE b Q X σ|some false=>Q d σ|none=>False) X σ
 |.orE a b,Q,X,σ=>wpE a (fun d σ=>match truthV d with|some true=>Q d σ|some false=>wpE b Q X σ|none=>False) X σ
 |.cmp a r,Q,X,σ=>wpE a (fun d σ=>wpC d r (fun t σ=>Q (.bool t) σ) X σ) X σ
 |.isN b a,Q,X,σ=>wpE a (fun d σ=>match noBi d with|true=>Q (.bool (b==isNone d)) σ|false=>False) X σ
 |.call f es,Q,X,σ=>wpE f (fun fv σ=>wpEs es (fun ds σ=>wpCall W too T n fv ds Q X σ) X σ) X σ
 |.meth o x es,Q,X,σ=>wpE o (fun ov σ=>match calOf T σ.mu ov x with|some c=>wpEs es (fun ds σ=>wpCal W too n c ov ds Q X σ) X σ|none=>False) X σ
 |.attr o x,Q,X,σ=>wpE o (fun ov σ=>match getA σ.mu ov x with|some (C,d)=>(match T.rd C x with|true=>Q d σ|false=>False)|none=>False) X σ
 |.sub o i,Q,X,σ=>wpE o (fun ov σ=>wpE i (fun iv σ=>subW σ.mu ov iv fun d=>Q d σ) X σ) X σ
 |.slc o l u,Q,X,σ=>wpE o (fun ov σ=>wpE l (fun lv σ=>wpE u (fun uv σ=>wpSlc ov lv uv Q σ) X σ) X σ) X σ
 |.rev o,Q,X,σ=>wpE o (fun ov σ=>match asL σ.mu ov with|some xs=>small xs.length/\newL xs.reverse Q σ|none=>False) X σ
 |.comp elt xs it ifs,Q,X,σ=>wpE it (fun d σ=>match iterL σ.mu d with
   |some l=>rngOk d/\small l.length/\compW (guardL d l) (fun x K m=>match bindC σ.loc m xs x with
     |some loc=>wpTs ifs (fun ok σ₁=>match ok with|true=>wpE elt (fun y σ₂=>∃ m' y',Fz σ₂.mu y m' y'/\K (some y') m') no σ₁|false=>K none σ₁.mu) no ⟨loc,m⟩
     |none=>False) σ.loc Q l [] σ.mu
   |none=>False) X σ
 |.compZ elt xs a b,Q,X,σ=>wpE a (fun d σ=>wpE b (fun e σ=>match d,e with
   |.tup l,.tup r=>small l.length/\small r.length/\compW (fun _=>True) (fun x K m=>match bindC σ.loc m xs x with
     |some loc=>wpE elt (fun y σ₂=>∃ m' y',Fz σ₂.mu y m' y'/\K (some y') m') no ⟨loc,m⟩
     |none=>False) σ.loc Q ((l.zip r).map fun p=>.tup [p.1,p.2]) [] σ.mu
   |_,_=>False) X σ) X σ
 |.bad,_,_,_=>False
def wpEs: CEs->(List DV->St->Prop)->(DV->St->Prop)->St->Prop
 |.nil,Q,_,σ=>Q [] σ
 |.cons e r,Q,X,σ=>wpE e (fun d σ=>wpEs r (fun ds σ=>Q (d::ds) σ) X σ) X σ
def wpTs: CEs->(Bool->St->Prop)->(DV->St->Prop)->St->Prop
 |.nil,Q,_,σ=>Q true σ
 |.cons e r,Q,X,σ=>wpT e (fun t σ=>match t with|true=>wpTs r Q X σ|false=>Q false σ) X σ
def wpC: DV->CCs->(Bool->St->Prop)->(DV->St->Prop)->St->Prop
 |a,.one op e,Q,X,σ=>wpE e (fun b σ=>match cmpV σ.mu op a b with|some t=>Q t σ|none=>False) X σ
 |a,.cons op e r,Q,X,σ=>wpE e (fun b σ=>match cmpV σ.mu op a b with|some true=>wpC b r Q X σ|some false=>Q false σ|none=>False) X σ
def wpT: CE->(Bool->St->Prop)->(DV->St->Prop)->St->Prop
 |.notE a,Q,X,σ=>wpT a (fun t σ=>Q (!t) σ) X σ
 |.andE a b,Q,X,σ=>wpT a (fun t σ=>match t with|true=>wpT b Q X σ|false=>Q false σ) X σ
 |.orE a b,Q,X,σ=>wpT a (fun t σ=>match t with|true=>Q true σ|false=>wpT b Q X σ) X σ
 |.cmp a r,Q,X,σ=>wpE a (fun d σ=>wpC d r Q X σ) X σ
 |.ite t a b,Q,X,σ=>wpT t (fun r σ=>match r with|true=>wpT a Q X σ|false=>wpT b Q X σ) X σ
 |.isN b a,Q,X,σ=>wpE a (fun d σ=>match noBi d with|true=>Q (b==isNone d) σ|false=>False) X σ
 |.var x,Q,_,σ=>(match look σ.loc x with|some d=>(match truthV d with|some t=>Q t σ|none=>False)|none=>False)
 |.call f es,Q,X,σ=>wpE f (fun fv σ=>wpEs es (fun ds σ=>wpCall W too T n fv ds (fun d σ=>match truthV d with|some t=>Q t σ|none=>False) X σ) X σ) X σ
 |.attr o x,Q,X,σ=>wpE o (fun ov σ=>match getA σ.mu ov x with|some (C,d)=>(match T.rd C x with|true=>(match truthV d with|some t=>Q t σ|none=>False)|false=>False)|none=>False) X σ
 |.sub o i,Q,X,σ=>wpE o (fun ov σ=>wpE i (fun iv σ=>subW σ.mu ov iv fun d=>match truthV d with|some t=>Q t σ|none=>False) X σ) X σ
 |_,_,_,_=>False
end
def setAt (o: DV) (x: Nat) (d: DV) (K: St->Prop) (σ: St): Prop := match o with
 |.ref a=>(match σ.mu a with
  |some (.inst C dx)=>(match σ.mu dx with
   |some (.attrs ns vs)=>(match T.st C x with|true=>(match Nat.ble ns.length 40 with|true=>K ⟨σ.loc,σ.mu.set dx (.attrs (fput ns vs x d).1 (fput ns vs x d).2)⟩|false=>False)|false=>False)
   |_=>False)
  |_=>False)
 |_=>False
def setSub (o i d: DV) (K: St->Prop) (σ: St): Prop := match o with
 |.ref a=>(match σ.mu a with
  |some (.lst l)=>(match i with|.int (.ofNat k)=>k<l.length/\small l.length/\K ⟨σ.loc,σ.mu.set a (.lst (l.set k d))⟩|_=>False)
  |some mo=>(match dctPut i mo with|some mo'=>(match d with|.bool true=>small (dctLen mo)/\K ⟨σ.loc,σ.mu.set a mo'⟩|_=>False)|none=>False)
  |none=>False)
 |_=>False
def wpA (t: CT) (d: DV) (K: St->Prop) (X: DV->St->Prop) (σ: St): Prop := match t with
 |.nm ns=>(match bindN σ.loc σ.mu ns d with|some l=>K ⟨l,σ.mu⟩|none=>False)
 |.swap xs=>(match d with|.tup ds=>(match Nat.beq xs.length ds.length with|true=>K ⟨puts σ.loc xs.reverse ds.reverse,σ.mu⟩|false=>False)|_=>False)
 |.attr o x=>wpE W too T n o (fun ov σ=>setAt T ov x d K σ) X σ
 |.sub o i=>wpE W too T n o (fun ov σ=>wpE W too T n i (fun iv σ=>setSub ov iv d K σ) X σ) X σ
 |.attr3 o₁ x₁ o₂ x₂ o₃ x₃=>(match d with
  |.tup [d₁,d₂,d₃]=>wpE W too T n o₁ (fun ov σ=>setAt T ov x₁ d₁ (fun σ=>wpE W too T n o₂ (fun ov σ=>setAt T ov x₂ d₂ (fun σ=>wpE W too T n o₃ (fun ov σ=>setAt T ov x₃ d₃ K σ) X σ) σ) X σ) σ) X σ
  |_=>False)
mutual
def wpS: CS->(Option DV->St->Prop)->(DV->St->Prop)->St->Prop
 |.asg t e,Q,X,σ=>wpE W too T n e (fun d σ=>wpA W too T n t d (fun σ=>Q none σ) X σ) X σ
 |.expr e,Q,X,σ=>wpE W too T n e (fun _ σ=>Q none σ) X σ
 |.ret e,Q,X,σ=>wpE W too T n e (fun d σ=>Q (some d) σ) X σ
 |.ife t a b,Q,X,σ=>wpT W too T n t (fun r σ=>match r with|true=>wpSs a Q X σ|false=>wpSs b Q X σ) X σ
 |.whl t b,Q,_,σ=>∃ k,whileN (fun K σ=>wpT W too T n t (fun r σ=>match r with|true=>wpSs b (fun f σ=>match f with|none=>K σ|some d=>Q (some d) σ) no σ|false=>Q none σ) no σ) k σ
 |.forS ns it b,Q,X,σ=>wpE W too T n it (fun d σ=>match iterL σ.mu d with
   |some l=>rngOk d/\forW (guardL d l) (fun x K σ=>match bindN σ.loc σ.mu ns x with|some loc=>wpSs b (fun f σ=>match f with|none=>K σ|some d=>Q (some d) σ) no ⟨loc,σ.mu⟩|none=>False) (fun σ=>Q none σ) l σ
   |none=>False) X σ
 |.raiseT e,_,X,σ=>wpE W too T n e (fun d σ=>X d σ) no σ
 |.tryT x e ev told,Q,_,σ=>wpE W too T n e (fun d σ=>Q none ⟨put σ.loc x d,σ.mu⟩) (fun d σ=>match look σ.loc ev with|none=>Q none ⟨put σ.loc told d,σ.mu⟩|some _=>False) σ
 |.bad,_,_,_=>False
def wpSs: CSs->(Option DV->St->Prop)->(DV->St->Prop)->St->Prop
 |.nil,Q,_,σ=>Q none σ
 |.cons s r,Q,X,σ=>wpS s (fun f σ=>match f with|none=>wpSs r Q X σ|some d=>Q (some d) σ) X σ
end
end
end
section
structure EnvOk (env: Env): Prop where
 cd: env.kindOf "__classdict__"≠some .free
 kind: env.scope.kind=.function
 gl: env.globals=mainGlobals
 bi: env.builtins=builtinsNs
def KindsOk (env: Env) (kd: List (Nat×Nat)): Prop := ∀ x,okc x=true->(kindN kd (enc x)=0->env.kindOf x=some .local)/\(kindN kd (enc x)=1->env.kindOf x=some .cell\/env.kindOf x=some .free)/\(kindN kd (enc x)=2->env.kindOf x=some .globalImplicit)
def GlOk (W: Wd) (gl: Loc): Prop := ∀ x d,okc x=true->look gl (enc x)=some d->(x==("__debug__": Str))=false/\∃ v,Rep W.h₀.get? d v/\(W.mg x=some v\/(W.mg x=none/\W.mb x=some v))
def kpF (cx: Cx) (s: Shared): Hp := fun b=>if b=cx.env.locals\/b∈cx.env.cells.map (·.2)then s.heap.get? b else cx.kp b
def PostE (W: Wd) (cx: Cx) (g: Hp) (Q: DV->St->Prop) (v: Value) (s': Shared): Prop := ∃ g' σ' d,Ext g g'/\Good W cx g' σ' s'/\Rep g' d v/\Q d σ'
def PostL (W: Wd) (cx: Cx) (g: Hp) (Q: List DV->St->Prop) (vs: List Value) (s': Shared): Prop := ∃ g' σ' ds,Ext g g'/\Good W cx g' σ' s'/\RepL g' ds vs/\Q ds σ'
def PostG {α: Type} (W: Wd) (cx: Cx) (g: Hp) (Q: α->St->Prop) (a: α) (s': Shared): Prop := ∃ g' σ',Ext g g'/\Good W cx g' σ' s'/\Q a σ'
def EX (W: Wd) (too: Addr) (cx: Cx) (X: DV->St->Prop) (e: Value) (s': Shared): Prop :=
 ∃ ea g σ d,e=.ref ea/\Good W cx g σ s'/\Exc g (kpF cx s') σ.mu too ea d s'/\X d σ
def EvE (W: Wd) (too: Addr) (cx: Cx) (t: Sem Value) (Q: DV->St->Prop) (X: DV->St->Prop) (σ: St): Prop :=
 ∀ g s,Good W cx g σ s->wpAny W.M cx.A t (PostE W cx g Q) (EX W too cx X) s
def EvL (W: Wd) (too: Addr) (cx: Cx) (t: Sem (List Value)) (Q: List DV->St->Prop) (X: DV->St->Prop) (σ: St): Prop :=
 ∀ g s,Good W cx g σ s->wpAny W.M cx.A t (PostL W cx g Q) (EX W too cx X) s
def EvG (W: Wd) (too: Addr) (cx: Cx) {α: Type} (t: Sem α) (Q: α->St->Prop) (X: DV->St->Prop) (σ: St): Prop :=
 ∀ g s,Good W cx g σ s->wpAny W.M cx.A t (PostG W cx g Q) (EX W too cx X) s
section
variable {W: Wd} {too: Addr} {cx: Cx} {X: DV->St->Prop} {σ: St} {g g': Hp} {s: Shared}
theorem PostE.from {Q: DV->St->Prop} {v: Value} (h: PostE W cx g' Q v s) (e: Ext g g'): PostE W cx g Q v s :=
 let ⟨g₁,σ₁,d,a,b⟩ := h;⟨g₁,σ₁,d,e.trans a,b⟩
theorem PostL.from {Q: List DV->St->Prop} {v: List Value} (h: PostL W cx g' Q v s) (e: Ext g g'): PostL W cx g Q v s :=
 let ⟨g₁,σ₁,d,a,b⟩ := h;⟨g₁,σ₁,d,e.trans a,b⟩
theorem PostG.from {α: Type} {Q: α->St->Prop} {v: α} (h: PostG W cx g' Q v s) (e: Ext g g'): PostG W cx g Q v s :=
 let ⟨g₁,σ₁,a,b⟩ := h;⟨g₁,σ₁,e.trans a,b⟩
class Ends {α: Type} (P: Hp->α->Shared->Prop): Prop where
 down: ∀{g g': Hp} {a: α} {s: Shared},Ext g g'->P g' a s->P g a s
theorem endsE {Q: DV->St->Prop}: Ends (fun g=>PostE W cx g Q) := ⟨fun e h=>h.from e⟩
theorem endsL {Q: List DV->St->Prop}: Ends (fun g=>PostL W cx g Q) := ⟨fun e h=>h.from e⟩
theorem endsG {α: Type} {Q: α->St->Prop}: Ends (fun g=>PostG (α := α) W cx g Q) := ⟨fun e h=>h.from e⟩
theorem thenE {α: Type} {P: Hp->α->Shared->Prop} (hP: Ends P) {t: Sem Value} {f: Value->Sem α} {Q: DV->St->Prop} (G: Good W cx g σ s) (h: EvE W too cx t Q X σ)
  (k: ∀ g' σ' s' d v,Ext g g'->Good W cx g' σ' s'->Rep g' d v->Q d σ'->wpAny W.M cx.A (f v) (P g') (EX W too cx X) s'): wpAny W.M cx.A (t >>= f) (P g) (EX W too cx X) s :=
 wpAny_bind (wpAny_mono (h g s G) (fun v s' ⟨g',σ',d,e,G',r,q⟩=>wpAny_mono (k g' σ' s' d v e G' r q) (fun _ _ h=>hP.down e h) fun _ _ h=>h) fun _ _ h=>h)
theorem thenG {α β: Type} {P: Hp->α->Shared->Prop} (hP: Ends P) {t: Sem β} {f: β->Sem α} {Q: β->St->Prop} (G: Good W cx g σ s) (h: EvG W too cx t Q X σ)
  (k: ∀ g' σ' s' b,Ext g g'->Good W cx g' σ' s'->Q b σ'->wpAny W.M cx.A (f b) (P g') (EX W too cx X) s'): wpAny W.M cx.A (t >>= f) (P g) (EX W too cx X) s :=
 wpAny_bind (wpAny_mono (h g s G) (fun v s' ⟨g',σ',e,G',q⟩=>wpAny_mono (k g' σ' s' v e G' q) (fun _ _ h=>hP.down e h) fun _ _ h=>h) fun _ _ h=>h)
theorem thenL {α: Type} {P: Hp->α->Shared->Prop} (hP: Ends P) {t: Sem (List Value)} {f: List Value->Sem α} {Q: List DV->St->Prop} (G: Good W cx g σ s) (h: EvL W too cx t Q X σ)
  (k: ∀ g' σ' s' ds vs,Ext g g'->Good W cx g' σ' s'->RepL g' ds vs->Q ds σ'->wpAny W.M cx.A (f vs) (P g') (EX W too cx X) s'): wpAny W.M cx.A (t >>= f) (P g) (EX W too cx X) s :=
 wpAny_bind (wpAny_mono (h g s G) (fun v s' ⟨g',σ',d,e,G',r,q⟩=>wpAny_mono (k g' σ' s' d v e G' r q) (fun _ _ h=>hP.down e h) fun _ _ h=>h) fun _ _ h=>h)
theorem Good.post (G: Good W cx g σ s) {Q: DV->St->Prop} {d: DV} {v: Value} (r: Rep g d v) (q: Q d σ): PostE W cx g Q v s := ⟨g,σ,d,Ext.rfl,G,r,q⟩
theorem Good.postG (G: Good W cx g σ s) {α: Type} {Q: α->St->Prop} {a: α} (q: Q a σ): PostG W cx g Q a s := ⟨g,σ,Ext.rfl,G,q⟩
theorem ev_const {env: Env} {c: Const} {Q: DV->St->Prop} {n: Nat} {Tb: Tb} (h: wpE W too Tb n (cConst c) Q X σ): EvE W too cx (constValue env c) Q X σ := by
 intro g s G
 cases c with
 |none=>exact wpAny_pure (G.post .none h)
 |bool b=>exact wpAny_pure (G.post (.bool b) h)
 |int i=>exact wpAny_mkInt ((G.toks _).post (.int i _) h)
 |str x=>
  simp only[cConst,cStr]at h
  split at h
  ·rename_i ok
   exact wpAny_mkText ((G.toks _).post (.str x _ ok) h)
  ·exact h.elim
 |bytes b=>exact wpAny_mkTextBytes ((G.toks _).post (.bytes _ _) h)
 |_=>exact h.elim
theorem ev_name (ok: EnvOk cx.env) (WO: W.Ok) (hk: KindsOk cx.env cx.kd) {Tb: Tb} (hgl: GlOk W Tb.gl) {x: Str} {pos: Pos} {Q: DV->St->Prop} {n: Nat} (h: wpE W too Tb n (cName cx.kd x) Q X σ) :
  EvE W too cx (eval (.Name x pos) cx.env) Q X σ := by
 intro g s G
 unfold cName at h
 split at h
 case isFalse=>exact h.elim
 rename_i okx
 rw[Bool.and_eq_true,Bool.not_eq_true']at okx
 obtain⟨okx,hdb⟩ := okx
 have hd: (x==("__debug__": Str))=false := by
  rw[beq_eq_false_iff_ne]
  rintro rfl
  rw[beq_self]at hdb;cases hdb
 obtain⟨k0,k1,k2⟩ := hk x okx
 have loc (hv: match look σ.loc (enc x)with|some d=>Q d σ|none=>False) (hkd: (kindN cx.kd (enc x)=0/\cx.env.kindOf x=some .local)\/(kindN cx.kd (enc x)=1/\(cx.env.kindOf x=some .cell\/cx.env.kindOf x=some .free))) :
   wpAny W.M cx.A (eval (.Name x pos) cx.env) (PostE W cx g Q) (EX W too cx X) s := by
  cases e: look σ.loc (enc x)with
  |none=>rw[e]at hv;exact hv.elim
  |some d=>
   rw[e]at hv
   refine wpAny_Name ?_ hd
   rcases hkd with⟨hk0,hkd⟩|⟨hk1,hkd⟩
   ·obtain⟨mm,hns,hva⟩ := G.frm.ns
    obtain⟨v,h1,h2⟩ := hva x d okx e hk0
    exact wpAny_loadName_local ok.kind hkd hns h1 (G.post h2 hv)
   ·obtain⟨c,v,h1,h2,h3⟩ := G.frm.cells x d okx e hk1
    rcases hkd with hkd|hkd
    ·exact wpAny_loadName_cell ok.kind hkd h1 h2 (G.post h3 hv)
    ·refine wpAny_loadName_free ok.kind hkd h1 h2 (G.post h3 hv) ?_
     rw[beq_eq_false_iff_ne]
     rintro rfl
     exact ok.cd hkd
 split at h
 ·rename_i e;exact loc h (.inl ⟨e,k0 e⟩)
 ·rename_i e;exact loc h (.inr ⟨e,k1 e⟩)
 ·rename_i e
  cases e2: look Tb.gl (enc x)with
  |none=>simp only[wpE,e2]at h
  |some d=>
   simp only[wpE,e2]at h
   obtain⟨hd',v,r,hv⟩ := hgl x d okx e2
   have r': Rep g d v := r.mono G.sim.base
   have hg: s.heap.Ns cx.env.globals W.mg := by rw[ok.gl];exact WO.ng.keeps G.sim.ext
   have hb: s.heap.Ns cx.env.builtins W.mb := by rw[ok.bi];exact WO.nb.keeps G.sim.ext
   refine Calls.Name_function_global ok.kind (k2 e) ?_ hd
   rcases hv with hv|⟨hv1,hv2⟩
   ·exact Calls.loadGlobal_global hg hv (G.post r' h)
   ·exact Calls.loadGlobal_builtin hg hv1 hb hv2 (G.post r' h)
 ·exact h.elim
end
end
section
section
variable {W: Wd} {too: Addr} {cx: Cx} {X: DV->St->Prop} {σ: St} {g g': Hp} {s: Shared} {E: Value->Shared->Prop}
theorem ev_holding {vs: List Value} {t: Sem Value} {Q: DV->St->Prop} (h: EvE W too cx t Q X σ): EvE W too cx (holding vs t) Q X σ := fun g s G=>wpAny_holding (h g s G)
theorem operate_ {M: Model} {A: Around} {vs: List Value} {m: Sem Value} {Q: Value->Shared->Prop} (h: wpAny M A m Q E s): wpAny M A (operate vs m) Q E s := fun Γ p hΓ=>by rw[Sem.wp_operate];exact h Γ p hΓ
theorem release_ {M: Model} {A: Around} {vs ks: List Value} {Q: Unit->Shared->Prop} (h: Q () s): wpAny M A (release vs ks) Q E s := fun Γ p hΓ=>by rw[Sem.wp_release];exact h
theorem list_at (G: Good W cx g σ s) {d: DV} {v: Value} {l: List DV} (r: Rep g d v) (h: asL σ.mu d=some l) :
  ∃ a n vs,v=.ref a/\s.heap.get? a=some (listOf vs.toArray n)/\RepL g l vs := by
 cases r with
 |lst h1 r=>simp only[asL,Option.some.injEq]at h;subst h;exact⟨_,_,_,rfl,G.sim.frz _ _ h1,r⟩
 |ref a=>
  simp only[asL]at h
  cases e: σ.mu a with
  |none=>rw[e]at h;cases h
  |some mo=>
   rw[e]at h
   cases mo<;>simp at h
   subst h
   obtain⟨_,_,ob,h3,h4⟩ := G.sim.muts _ _ e
   cases h4 with
   |lst r=>exact⟨_,_,_,rfl,h3,r⟩
 |_=>simp[asL]at h
theorem isList_at (G: Good W cx g σ s) {d: DV} {v: Value} {l: List DV} (r: Rep g d v) (h: asL σ.mu d=some l): ∃ a vs,v=.ref a/\s.heap.IsList a vs.toArray/\RepL g l vs :=
 let ⟨a,n,vs,e,h1,h4⟩ := list_at G r h
 ⟨a,vs,e,⟨_,h1,rfl,n,rfl⟩,h4⟩
theorem seq_at (G: Good W cx g σ s) {d: DV} {v: Value} {l: List DV} (r: Rep g d v) (h: seqV σ.mu d=some l) :
  ∃ a o n vs,v=.ref a/\s.heap.get? a=some o/\(o.cls=.type "list"\/o.cls=.type "tuple")/\o.data=.seq vs.toArray n/\RepL g l vs := by
 cases r with
 |tup h1 hc hd r=>simp only[seqV,Option.some.injEq]at h;subst h;exact⟨_,_,_,_,rfl,G.sim.frz _ _ h1,.inr hc,hd,r⟩
 |lst h1 r=>obtain⟨a,n,vs,e,h1,h4⟩ := list_at G (.lst h1 r) h;exact⟨a,_,n,vs,e,h1,.inl rfl,rfl,h4⟩
 |ref a=>obtain⟨a,n,vs,e,h1,h4⟩ := list_at G (.ref a) h;exact⟨a,_,n,vs,e,h1,.inl rfl,rfl,h4⟩
 |_=>simp[seqV,asL]at h
theorem newList_ (G: Good W cx g σ s) {l: List DV} {vs: List Value} {Q: DV->St->Prop} (r: RepL g l vs) (hz: vs.length<=sizeLine) (h: newL l Q σ): wpAny W.M cx.A (newList vs) (PostE W cx g Q) E s :=
 wpAny_newObj_type ((G.newM (mo := .lst l) {cls := .type "list",data := .seq vs.toArray} rfl (.lst r)).post (.ref _) (h _ (G.sim.mnone (fresh_none _)))) (by show vs.toArray.size<=sizeLine;rw[List.size_toArray];exact hz)
theorem newTuple_ (G: Good W cx g σ s) {l: List DV} {vs: List Value} {Q: DV->St->Prop} (r: RepL g l vs) (hz: vs.length<=sizeLine) (h: Q (.tup l) σ): wpAny W.M cx.A (newTuple vs) (PostE W cx g Q) E s := by
 obtain⟨e,G'⟩ := G.newF {cls := .type "tuple",data := .seq vs.toArray} rfl
 exact wpAny_newObj_type ⟨_,_,_,e,G',.tup (gadd_self _ _ _) rfl rfl (r.mono e),h⟩ (by show vs.toArray.size<=sizeLine;rw[List.size_toArray];exact hz)
theorem small_line {n: Nat} (h: small n): n<=sizeLine := by unfold small at h;rw[sizeLine_eq];omega
theorem back_list (G: Good W cx g σ s) {mm: Str->Option Value} (F: Fr W.h₀ cx.env.locals s.heap mm) {h': Heap} {l: List DV} {o: Obj} {Q: DV->St->Prop} (F': Fr W.h₀ cx.env.locals h' mm)
  (N': News W.h₀ cx.env.locals h' ((s.heap.objs.size,o)::ledger W.h₀ s.heap cx.env.locals)) (r: MRep W.prog W.w g (.lst l) o) (h: newL l Q σ): PostE W cx g Q (.ref s.heap.objs.size) {s with heap := h'} :=
 (G.newsL (t := s.toks) F F' N' r).post (.ref _) (h _ (G.sim.mnone (fresh_none _)))
theorem foldl_append {α: Type}: ∀(l: List (Array α)) (acc: Array α),(l.foldl (fun x y=>x++y) acc)=acc++(l.map Array.toList).flatten.toArray
 |[],acc=>by simp
 |a::r,acc=>by rw[List.foldl_cons,foldl_append r];apply Array.ext';simp
theorem repL_replicate {l: List DV} {vs: List Value} (r: RepL g l vs): ∀ n,RepL g (List.replicate n l).flatten (List.replicate n vs).flatten
 |0=>.nil
 |n+1=>by rw[List.replicate_succ,List.replicate_succ,List.flatten_cons,List.flatten_cons];exact r.append (repL_replicate r n)
theorem bits_le {i: Int} (h: bigI i): Builtin.Int.intBits i<=64 := by
 unfold bigI at h
 unfold Builtin.Int.intBits
 split
 ·omega
 ·rename_i hi
  have: i.natAbs.log2<60 := by
   rw[Nat.log2_lt (by simpa using hi)];exact h
  omega
theorem fdiv_pos {i j: Int} (h: 0<j): i.fdiv j=i / j := Int.fdiv_eq_ediv_of_nonneg _ (Int.le_of_lt h)
theorem fmod_pos {i j: Int} (h: 0<j): i.fmod j=i % j := Int.fmod_eq_emod_of_nonneg _ (Int.le_of_lt h)
theorem noPylong {i j: Int} (h: bigI j): Builtin.divisionGoesByPylong i j=false := by
 unfold Builtin.divisionGoesByPylong
 unfold bigI at h
 have: ¬ ((if(j==0)=true then 0 else j.natAbs.log2 / 30+1)>300) := by
  split
  ·omega
  ·rename_i hj
   have: j.natAbs.log2<60 := by
    rw[Nat.log2_lt (by simpa using hj)];exact h
   omega
 simp only[Bool.and_eq_false_iff]
 exact .inl (decide_eq_false this)
theorem band_nat {i j: Int} (hi: 0<=i) (hj: 0<=j): Builtin.bitAnd i j=Int.ofNat (i.toNat&&& j.toNat) := by
 obtain⟨a,rfl⟩ := Int.eq_ofNat_of_zero_le hi
 obtain⟨b,rfl⟩ := Int.eq_ofNat_of_zero_le hj
 first|rfl|simp[Builtin.bitAnd]
def opOf: BOp->Operator
 |.add=>.Add|.sub=>.Sub|.mul=>.Mult|.fdiv=>.FloorDiv|.mod=>.Mod|.pow=>.Pow|.band=>.BitAnd
theorem opOf_of {op: Operator} {o: BOp} (h: cBOp op=some o): op=opOf o := by
 cases op<;>simp[cBOp]at h<;>subst h<;>rfl
theorem bin_rule (G: Good W cx g σ s) {op: BOp} {d e: DV} {v w: Value} {Q: DV->St->Prop} (r: Rep g d v) (r': Rep g e w) (h: wpBin op d e Q σ): wpAny W.M cx.A (binaryOp (opOf op) v w) (PostE W cx g Q) E s := by
 have lists: ∀{l m: List DV},asL σ.mu d=some l->asL σ.mu e=some m->small (l.length+m.length)->newL (l++m) Q σ->wpAny W.M cx.A (binaryOp .Add v w) (PostE W cx g Q) E s := by
  intro l m h1 h2 h3 h4
  obtain⟨a,vs,rfl,hl,r1⟩ := isList_at G r h1
  obtain⟨b,ws,rfl,hl',r2⟩ := isList_at G r' h2
  obtain⟨mm,F,N⟩ := G.fr
  refine add_arrays F N hl hl' (fun h' F' N'=>back_list G F F' N' (.lst (by simpa using r1.append r2)) h4) ?_
  have := small_line h3
  rw[r1.length,r2.length]at this
  simpa using this
 cases op with
 |add=>
  simp only[wpBin]at h
  split at h
  ·rename_i i j
   cases r;cases r'
   exact add_int ((G.toks _).post (.int _ _) h)
  ·split at h
   ·rename_i h1 h2;exact lists h1 h2 h.1 h.2
   ·exact h.elim
 |sub=>
  simp only[wpBin]at h
  split at h
  ·cases r;cases r';exact sub_int ((G.toks _).post (.int _ _) h)
  ·exact h.elim
 |mul=>
  simp only[wpBin]at h
  split at h
  ·cases r;cases r'
   exact mul_int ((G.toks _).post (.int _ _) h.2.2) (IntMulOk.of_left (bits_le h.1))
  ·split at h
   ·rename_i l hl
    obtain⟨h0,hj,h1,h2⟩ := h
    obtain⟨a,n,vs,rfl,ho,r1⟩ := list_at G r hl
    rename_i x9 j _ _
    cases r'
    obtain⟨mm,F,N⟩ := G.fr
    have hz := small_line h1
    rw[r1.length]at hz
    rw[sizeLine_eq]at hz
    refine mul_list F N ho (by omega) hj (by simpa using hz) (fun h' F' N'=>back_list G F F' N' ?_ h2)
    rw[foldl_append]
    have e: (List.map Array.toList (List.replicate (if vs.toArray.isEmpty=true then 0 else j.toNat) vs.toArray)).flatten=(List.replicate j.toNat vs).flatten := by
     rw[List.map_replicate]
     split
     ·rename_i hv
      have: vs=[] := by simpa using hv
      subst this;simp
     ·rfl
    rw[e]
    rw[Array.empty_append]
    exact .lst (repL_replicate r1 _)
   ·exact h.elim
  ·exact h.elim
 |fdiv=>
  simp only[wpBin]at h
  split at h
  ·cases r;cases r'
   obtain⟨h0,h1,h2⟩ := h
   rename_i i j _ _
   exact floordiv_int (by omega) ((G.toks _).post (by rw[fdiv_pos h0];exact .int _ _) h2) (.inl (noPylong h1))
  ·exact h.elim
 |mod=>
  simp only[wpBin]at h
  split at h
  ·cases r;cases r'
   obtain⟨h0,h2⟩ := h
   exact mod_int' (by omega) ((G.toks _).post (by rw[fmod_pos h0];exact .int _ _) h2)
  ·exact h.elim
 |pow=>
  simp only[wpBin]at h
  split at h
  ·cases r;cases r'
   obtain⟨rfl,rfl,h2⟩ := h
   exact pow_int_small (by decide) (by decide) (by decide) ((G.toks _).post (.int _ _) h2)
  ·exact h.elim
 |band=>
  simp only[wpBin]at h
  split at h
  ·cases r;cases r'
   obtain⟨h0,h1,h2⟩ := h
   exact and_int ((G.toks _).post (by rw[band_nat h0 h1];exact .int _ _) h2)
  ·exact h.elim
end
end
section
mutual
inductive PdR: DV->PyData->Prop
 |none: PdR .none .none
 |bool (b: Bool): PdR (.bool b) (.bool b)
 |int (i: Int): PdR (.int i) (.int i)
 |str (x: Str) (h: okc x=true): PdR (.str (enc x)) (.str x)
 |tup {ds: List DV} {ps: List PyData} (r: PdL ds ps): PdR (.tup ds) (.tuple ps)
 |lst {ds: List DV} {ps: List PyData} (r: PdL ds ps): PdR (.lst ds) (.list ps)
inductive PdL: List DV->List PyData->Prop
 |nil: PdL [] []
 |cons {d: DV} {p: PyData} {ds: List DV} {ps: List PyData} (h: PdR d p) (r: PdL ds ps): PdL (d::ds) (p::ps)
end
theorem PdL.length: ∀{ds: List DV} {ps: List PyData},PdL ds ps->ds.length=ps.length
 |_,_,.nil=>rfl
 |_,_,.cons _ r=>by rw[List.length_cons,List.length_cons,r.length]
theorem strOk_ascii: ∀{l: List Nat},okL l=true->∀ c∈l,c<128
 |c::r,h,x,hx=>by
  simp only[okL,Bool.and_eq_true,Nat.ble_eq]at h
  rcases List.mem_cons.mp hx with rfl|hx
  ·omega
  ·exact strOk_ascii h.2 x hx
theorem strOk_of {x: Str} (h: okc x=true): PyData.strOk x=true := by
 have := strOk_ascii h
 unfold PyData.strOk
 rw[<-Array.all_toList,List.all_eq_true]
 intro c hc
 have := this c hc
 simp;omega
section
variable {g: Hp} {h: Heap}
mutual
theorem rep_reads (k: ∀ b o,g b=some o->h.get? b=some o): ∀(n: Nat) {d: DV} {v: Value},Rep g d v->plainN n d=true->∃ p as,PdR d p/\Reads h v p as/\p.canLay0=true/\p.depth<=n
 |n,_,_,.none,_=>⟨_,_,.none,.none,by simp[PyData.canLay0],by simp[PyData.depth]⟩
 |n,_,_,.bool b,_=>⟨_,_,.bool b,.bool b,by simp[PyData.canLay0],by simp[PyData.depth]⟩
 |n,_,_,.int i t,_=>⟨_,_,.int i,.int i t,by simp[PyData.canLay0],by simp[PyData.depth]⟩
 |n,_,_,.str x t ok,_=>⟨_,_,.str x ok,.str x t,by simp[PyData.canLay0,strOk_of ok],by simp[PyData.depth]⟩
 |n+1,_,_,.tup h1 hc hd r,hp=>by
  obtain⟨ps,as,a,b,c,e⟩ := repL_reads k n r (by simpa [plainN]using hp)
  exact⟨_,_,.tup a,.tuple (k _ _ h1) hc hd (by simpa using b),by simpa [PyData.canLay0]using c,by simp only[PyData.depth];omega⟩
 |n+1,_,_,.lst h1 r,hp=>by
  obtain⟨ps,as,a,b,c,e⟩ := repL_reads k n r (by simpa [plainN]using hp)
  exact⟨_,_,.lst a,.list (k _ _ h1) rfl rfl (by simpa using b),by simpa [PyData.canLay0]using c,by simp only[PyData.depth];omega⟩
 |0,_,_,.tup _ _ _ _,hp=>by simp[plainN]at hp
 |0,_,_,.lst _ _,hp=>by simp[plainN]at hp
 |n,_,_,.bytes _ _,hp=>by cases n<;>simp[plainN]at hp
 |n,_,_,.rng _,hp=>by cases n<;>simp[plainN]at hp
 |n,_,_,.inst _ _ _,hp=>by cases n<;>simp[plainN]at hp
 |n,_,_,.ref _,hp=>by cases n<;>simp[plainN]at hp
 |n,_,_,.fn _,hp=>by cases n<;>simp[plainN]at hp
 |n,_,_,.cls _,hp=>by cases n<;>simp[plainN]at hp
 |n,_,_,.bi _,hp=>by cases n<;>simp[plainN]at hp
theorem repL_reads (k: ∀ b o,g b=some o->h.get? b=some o): ∀(n: Nat) {ds: List DV} {vs: List Value},RepL g ds vs->ds.all (plainN n)=true->∃ ps as,PdL ds ps/\ReadsAll h vs ps as/\PyData.canLayAll0 ps=true/\PyData.depthAll ps<=n
 |n,_,_,.nil,_=>⟨_,_,.nil,.nil,by simp[PyData.canLayAll0],by simp[PyData.depthAll]⟩
 |n,_,_,.cons r rs,hp=>by
  simp only[List.all_cons,Bool.and_eq_true]at hp
  obtain⟨p,as,a1,b1,c1,e1⟩ := rep_reads k n r hp.1
  obtain⟨ps,bs,a2,b2,c2,e2⟩ := repL_reads k n rs hp.2
  exact⟨_,_,.cons a1 a2,.cons b1 b2,by simp[PyData.canLayAll0,c1,c2],by simp only[PyData.depthAll];omega⟩
end
end
theorem eqN_all: ∀(n: Nat),(∀{a b: DV} {p q: PyData} {t: Bool},PdR a p->PdR b q->eqN n a b=some t->PyData.eqv p q=t)/\
  (∀{a b: List DV} {p q: List PyData} {t: Bool},PdL a p->PdL b q->eqL (eqN n) a b=some t->PyData.eqvAll p q=t) := by
 have lists: ∀(f: DV->DV->Option Bool),(∀{a b: DV} {p q: PyData} {t: Bool},PdR a p->PdR b q->f a b=some t->PyData.eqv p q=t)->
   ∀{a b: List DV} {p q: List PyData} {t: Bool},PdL a p->PdL b q->eqL f a b=some t->PyData.eqvAll p q=t := by
  intro f hf a
  induction a with
  |nil=>
   intro b p q t h1 h2 h
   cases h1;cases h2<;>simp[eqL]at h<;>simp[PyData.eqvAll,h]
  |cons x a ih=>
   intro b p q t h1 h2 h
   cases h1 with
   |cons h1 r1=>
    cases h2 with
    |nil=>simp[eqL]at h;simp[PyData.eqvAll,h]
    |cons h2 r2=>
     simp only[eqL]at h
     split at h
     ·rename_i e;simp only[PyData.eqvAll,hf h1 h2 e,ih r1 r2 h,Bool.true_and]
     ·rename_i e
      split at h
      ·simp only[Option.some.injEq]at h;subst h;simp only[PyData.eqvAll,hf h1 h2 e,Bool.false_and]
      ·cases h
     ·cases h
 intro n
 induction n with
 |zero=>
  have one: ∀{a b: DV} {p q: PyData} {t: Bool},PdR a p->PdR b q->eqN 0 a b=some t->PyData.eqv p q=t := by
   intro a b p q t h1 h2 h
   cases h1<;>cases h2<;>simp[eqN]at h<;>subst h<;>simp only[PyData.eqv]
   ·rename_i i j;by_cases e: i=j<;>simp[e]
   ·rename_i x hx y hy
    by_cases e: x=y
    ·subst e;simp
    ·have: enc x≠enc y := fun q=>e (enc_inj hx hy q)
     simp[e,beq_false this]
  exact⟨one,lists _ one⟩
 |succ n ih=>
  have one: ∀{a b: DV} {p q: PyData} {t: Bool},PdR a p->PdR b q->eqN (n+1) a b=some t->PyData.eqv p q=t := by
   intro a b p q t h1 h2 h
   cases h1 with
   |tup r1=>cases h2<;>simp[eqN]at h;rename_i r2;simp only[PyData.eqv];exact ih.2 r1 r2 h
   |lst r1=>cases h2<;>simp[eqN]at h;rename_i r2;simp only[PyData.eqv];exact ih.2 r1 r2 h
   |none=>cases h2<;>simp[eqN]at h;subst h;simp[PyData.eqv]
   |bool b=>cases h2<;>simp[eqN]at h;subst h;simp[PyData.eqv]
   |int i=>cases h2<;>simp[eqN]at h;subst h;rename_i j;simp only[PyData.eqv];by_cases e: i=j<;>simp[e]
   |str x hx=>
    cases h2<;>simp[eqN]at h;subst h;rename_i y hy;simp only[PyData.eqv]
    by_cases e: x=y
    ·subst e;simp
    ·have: enc x≠enc y := fun q=>e (enc_inj hx hy q)
     simp[e,beq_false this]
  exact⟨one,lists _ one⟩
theorem memL_any {x: DV} {d: PyData} (hx: PdR x d): ∀{l: List DV} {ps: List PyData} {t: Bool},PdL l ps->memL x l=some t->ps.any (fun y=>PyData.eqv y d)=t
 |_,_,t,.nil,h=>by simp[memL]at h;simp[h]
 |_,_,t,.cons h1 r,h=>by
  simp only[memL]at h
  split at h
  ·rename_i b e
   split at h
   ·rename_i t' e'
    simp at h
    rw[List.any_cons,(eqN_all 8).1 h1 hx e,memL_any hx r e',h]
   ·cases h
  ·cases h
section
variable {W: Wd} {too: Addr} {cx: Cx} {X: DV->St->Prop} {σ: St} {g g': Hp} {s: Shared} {E: Value->Shared->Prop}
def cmOf: COp->CmpOp
 |.eq=>.Eq|.ne=>.NotEq|.lt=>.Lt|.le=>.LtE|.gt=>.Gt|.ge=>.GtE|.inn=>.In|.nin=>.NotIn
theorem cmOf_of {op: CmpOp} {o: COp} (h: cCOp op=some o): op=cmOf o := by
 cases op<;>simp[cCOp]at h<;>subst h<;>rfl
theorem shaped_of {p: PyData} (h: p.canLay0=true) (hd: p.depth<=9): SeqAt.shaped p=true := by
 unfold SeqAt.shaped
 rw[h,decide_eq_true (by omega)];rfl
theorem eqTop_rule (hu: cx.A.units+64<cLine) (G: Good W cx g σ s) {d e: DV} {v w: Value} {t: Bool} {Q: Value->Shared->Prop} (r: Rep g d v) (r': Rep g e w) (h: eqTop σ.mu d e=some t) :
  (Q (.bool t) s->wpAny W.M cx.A (compareOp .Eq v w) Q E s)/\(Q (.bool (!t)) s->wpAny W.M cx.A (compareOp .NotEq v w) Q E s) := by
 unfold eqTop at h
 split at h
 ·rename_i x y hx hy
  obtain⟨a,n,vs,rfl,ha,r1⟩ := list_at G r hx
  obtain⟨b,n',ws,rfl,hb,r2⟩ := list_at G r' hy
  split at h
  ·rename_i hl
   split at h
   ·rename_i hp
    rw[Bool.and_eq_true]at hp
    obtain⟨ps,as,a1,b1,c1,e1⟩ := repL_reads G.sim.frz 8 r1 hp.1
    obtain⟨qs,bs,a2,b2,c2,e2⟩ := repL_reads G.sim.frz 8 r2 hp.2
    have q := (eqN_all 8).2 a1 a2 h
    have ra: Reads s.heap (.ref a) (.list ps) (a::as) := .list ha rfl rfl (by simpa using b1)
    have rb: Reads s.heap (.ref b) (.list qs) (b::bs) := .list hb rfl rfl (by simpa using b2)
    have sa: SeqAt.shaped (.list ps)=true := shaped_of (by simpa [PyData.canLay0]using c1) (by simp only[PyData.depth];omega)
    have sb: SeqAt.shaped (.list qs)=true := shaped_of (by simpa [PyData.canLay0]using c2) (by simp only[PyData.depth];omega)
    exact⟨fun z=>eq_dataH ra rb sa sb hu (by simp only[PyData.eqv];rw[q];exact z),fun z=>ne_dataH ra rb sa sb hu (by simp only[PyData.eqv];rw[q];exact z)⟩
   ·cases h
  ·rename_i hl
   cases h
   have hne: (vs.toArray.size != ws.toArray.size)=true := by
    have: x.length≠y.length := fun e=>by rw[e,beq_self]at hl;cases hl
    rw[r1.length,r2.length]at this
    simpa using this
   exact⟨fun z=>SeqAt.eq_list_lengthsAt ⟨_,ha,rfl,_,rfl⟩ ⟨_,hb,rfl,_,rfl⟩ hne (by omega) z,fun z=>SeqAt.RcNeAt.lists_lengths ⟨_,ha,rfl,_,rfl⟩ ⟨_,hb,rfl,_,rfl⟩ hne (by omega) _ _ _ _ z⟩
 ·split at h
  ·rename_i hp
   rw[Bool.and_eq_true]at hp
   obtain⟨p,as,a1,b1,c1,e1⟩ := rep_reads G.sim.frz 8 r hp.1
   obtain⟨q,bs,a2,b2,c2,e2⟩ := rep_reads G.sim.frz 8 r' hp.2
   have z := (eqN_all 8).1 a1 a2 h
   exact⟨fun y=>eq_dataH b1 b2 (shaped_of c1 (by omega)) (shaped_of c2 (by omega)) hu (by rw[z];exact y),fun y=>ne_dataH b1 b2 (shaped_of c1 (by omega)) (shaped_of c2 (by omega)) hu (by rw[z];exact y)⟩
  ·cases h
 ·cases h
theorem valueAt_isSome {K: Type} [DecidableEq K] (kvs: List (K×Value)) (k: K) [BEq K] [LawfulBEq K]: (valueAt kvs k).isSome=(kvs.map (·.1)).contains k := by
 induction kvs with
 |nil=>rfl
 |cons x r ih=>
  unfold valueAt at ih ⊢
  rw[List.find?_cons,List.map_cons,List.contains_cons]
  by_cases e: x.1=k
  ·simp[e]
  ·have: (k==x.1)=false := by simp;exact fun h=>e h.symm
   simp only[decide_eq_false e,this,Bool.false_or];exact ih
theorem atKey_isSome {K: Type} [DecidableEq K] (xs: List (K×Addr×Value)) (k: K) [BEq K] [LawfulBEq K]: (atKey xs k).isSome=(xs.map (·.1)).contains k := by
 induction xs with
 |nil=>rfl
 |cons x r ih=>
  unfold atKey at ih ⊢
  rw[List.find?_cons,List.map_cons,List.contains_cons]
  by_cases e: x.1=k
  ·simp[e]
  ·have: (k==x.1)=false := by simp;exact fun h=>e h.symm
   simp only[decide_eq_false e,this,Bool.false_or];exact ih
theorem low_sys (WO: W.Ok) (G: Good W cx g σ s) {a: Addr} {mo: MObj} (hm: σ.mu a=some mo): (a==sysModules)=false := by
 have h1 := G.sim.mabove a mo hm
 have h2 := WO.ng.lt
 have h3: mainGlobals=3 := rfl
 have h4: sysModules=1 := rfl
 rw[beq_eq_false_iff_ne]
 intro e
 subst e
 exact absurd (Nat.lt_of_lt_of_le h2 h1) (by decide)
theorem pairKey (G: Good W cx g σ s) {i j: Int} {v: Value} (r: Rep g (.tup [.int i,.int j]) v): ∃ a o n vs,v=.ref a/\g a=some o/\o.cls=.type "tuple"/\o.data=.seq vs n/\ItemsAre (intKind W.prog W.w) [i,j] vs.toList := by
 cases r with
 |tup h hc hd r=>
  cases r with
  |cons r1 r=>
   cases r with
   |cons r2 r=>
    cases r;cases r1;cases r2
    exact⟨_,_,_,_,rfl,h,hc,hd,.cons (by simp[intKind,Value.isInt]) (.cons (by simp[intKind,Value.isInt]) .nil)⟩
theorem dictOf_mapOf {K: Type} [DecidableEq K] {prog: Program} {w: World} {knd: KeyKind prog w K} {h: Heap} {a: Addr} {o: Obj} {kvs: List (K×Value)} (ho: h.get? a=some o) (x: o.IsDictOf knd kvs): h.DictOf knd a kvs := by
 obtain⟨es,ep,r⟩ := x
 exact⟨o,es,ep,ho,r⟩
theorem empty_dictOf {K: Type} [DecidableEq K] {prog: Program} {w: World} {knd: KeyKind prog w K} {ep: Nat}: ({cls := .type "dict",data := .dict #[] ep}: Obj).IsDictOf knd [] :=
 ⟨#[],ep,⟨rfl,rfl,rfl⟩,rfl,(fun _ h=>by simp at h),.nil,.nil⟩
theorem inDict (WO: W.Ok) (hu: cx.A.units+64<cLine) (G: Good W cx g σ s) {a: Addr} {mo: MObj} (hm: σ.mu a=some mo) {d: DV} {v: Value} {t: Bool} {Q: Value->Shared->Prop} (r: Rep g d v) (h: dctHas d mo=some t) :
  ((∀ k,Q (.bool t) {s with toks := k})->wpAny W.M cx.A (compareOp .In v (.ref a)) Q E s)/\((∀ k,Q (.bool (!t)) {s with toks := k})->wpAny W.M cx.A (compareOp .NotIn v (.ref a)) Q E s) := by
 have hs := low_sys WO G hm
 obtain⟨_,_,ob,ho,hr⟩ := G.sim.muts _ _ hm
 have intsK: ∀{i: Int} {kvs: List (Int×Value)},Rep g (.int i) v->ob.IsDictOf (intKind W.prog W.w) kvs->(kvs.map (·.1)).contains i=t->
   ((∀ k,Q (.bool t) {s with toks := k})->wpAny W.M cx.A (compareOp .In v (.ref a)) Q E s)/\((∀ k,Q (.bool (!t)) {s with toks := k})->wpAny W.M cx.A (compareOp .NotIn v (.ref a)) Q E s) := by
  intro i kvs r hd e
  cases r
  have hmap := (dictOf_mapOf ho hd).mapOf
  have hkey: (intKind W.prog W.w).is i (.int i ‹Tok›)=true := by simp[intKind,Value.isInt]
  exact⟨fun z=>wpAny_in_of hkey hs hmap (by rw[valueAt_isSome,e];exact z _),fun z=>wpAny_notIn_of hkey hs hmap (by rw[valueAt_isSome,e];exact z _)⟩
 have pairsK: ∀{i j: Int} {xs: List (List Int×Addr×Value)},Rep g (.tup [.int i,.int j]) v->s.heap.DictOfH (tupleKind (intKind W.prog W.w)) a xs->(xs.map (·.1)).contains [i,j]=t->
   ((∀ k,Q (.bool t) {s with toks := k})->wpAny W.M cx.A (compareOp .In v (.ref a)) Q E s)/\((∀ k,Q (.bool (!t)) {s with toks := k})->wpAny W.M cx.A (compareOp .NotIn v (.ref a)) Q E s) := by
  intro i j xs r hd e
  obtain⟨b,o,n,vs,rfl,hb,hc,hdd,hi⟩ := pairKey G r
  have hkey: (tupleKind (intKind W.prog W.w)).is s.heap [i,j] b := ⟨o,vs,n,G.sim.frz _ _ hb,hc,hdd,hi⟩
  have hroom: (tupleKind (intKind W.prog W.w)).room cx.A.in1 := by show cx.A.units+1<cLine;omega
  exact⟨fun z=>wpAny_in_heap hroom hkey hs hd (by rw[atKey_isSome,e];exact z _),fun z=>wpAny_notIn_heap hroom hkey hs hd (by rw[atKey_isSome,e];exact z _)⟩
 cases mo with
 |dE=>
  cases hr
  simp only[dctHas]at h
  split at h
  ·cases h;exact intsK r empty_dictOf rfl
  ·cases h;exact pairsK (xs := []) r ⟨_,#[],_,ho,⟨rfl,rfl,rfl⟩,rfl,rfl,(fun _ hx=>nomatch hx),List.nodup_nil⟩ rfl
  ·cases h
 |dI ks=>
  cases hr with
  |dI hd=>
   simp only[dctHas]at h
   split at h
   ·simp only[Option.some.injEq]at h;exact intsK r hd h
   ·cases h
 |dT ks=>
  cases hr with
  |dT hx hd he hi nd=>
   simp only[dctHas]at h
   split at h
   ·simp only[Option.some.injEq]at h
    exact pairsK r ⟨_,_,_,ho,hx,hd,he,(fun x hx=>by obtain⟨o,n,vs,a1,a2,a3,a4⟩ := hi x hx;exact⟨o,vs,n,G.sim.frz _ _ a1,a2,a3,a4⟩),nd⟩ h
   ·cases h
 |_=>simp[dctHas]at h
theorem inSeq (hu: cx.A.units+64<cLine) (G: Good W cx g σ s) {d e: DV} {v w: Value} {l: List DV} {t: Bool} {Q: Value->Shared->Prop} (r: Rep g d v) (r': Rep g e w) (hl: seqV σ.mu e=some l) (h: memV d l=some t) :
  (Q (.bool t) s->wpAny W.M cx.A (compareOp .In v w) Q E s)/\(Q (.bool (!t)) s->wpAny W.M cx.A (compareOp .NotIn v w) Q E s) := by
 unfold memV at h
 split at h
 ·rename_i hp
  rw[Bool.and_eq_true]at hp
  obtain⟨p,as,a1,b1,c1,e1⟩ := rep_reads G.sim.frz 8 r hp.1
  obtain⟨a,o,n,vs,rfl,ho,hc,hd,rl⟩ := seq_at G r' hl
  obtain⟨ps,bs,a2,b2,c2,e2⟩ := repL_reads G.sim.frz 8 rl hp.2
  have z := memL_any a1 a2 h
  have hu': cx.A.units+1+min (PyData.depthAll ps) p.depth<cLine := by omega
  rcases hc with hc|hc
  ·have rd: Reads s.heap (.ref a) (.list ps) (a::bs) := .list ho hc hd (by simpa using b2)
   exact⟨fun y=>SeqAt.in_list_reads rd b1 c2 c1 hu' (by rw[z];exact y),fun y=>SeqAt.notIn_list_reads rd b1 c2 c1 hu' (by rw[z];exact y)⟩
  ·have rd: Reads s.heap (.ref a) (.tuple ps) bs := .tuple ho hc hd (by simpa using b2)
   exact⟨fun y=>SeqAt.in_tuple_reads rd b1 c2 c1 hu' (by rw[z];exact y),fun y=>SeqAt.notIn_tuple_reads rd b1 c2 c1 hu' (by rw[z];exact y)⟩
 ·cases h
theorem cmp_rule (WO: W.Ok) (hu: cx.A.units+64<cLine) (G: Good W cx g σ s) {op: COp} {d e: DV} {v w: Value} {t: Bool} {Q: Bool->St->Prop} (r: Rep g d v) (r': Rep g e w) (h: cmpV σ.mu op d e=some t) (q: Q t σ) :
  wpAny W.M cx.A (compareOp (cmOf op) v w) (fun v s'=>∃ t,v=.bool t/\Good W cx g σ s'/\Q t σ) E s := by
 cases op with
 |eq=>exact(eqTop_rule hu G r r' h).1 ⟨t,rfl,G,q⟩
 |ne=>
  simp only[cmpV,Option.map_eq_some_iff]at h
  obtain⟨t',h,rfl⟩ := h
  exact(eqTop_rule hu G r r' h).2 ⟨_,rfl,G,q⟩
 |lt=>simp only[cmpV]at h;split at h<;>cases h;cases r;cases r';exact lt_int ⟨_,rfl,G,q⟩
 |le=>simp only[cmpV]at h;split at h<;>cases h;cases r;cases r';exact le_int ⟨_,rfl,G,q⟩
 |gt=>simp only[cmpV]at h;split at h<;>cases h;cases r;cases r';exact gt_int ⟨_,rfl,G,q⟩
 |ge=>simp only[cmpV]at h;split at h<;>cases h;cases r;cases r';exact ge_int ⟨_,rfl,G,q⟩
 |inn=>
  simp only[cmpV,inV]at h
  split at h
  ·rename_i a
   cases r'
   split at h
   ·rename_i l hl
    exact(inSeq hu G r (.ref a) (by simp only[seqV,asL,hl]) h).1 ⟨_,rfl,G,q⟩
   ·rename_i o _ ho
    exact(inDict WO hu G ho r h).1 fun k=>⟨_,rfl,G.toks k,q⟩
   ·cases h
  ·split at h
   ·rename_i l hl
    exact(inSeq hu G r r' hl h).1 ⟨_,rfl,G,q⟩
   ·cases h
 |nin=>
  simp only[cmpV,Option.map_eq_some_iff]at h
  obtain⟨t',h,rfl⟩ := h
  simp only[inV]at h
  split at h
  ·rename_i a
   cases r'
   split at h
   ·rename_i l hl
    exact(inSeq hu G r (.ref a) (by simp only[seqV,asL,hl]) h).2 ⟨_,rfl,G,q⟩
   ·rename_i o _ ho
    exact(inDict WO hu G ho r h).2 fun k=>⟨_,rfl,G.toks k,q⟩
   ·cases h
  ·split at h
   ·rename_i l hl
    exact(inSeq hu G r r' hl h).2 ⟨_,rfl,G,q⟩
   ·cases h
theorem isNone_rule (G: Good W cx g σ s) {d: DV} {v: Value} (r: Rep g d v): (v==Value.none)=isNone d := by
 cases r with
 |bi b=>cases b<;>rfl
 |_=>rfl
theorem truth_rule (G: Good W cx g σ s) {d: DV} {v: Value} {t: Bool} (r: Rep g d v) (h: truthV d=some t): v=.bool t := by
 cases r<;>simp[truthV]at h
 subst h;rfl
end
end
section
theorem repE_fld {g: Hp} {x: Str} (hx: okc x=true): ∀{ns: List Nat} {ds: List DV} {es: List DictEntry},RepE g ns ds es->∀{d: DV},fld ns ds (enc x)=some d->∃ v,getL x es=some (some v)/\Rep g d v
 |_,_,_,.nil,d,h=>by simp[fld]at h
 |_,_,_,.cons (x := y) (t := t) (hs := hs) (v := v) (es := es) ok h1 r,d,h=>by
  unfold fld at h
  cases e: Nat.beq (enc y) (enc x)with
  |true=>
   rw[e,if_pos rfl]at h;cases h
   have: y=x := enc_inj ok hx (Nat.eq_of_beq_eq_true e)
   subst this
   refine⟨v,?_,h1⟩
   simp[getL,Value.isStr]
  |false=>
   rw[e,if_neg (by simp)]at h
   obtain⟨w,q1,q2⟩ := repE_fld hx r h
   refine⟨w,?_,q2⟩
   have hne: (Value.str y t).isStr x=false := by
    show(y==x)=false
    rw[beq_eq_false_iff_ne];intro q;rw[q,beq_self]at e;cases e
   unfold getL at q1 ⊢
   rw[List.find?_cons]
   simp only[hne]
   split at q1
   ·rename_i e1 he;rw[he];exact q1
   ·split at q1<;>cases q1
theorem repE_noRef {g: Hp}: ∀{ns: List Nat} {ds: List DV} {es: List DictEntry},RepE g ns ds es->es.any (·.refKey)=false
 |_,_,_,.nil=>rfl
 |_,_,_,.cons _ _ r=>by rw[List.any_cons,repE_noRef r];rfl
theorem repE_none {g: Hp} {x: Str} (hx: okc x=true): ∀{ns: List Nat} {ds: List DV} {es: List DictEntry},RepE g ns ds es->fld ns ds (enc x)=none->getL x es=some none
 |_,_,_,.nil,_=>rfl
 |_,_,_,.cons (x := y) (t := t) (hs := hs) (v := v) (es := es) ok h1 r,h=>by
  unfold fld at h
  cases e: Nat.beq (enc y) (enc x)with
  |true=>rw[e,if_pos rfl]at h;cases h
  |false=>
   rw[e,if_neg (by simp)]at h
   have q1 := repE_none hx r h
   have hne: (Value.str y t).isStr x=false := by
    show(y==x)=false
    rw[beq_eq_false_iff_ne];intro q;rw[q,beq_self]at e;cases e
   have nr := repE_noRef r
   unfold getL at q1 ⊢
   rw[List.find?_cons]
   simp only[hne]
   split at q1
   ·cases q1
   ·rename_i e1;rw[e1];rw[List.any_cons,nr];rfl
theorem repE_put {g: Hp} {x: Str} (hx: okc x=true) {d: DV} {v: Value} (hv: Rep g d v) (hsh: Int) (t: Tok): ∀{ns: List Nat} {ds: List DV} {es: List DictEntry},RepE g ns ds es->RepE g (fput ns ds (enc x) d).1 (fput ns ds (enc x) d).2 (putL x hsh (.str x t) v es)
 |_,_,_,.nil=>by simp only[fput,putL];exact .cons hx hv .nil
 |_,_,_,.cons (x := y) (t := t') (hs := hs) (v := w) (es := es) ok h1 r=>by
  unfold fput putL
  cases e: Nat.beq (enc y) (enc x)with
  |true=>
   have: y=x := enc_inj ok hx (Nat.eq_of_beq_eq_true e)
   subst this
   have hi: (Value.str y t').isStr y=true := by show(y==y)=true;simp
   simp only[hi,if_true]
   exact .cons ok hv r
  |false=>
   have hne: (Value.str y t').isStr x=false := by
    show(y==x)=false
    rw[beq_eq_false_iff_ne];intro q;rw[q,beq_self]at e;cases e
   simp only[hne,Bool.false_eq_true,if_false]
   exact .cons ok h1 (repE_put hx hv hsh t r)
theorem repE_length {g: Hp}: ∀{ns: List Nat} {ds: List DV} {es: List DictEntry},RepE g ns ds es->es.length=ns.length
 |_,_,_,.nil=>rfl
 |_,_,_,.cons _ _ r=>by rw[List.length_cons,List.length_cons,repE_length r]
theorem putL_length (x: Str) (h: Int) (k v: Value): ∀ es: List DictEntry,(putL x h k v es).length<=es.length+1
 |[]=>by simp[putL]
 |e::r=>by
  unfold putL
  split
  ·simp
  ·have := putL_length x h k v r
   simp only[List.length_cons];omega
structure TbOk (W: Wd) (T: Tb): Prop where
 gl: GlOk W T.gl
 rd: ∀ C x,okc x=true->T.rd C (enc x)=true->plainGet W.K C x=true/\hasDictIn W.K C=true/\∃ a,findIn W.K (.ref C) x=some a/\noGet W.K a=true
 st: ∀ C x,okc x=true->T.st C (enc x)=true->findIn W.K (.ref C) "__setattr__"=some (some (.builtin "object.__setattr__"))/\plainOver W.K C=true/\takerIn W.K C x=some none/\hasDictIn W.K C=true
 me: ∀ C x f,okc x=true->T.me C (enc x)=some f->plainGet W.K C x=true/\findIn W.K (.ref C) x=some (some (.ref f))/\isFn W.K (.ref f)=true/\keepIn W.K (.ref f)=true
 ini: ∀ C f,T.ini C=some f->makesIn W.K C=true/\findIn W.K (.ref C) "__init__"=some (some (.ref f))/\isFn W.K (.ref f)=true/\keepIn W.K (.ref C)=true
 kf: ∀ f,T.kf f=true->keepIn W.K (.ref f)=true
section
variable {W: Wd} {too: Addr} {T: Tb} {n: Nat} {cx: Cx} {X: DV->St->Prop} {σ: St} {g g': Hp} {s: Shared} {E: Value->Shared->Prop}
theorem rep_handed {d: DV} {v: Value} (r: Rep g d v): handedIn v=true := by
 cases r with
 |bi b=>cases b<;>first|rfl|decide +kernel
 |_=>rfl
theorem getA_inst (G: Good W cx g σ s) {o d: DV} {v: Value} {x: Str} {C: Addr} (hx: okc x=true) (r: Rep g o v) (h: getA σ.mu o (enc x)=some (C,d)) :
  ∃ a ox es k w,v=.ref a/\InstAt s.heap a ox C (some (dictOf es k))/\getL x es=some (some w)/\Rep g d w := by
 cases r with
 |inst h1 h2 r=>
  simp only[getA,Option.map_eq_some_iff]at h
  obtain⟨d',h,e⟩ := h
  cases e
  obtain⟨w,q1,q2⟩ := repE_fld hx r h
  exact⟨_,_,_,_,w,rfl,⟨G.sim.frz _ _ h1,rfl,rfl,G.sim.frz _ _ h2⟩,q1,q2⟩
 |ref a=>
  simp only[getA]at h
  split at h
  ·rename_i C' dx hm
   split at h
   ·rename_i ns vs hd
    simp only[Option.map_eq_some_iff]at h
    obtain⟨d',h,e⟩ := h
    cases e
    obtain⟨_,_,o1,ho1,hr1⟩ := G.sim.muts _ _ hm
    obtain⟨_,_,o2,ho2,hr2⟩ := G.sim.muts _ _ hd
    cases hr1
    cases hr2 with
    |attrs r=>
     obtain⟨w,q1,q2⟩ := repE_fld hx r h
     exact⟨_,_,_,_,w,rfl,⟨ho1,rfl,rfl,ho2⟩,q1,q2⟩
   ·cases h
  ·cases h
 |_=>simp[getA]at h
theorem attr_rule (WO: W.Ok) (TO: TbOk W T) (G: Good W cx g σ s) {o d: DV} {v: Value} {x: Str} {C: Addr} {Q: DV->St->Prop} (hx: okc x=true) (r: Rep g o v) (h: getA σ.mu o (enc x)=some (C,d)) (ht: T.rd C (enc x)=true) (q: Q d σ) :
  wpAny W.M cx.A (getAttr v x true) (PostE W cx g Q) E s := by
 obtain⟨a,ox,es,k,w,rfl,I,h1,h2⟩ := getA_inst G hx r h
 obtain⟨t1,t2,t,t3,t4⟩ := TO.rd C x hx ht
 obtain⟨mm,F,N⟩ := G.fr
 exact get_own F WO.kin I t1 t2 t3 t4 h1 (rep_handed h2) ((G.toks _).post h2 q)
theorem setat_rule (WO: W.Ok) (TO: TbOk W T) (G: Good W cx g σ s) {o d: DV} {v w: Value} {x: Str} {K: St->Prop} (hx: okc x=true) (r: Rep g o v) (r': Rep g d w) (h: setAt T o (enc x) d K σ) :
  wpAny W.M cx.A (setAttr v x w) (PostG W cx g fun _=>K) E s := by
 unfold setAt at h
 split at h
 case h_2=>exact h.elim
 rename_i a
 cases r
 split at h
 case h_2=>exact h.elim
 rename_i C dx hm
 split at h
 case h_2=>exact h.elim
 rename_i ns vs hd
 split at h
 case h_2=>exact h.elim
 rename_i ht
 split at h
 case h_2=>exact h.elim
 rename_i hl
 obtain⟨_,_,o1,ho1,hr1⟩ := G.sim.muts _ _ hm
 obtain⟨_,_,o2,ho2,hr2⟩ := G.sim.muts _ _ hd
 cases hr1
 rename_i sl
 cases hr2 with
 |attrs r=>
  rename_i es k
  obtain⟨t1,t2,t3,t4⟩ := TO.st C x hx ht
  obtain⟨mm,F,N⟩ := G.fr
  have I: InstAt s.heap a ⟨.ref C,some dx,.plain,sl⟩ C (some (dictOf es k)) := ⟨ho1,rfl,rfl,ho2⟩
  have hL: (getL x es).isSome=true := by
   cases e: fld ns vs (enc x)with
   |some d'=>obtain⟨_,q,_⟩ := repE_fld hx r e;rw[q];rfl
   |none=>rw[repE_none hx r e];rfl
  have hin := G.inLedger hd ho2
  refine set_dict F WO.kin N I rfl t1 t2 t3 t4 hL rfl (upd_put hin (ledger_nodup _ _ _)) ?_ fun h' F' N'=>?_
  ·have := putL_length x (PyData.keyHash W.w.params x) (.str x (s.toks+1)) w es
   rw[repE_length r]at this
   rw[Nat.ble_eq]at hl
   omega
  ·have G' := G.newsU F (t := s.toks+2) hd ho2 F' N' (.attrs (repE_put hx r' _ _ r))
   exact⟨g,_,Ext.rfl,G',h⟩
end
end
section
section
variable {W: Wd} {too: Addr} {T: Tb} {n: Nat} {cx: Cx} {X: DV->St->Prop} {σ: St} {g g': Hp} {s: Shared} {E: Value->Shared->Prop}
theorem bigI_fit {k: Int} (h: bigI k): -2 ^ 63<=k/\k<2 ^ 63 := by unfold bigI at h;omega
theorem nth_at {l: List DV} {vs: List Value} {k: Int} {d: DV} (r: RepL g l vs) (h: nth l k=some d): ∃ v,0<=k/\vs[k.toNat]?=some v/\Rep g d v := by
 cases k with
 |ofNat k=>
  simp only[nth]at h
  obtain⟨v,a,b⟩ := r.get h
  exact⟨v,Int.natCast_nonneg _,a,b⟩
 |negSucc k=>simp[nth]at h
theorem sub_rule (G: Good W cx g σ s) {value slice: PySem.Expr} {o i: DV} {v w: Value} {Q: DV->St->Prop} (r: Rep g o v) (r': Rep g i w) (h: subW σ.mu o i fun d=>Q d σ)
  (hs: ∃ ops,subscripted slice false v w=operate ops (getItem v w)): wpAny W.M cx.A (subscriptTail value slice v w) (PostE W cx g Q) E s := by
 obtain⟨ops,hs⟩ := hs
 unfold subW at h
 split at h
 case h_2=>exact h.elim
 rename_i k
 obtain⟨tk,rfl⟩: ∃ tk,w=.int k tk := by cases r';exact⟨_,rfl⟩
 obtain⟨hb,h⟩ := h
 obtain⟨hlo,hhi⟩ := bigI_fit hb
 split at h
 ·rename_i b
  obtain⟨tb,rfl⟩: ∃ tb,v=.bytes b tb := by cases r;exact⟨_,rfl⟩
  obtain⟨hz,h⟩ := h
  split at h
  case h_2=>exact h.elim
  rename_i d hd
  cases k with
  |negSucc k=>simp[nthB]at hd
  |ofNat k=>
   simp only[nthB,Option.map_eq_some_iff]at hd
   obtain⟨x,hx,rfl⟩ := hd
   refine tail_any (typeIs_bytes _ _ _) FB.slot_bytes_getitem.lookup ?_ hs
   have hk: k<b.toList.length := (List.getElem?_eq_some_iff.mp hx).1
   have hz': b.toList.length<=1099511627776 := by unfold small at hz;rw[Array.length_toList];omega
   have := getItem_bytes (prog := W.prog) (w := W.w) (A := cx.A) (E := E) (s := s) (t := tb) (u := tk) (l := b.toList) (i := Int.ofNat k) (Q := PostE W cx g Q) hz' (Int.natCast_nonneg _) (by simpa using hk) (by
    have e: b.toList.getD (Int.ofNat k).toNat 0=x := by simp only[Int.ofNat_eq_natCast,Int.toNat_natCast];rw[List.getD_eq_getElem?_getD,hx];rfl
    rw[e]
    exact(G.toks _).post (.int _ _) h)
   simpa using this
 ·split at h
  case h_2=>exact h.elim
  rename_i l hl
  split at h
  case h_2=>exact h.elim
  rename_i d hd
  obtain⟨a,ob,nn,vs,rfl,ho,hc,hdd,rl⟩ := seq_at G r hl
  obtain⟨x,h0,hx,rx⟩ := nth_at rl hd
  rcases hc with hc|hc
  ·have hL: s.heap.IsList a vs.toArray := ⟨ob,ho,hc,nn,hdd⟩
   exact tail_any hL.typeIs list_getitem_lookup (wpAny_getItem_list hL h0 hhi (by simpa using hx) (G.post rx h)) hs
  ·have hT: IsTup s.heap a vs.toArray := ⟨ob,ho,hc,nn,hdd⟩
   have hk: k.toNat<vs.length := (List.getElem?_eq_some_iff.mp hx).1
   refine tail_any hT.typeIs F.slot_tuple_getitem.lookup (getItem_tuple hT (by omega) hhi (j := k.toNat) ?_ (by simpa using hx) (G.post rx h)) hs
   unfold seqIndex?
   have: ¬ k<0 := by omega
   have h2: k<(vs.length: Int) := by omega
   simp[this,h0,h2]
theorem part_of {d: DV} {v: Value} {m k: Nat} (r: Rep g d v) (h: bnd m d=some k): ∃ lo,IsPart v lo/\(m=0->∀ n,kms_lo lo n=min k n)/\kms_hi lo m=min k m := by
 cases d with
 |none=>cases r;simp only[bnd,Option.some.injEq]at h;subst h;exact⟨_,.none,fun e n=>by subst e;simp[kms_lo],by simp[kms_hi]⟩
 |int i=>
  cases i with
  |ofNat j=>
   simp only[bnd,Option.some.injEq]at h
   subst h
   cases r
   refine⟨_,.int _ _,fun _ n=>?_,?_⟩
   ·simp only[kms_lo];rw[if_neg (by simp)];simp
   ·simp only[kms_hi];rw[if_neg (by simp)];simp
  |negSucc j=>simp[bnd]at h
 |_=>simp[bnd]at h
theorem subscripted_other {slice: PySem.Expr} (h: ∀ a b p,slice≠.Slice a b none p) (v w: Value): ∃ ops,subscripted slice false v w=operate ops (getItem v w) := by
 refine⟨[v,w],?_⟩
 unfold subscripted
 split
 ·exact absurd rfl (h _ _ _)
 ·contradiction
 ·rfl
theorem slc_rule (G: Good W cx g σ s) {value: PySem.Expr} {lw up: Option PySem.Expr} {p: Pos} {o l u: DV} {v w x: Value} {Q: DV->St->Prop} (r: Rep g o v) (rl: Rep g l w) (ru: Rep g u x) (h: wpSlc o l u Q σ) :
  wpAny W.M cx.A (subscriptTail value (.Slice lw up none p) v (.ref s.heap.objs.size)) (PostE W cx g Q) E {s with heap := s.heap.push {cls := .type "slice",data := .fields #[w,x,.none]}} := by
 unfold wpSlc at h
 split at h
 case h_2=>exact h.elim
 rename_i xs hxs
 split at h
 case h_2=>exact h.elim
 rename_i i j hi hj
 obtain⟨hz,h⟩ := h
 obtain⟨e,G'⟩ := G.newF {cls := .type "slice",data := .fields #[w,x,.none]} rfl
 obtain⟨a,nn,vs,rfl,ho,rv⟩ := list_at G' (r.mono e) hxs
 obtain⟨lo,pl,l1,_⟩ := part_of rl hi
 obtain⟨hi',pu,_,u2⟩ := part_of ru hj
 have hL := PySem.IsL.isList (n := nn) ho
 have hlen := rv.length
 refine tail_any (ops := [.ref s.heap.objs.size,.ref a]) hL.typeIs list_getitem_lookup ?_ rfl
 refine wpAny_getItem_list_slice hL (Heap.IsSliceOf.new ..) pl pu .none (by simp) ?_ (by have := small_line hz;simp;omega)
 rw[kms_pick_eq]
 have ev: kms_pick vs lo hi'=(vs.take j).drop i := by
  unfold kms_pick
  rw[l1 rfl,<-hlen,u2,List.drop_take,hlen]
  by_cases q: i<=vs.length
  ·rw[Nat.min_eq_left q]
   by_cases q2: j<=vs.length
   ·rw[Nat.min_eq_left q2]
   ·rw[Nat.min_eq_right (by omega: vs.length<=j),List.take_of_length_le (by simp),List.take_of_length_le (by simp;omega)]
  ·rw[Nat.min_eq_right (by omega: vs.length<=i),List.drop_of_length_le (by omega: vs.length<=i),List.drop_of_length_le (Nat.le_refl _)];simp
 rw[show kms_pick vs.toArray.toList lo hi'=(vs.take j).drop i from ev]
 exact⟨_,_,_,e,G'.newM (mo := .lst ((xs.take j).drop i)) (listOf ((vs.take j).drop i).toArray 0) rfl (.lst ((rv.take j).drop i)),.ref _,h _ (G'.sim.mnone (fresh_none _))⟩
end
end
section
section
variable {W: Wd} {too: Addr} {T: Tb} {n: Nat} {cx: Cx} {X: DV->St->Prop} {σ: St} {g g': Hp} {s: Shared} {E: Value->Shared->Prop}
theorem list_mu (G: Good W cx g σ s) {a: Addr} {l: List DV} (h: σ.mu a=some (.lst l)): ∃ c vs,s.heap.get? a=some (listOf vs.toArray c)/\RepL g l vs := by
 obtain⟨_,_,ob,h3,h4⟩ := G.sim.muts _ _ h
 cases h4 with
 |lst r=>exact⟨_,_,h3,r⟩
theorem upd_list (G: Good W cx g σ s) {a: Addr} {l l': List DV} {c: Nat} {vs vs': List Value} {f: Array Value->Array Value} {t: Nat} (h: σ.mu a=some (.lst l)) (ho: s.heap.get? a=some (listOf vs.toArray c)) (e: f vs.toArray=vs'.toArray) (r: RepL g l' vs') :
  Good W cx g ⟨σ.loc,σ.mu.set a (.lst l')⟩ {s with heap := s.heap.update a (Obj.mapSeq f),toks := t} := by
 have q := PySem.IsL.update (n := c) ho f
 rw[e]at q
 exact G.updM h (Heap.SameBut.update ..) q (.lst r)
theorem stored_keys {kvs: List (Int×Value)} {k: Int} {v: Value}: (stored kvs k v).map (·.1)=if(kvs.map (·.1)).contains k then kvs.map (·.1)else kvs.map (·.1)++[k] := by
 have e: (kvs.any fun kv=>decide (kv.fst=k))=(kvs.map (·.1)).contains k := by
  induction kvs with
  |nil=>rfl
  |cons x r ih=>
   rw[List.any_cons,List.map_cons,List.contains_cons,ih]
   congr 1
   by_cases q: x.1=k
   ·simp[q]
   ·have: ¬ k=x.1 := fun h=>q h.symm
    simp[q,this]
 unfold stored
 rw[e]
 split
 ·rw[List.map_map];congr 1;funext kv;simp only[Function.comp];split<;>rfl
 ·simp
theorem storedH_keys {kvs: List (List Int×Addr×Value)} {k: List Int} {a: Addr} {v: Value}: (storedH kvs k a v).map (·.1)=if(kvs.map (·.1)).contains k then kvs.map (·.1)else kvs.map (·.1)++[k] := by
 unfold storedH
 rw[atKey_isSome]
 split
 ·rw[List.map_map];congr 1;funext kv;simp only[Function.comp,putAt];split<;>rfl
 ·simp
theorem setsub_rule (hu: cx.A.units+64<cLine) (G: Good W cx g σ s) {o i d: DV} {v w x: Value} {K: St->Prop} (r: Rep g o v) (ri: Rep g i w) (rd: Rep g d x) (h: setSub o i d K σ) :
  wpAny W.M cx.A (setItem v w x) (PostG W cx g fun _=>K) E s := by
 unfold setSub at h
 split at h
 case h_2=>exact h.elim
 rename_i a
 obtain rfl: v=.ref a := by cases r;rfl
 split at h
 ·rename_i l hl
  split at h
  case h_2=>exact h.elim
  rename_i k
  obtain⟨tk,rfl⟩: ∃ tk,w=.int (.ofNat k) tk := by cases ri;exact⟨_,rfl⟩
  obtain⟨hk,hz,h⟩ := h
  obtain⟨c,vs,ho,rv⟩ := list_mu G hl
  have hlen := rv.length
  unfold small at hz
  refine ki_setAt ho (Int.natCast_nonneg _) (by simp only[Int.ofNat_eq_natCast];omega) (by simp;omega) ?_
  have G' := upd_list (t := s.toks) G hl ho (vs' := vs.set k x) (f := (·.setIfInBounds (Int.ofNat k).toNat x)) (by simp) (rv.set k rd)
  exact G'.postG h
 ·rename_i mo hml hm
  split at h
  case h_2=>exact h.elim
  rename_i mo' hp
  split at h
  case h_2=>exact h.elim
  obtain rfl: x=.bool true := by cases rd;rfl
  obtain⟨hz,h⟩ := h
  obtain⟨_,_,ob,ho,hr⟩ := G.sim.muts _ _ hm
  have intsK: ∀{j: Int} {kvs: List (Int×Value)},Rep g (.int j) w->ob.IsDictOf (intKind W.prog W.w) kvs->kvs.length<=2 ^ 20->mo'=.dI (if(kvs.map (·.1)).contains j then kvs.map (·.1)else kvs.map (·.1)++[j])->
    wpAny W.M cx.A (setItem (.ref a) w (.bool true)) (PostG W cx g fun _=>K) E s := by
   intro j kvs rj hd hz' e
   obtain⟨tk,rfl⟩: ∃ tk,w=.int j tk := by cases rj;exact⟨_,rfl⟩
   have hkey: (intKind W.prog W.w).is j (.int j tk)=true := by simp[intKind,Value.isInt]
   refine wpAny_setItem_pairs hkey (dictOf_mapOf ho hd) (fun h' hd' hs'=>?_) (small_line hz')
   obtain⟨o',es,ep,ho',rest⟩ := hd'
   have G' := G.updM (t := s.toks+1) hm hs' ho' (.dI (kvs := stored kvs j (.bool true)) ⟨es,ep,rest⟩)
   rw[stored_keys,<-e]at G'
   exact G'.postG h
  have pairsK: ∀{i₁ j: Int} {xs: List (List Int×Addr×Value)},Rep g (.tup [.int i₁,.int j]) w->s.heap.DictOfH (tupleKind (intKind W.prog W.w)) a xs->xs.length<=2 ^ 20->
    (∀ x∈xs,∃ o n vs,g x.2.1=some o/\o.cls=.type "tuple"/\o.data=.seq vs n/\ItemsAre (intKind W.prog W.w) x.1 vs.toList)->
    mo'=.dT (if(xs.map (·.1)).contains [i₁,j]then xs.map (·.1)else xs.map (·.1)++[[i₁,j]])->
    wpAny W.M cx.A (setItem (.ref a) w (.bool true)) (PostG W cx g fun _=>K) E s := by
   intro i₁ j xs rj hd hz' hi e
   obtain⟨b,o,nn,vs,rfl,hb,hc,hdd,hit⟩ := pairKey G rj
   have hkey: (tupleKind (intKind W.prog W.w)).is s.heap [i₁,j] b := ⟨o,vs,nn,G.sim.frz _ _ hb,hc,hdd,hit⟩
   have hroom: (tupleKind (intKind W.prog W.w)).room cx.A.in1 := by show cx.A.units+1<cLine;omega
   refine wpAny_setItem_heap hroom hkey hd (fun h' hd' hs'=>?_) (small_line hz')
   obtain⟨o',es,ep,ho',hx,hda,he,_,nd⟩ := hd'
   have hi': ∀ x∈storedH xs [i₁,j] b (.bool true),∃ o n vs,g x.2.1=some o/\o.cls=.type "tuple"/\o.data=.seq vs n/\ItemsAre (intKind W.prog W.w) x.1 vs.toList := by
    intro x hx
    unfold storedH at hx
    split at hx
    ·obtain⟨y,hy,rfl⟩ := List.mem_map.mp hx
     have := hi y hy
     unfold putAt
     split<;>exact this
    ·rcases List.mem_append.mp hx with hx|hx
     ·exact hi x hx
     ·rw[List.mem_singleton]at hx;subst hx;exact⟨o,nn,vs,hb,hc,hdd,hit⟩
   have G' := G.updM (t := s.toks+(tupleKind (intKind W.prog W.w)).draws [i₁,j]) hm hs' ho' (.dT hx hda he hi' nd)
   rw[storedH_keys,<-e]at G'
   exact G'.postG h
  cases hr with
  |dE=>
   simp only[dctPut]at hp
   split at hp
   ·simp only[Option.some.injEq]at hp;exact intsK ri empty_dictOf (Nat.zero_le _) hp.symm
   ·simp only[Option.some.injEq]at hp;exact pairsK (xs := []) ri ⟨_,#[],_,ho,⟨rfl,rfl,rfl⟩,rfl,rfl,(fun _ hx=>nomatch hx),List.nodup_nil⟩ (Nat.zero_le _) (fun _ hx=>nomatch hx) hp.symm
   ·cases hp
  |dI hd=>
   simp only[dctPut]at hp
   split at hp
   ·simp only[Option.some.injEq]at hp;exact intsK ri hd (by simpa [small,dctLen]using hz) hp.symm
   ·cases hp
  |dT hx hd he hi nd=>
   simp only[dctPut]at hp
   split at hp
   ·simp only[Option.some.injEq]at hp
    exact pairsK ri ⟨_,_,_,ho,hx,hd,he,(fun x hx=>by obtain⟨o,n,vs,a1,a2,a3,a4⟩ := hi x hx;exact⟨o,vs,n,G.sim.frz _ _ a1,a2,a3,a4⟩),nd⟩ (by simpa [small,dctLen]using hz) hi hp.symm
   ·cases hp
  |_=>simp[dctPut]at hp
 ·exact h.elim
theorem append_rule (G: Good W cx g σ s) {a: Addr} {l: List DV} {d: DV} {v: Value} {Q: DV->St->Prop} (hl: σ.mu a=some (.lst l)) (r: Rep g d v) (hz: small l.length) (h: Q .none ⟨σ.loc,σ.mu.set a (.lst (l++[d]))⟩) :
  wpAny W.M cx.A (call (.builtin "list.append") [.ref a,v]) (PostE W cx g Q) E s := by
 obtain⟨c,vs,ho,rv⟩ := list_mu G hl
 refine append_at ho (fun h' hs ho'=>?_) (by have := rv.length;simp;exact this▸small_line hz)
 have G' := G.updM (t := s.toks) (mo' := .lst (l++[d])) hl hs ho' (by
  have := MRep.lst (prog := W.prog) (w := W.w) (n := c+1) (rv.append (.cons r .nil))
  rw[<-List.push_toArray]at this
  exact this)
 exact G'.post .none h
theorem pop_rule (G: Good W cx g σ s) {a: Addr} {l: List DV} {d: DV} {Q: DV->St->Prop} (hl: σ.mu a=some (.lst l)) (hd: l.getLast?=some d) (hz: small l.length) (h: Q d ⟨σ.loc,σ.mu.set a (.lst l.dropLast)⟩) :
  wpAny W.M cx.A (call (.builtin "list.pop") [.ref a]) (PostE W cx g Q) E s := by
 obtain⟨c,vs,ho,rv⟩ := list_mu G hl
 have hlen := rv.length
 rw[List.getLast?_eq_getElem?]at hd
 obtain⟨y,hy,ry⟩ := rv.get hd
 rw[hlen]at hy
 refine call_meets PySem.F.slot_list_pop ⟨_,ho,rfl⟩ PySem.F.entry_list_pop (PySem.F.args_list_pop_1 _) (PySem.MeetsSeq.list_pop_last a vs.toArray c y (by simpa using hy) (by simp;exact hlen▸small_line hz)) ⟨ho,?_⟩
 have G' := upd_list (t := s.toks) G hl ho (vs' := vs.take (vs.length-1)) (f := fun xs=>xs.eraseIdxIfInBounds (vs.toArray.size-1)) (by
  have hp: vs.length-1<vs.length := (List.getElem?_eq_some_iff.mp hy).1
  apply Array.toList_inj.mp
  simp only[Array.eraseIdxIfInBounds]
  split
  ·rw[Array.toList_eraseIdx]
   simp only[List.size_toArray,List.eraseIdx_eq_take_drop_succ]
   rw[List.drop_of_length_le (by omega),List.append_nil]
  ·rename_i q;simp at q;omega) (l' := l.dropLast) (by rw[List.dropLast_eq_take,hlen];exact rv.take _)
 exact⟨g,_,_,Ext.rfl,G',ry,h⟩
theorem pop0_rule (G: Good W cx g σ s) {a: Addr} {l: List DV} {d: DV} {tk: Tok} {Q: DV->St->Prop} (hl: σ.mu a=some (.lst (d::l))) (hz: small l.length) (h: Q d ⟨σ.loc,σ.mu.set a (.lst l)⟩) :
  wpAny W.M cx.A (call (.builtin "list.pop") [.ref a,.int 0 tk]) (PostE W cx g Q) E s := by
 obtain⟨c,vs,ho,rv⟩ := list_mu G hl
 cases rv with
 |cons ry rv=>
 rename_i y vs
 have hlen := rv.length
 refine call_meets PySem.F.slot_list_pop ⟨_,ho,rfl⟩ PySem.F.entry_list_pop (PySem.F.args_list_pop_2 _ _) (PySem.MeetsSeq.list_pop_at a (y::vs).toArray c 0 tk 0 y (by decide) (by simp[seqIndex?]) (by simp) (by unfold small at hz;rw[sizeLine_eq];simp;omega)) ⟨ho,?_⟩
 have G' := upd_list (t := s.toks) G hl ho (vs' := vs) (f := fun xs=>xs.eraseIdxIfInBounds 0) (by
  apply Array.toList_inj.mp
  simp[Array.eraseIdxIfInBounds,Array.toList_eraseIdx]) (l' := l) rv
 exact⟨g,_,_,Ext.rfl,G',ry,h⟩
theorem extend_rule (G: Good W cx g σ s) {a: Addr} {l r: List DV} {d: DV} {v: Value} {Q: DV->St->Prop} (hl: σ.mu a=some (.lst l)) (rd: Rep g d v) (hd: asL σ.mu d=some r) (hz: small (l.length+r.length)) (h: Q .none ⟨σ.loc,σ.mu.set a (.lst (l++r))⟩): wpAny W.M cx.A (call (.builtin "list.extend") [.ref a,v]) (PostE W cx g Q) E s := by
 obtain⟨c,vs,ho,rv⟩ := list_mu G hl
 obtain⟨b,c',ws,rfl,hb,rw'⟩ := list_at G rd hd
 have h1 := rv.length
 have h2 := rw'.length
 have hz' := small_line hz
 rw[h1,h2]at hz'
 refine call_meets PySem.F.slot_list_extend ⟨_,ho,rfl⟩ PySem.F.entry_list_extend (PySem.F.args_list_extend_2 _ _) (PySem.AutoSeq1.list_extend_list_list_0 a vs.toArray c b ws.toArray c' ?_ (by simp;omega) (by simp;omega)) ⟨ho,hb,?_⟩
 ·have: Builtin.List.listTooLong (vs.toArray.size+ws.toArray.size)=false := by
   unfold small at hz
   rw[h1,h2]at hz
   unfold Builtin.List.listTooLong
   simp
   omega
  rw[this];simp
 ·have G' := upd_list (t := s.toks) G hl ho (vs' := vs++ws) (f := fun x=>x++ws.toArray) (by simp) (rv.append rw')
  exact G'.post .none h
theorem get_rule (WO: W.Ok) (G: Good W cx g σ s) {a: Addr} {kv: List (Nat×DV)} {x: Nat} {d: DV} {u v: Value} {Q: DV->St->Prop} (hm: σ.mu a=some (.dS kv)) (rx: Rep g (.str x) u) (rd: Rep g d v) (h: Q ((lookS kv x).getD d) σ) :
  wpAny W.M cx.A (call (.builtin "dict.get") [.ref a,u,v]) (PostE W cx g Q) E s := by
 obtain⟨_,_,ob,ho,hr⟩ := G.sim.muts _ _ hm
 cases hr with
 |dS hd hf=>
  rename_i kvs
  obtain⟨y,tk,rfl,hy,rfl⟩: ∃ y tk,u=.str y tk/\okc y=true/\enc y=x := by cases rx;exact⟨_,_,rfl,‹_›,rfl⟩
  have hmap := (dictOf_mapOf ho hd).mapOf
  refine call_meetsIn F.slot_dict_get hmap.typeIs F.entry_dict_get (F.args_dict_get_3 _ _ _) (meets_dict_get_default (PySem.strKind W.prog W.w) (k := y) a (by simp[PySem.strKind,Value.isStrOf]) (low_sys WO G hm) v) ⟨_,hmap,?_⟩
  refine⟨g,σ,_,Ext.rfl,G.toks _,?_,h⟩
  clear h hd ho hmap hm
  induction hf with
  |nil=>exact rd
  |cons h r ih=>
   obtain⟨h1,h2,h3⟩ := h
   rename_i k e _ _
   unfold lookS valueAt
   rw[List.find?_cons]
   by_cases q: e.1=y
   ·subst q
    rw[<-h2,beq_self]
    simp only[decide_true,if_true,Option.map_some,Option.getD_some]
    exact h3
   ·have: Nat.beq k.1 (enc y)=false := beq_false fun z=>q (enc_inj h1 hy (h2.trans z))
    simp only[this,decide_eq_false q,Bool.false_eq_true,if_false]
    exact ih
end
end
section
section
variable {W: Wd} {too: Addr} {T: Tb} {n: Nat} {cx: Cx} {X: DV->St->Prop} {σ: St} {g g': Hp} {s: Shared} {E: Value->Shared->Prop}
theorem ints_of: ∀{l: List DV} {vs: List Value} {is: List Int},RepL g l vs->allInts l=some is->IntsAre vs is
 |_,_,_,.nil,h=>by simp[allInts]at h;subst h;exact .nil
 |_,_,_,.cons (d := d) h1 r,h=>by
  cases h1 with
  |int i t=>
   simp only[allInts]at h
   split at h
   ·rename_i l hl;simp only[Option.some.injEq]at h;subst h;exact .cons i t (ints_of r hl)
   ·cases h
  |_=>simp[allInts]at h
theorem rep_ints: ∀{vs: List Value} {is: List Int},IntsAre vs is->RepL g (is.map .int) vs
 |_,_,.nil=>.nil
 |_,_,.cons i t r=>.cons (.int i t) (rep_ints r)
theorem ints_len: ∀{l: List DV} {is: List Int},allInts l=some is->is.length=l.length
 |[],_,h=>by simp[allInts]at h;subst h;rfl
 |.int i::r,_,h=>by
  simp only[allInts]at h
  split at h
  ·rename_i l hl;simp only[Option.some.injEq]at h;subst h;simp[ints_len hl]
  ·cases h
 |.none::_,_,h=>by simp[allInts]at h
 |.bool _::_,_,h=>by simp[allInts]at h
 |.str _::_,_,h=>by simp[allInts]at h
 |.bytes _::_,_,h=>by simp[allInts]at h
 |.rng _ _ _::_,_,h=>by simp[allInts]at h
 |.tup _::_,_,h=>by simp[allInts]at h
 |.lst _::_,_,h=>by simp[allInts]at h
 |.inst _ _ _::_,_,h=>by simp[allInts]at h
 |.ref _::_,_,h=>by simp[allInts]at h
 |.fn _::_,_,h=>by simp[allInts]at h
 |.cls _::_,_,h=>by simp[allInts]at h
 |.bi _::_,_,h=>by simp[allInts]at h
theorem min_rule (hh: cx.A.handled=none) (G: Good W cx g σ s) {t: Addr} {a b: Int} {ta tb: Tok} {Q: DV->St->Prop} (hT: s.heap.IsTuple t #[.int a ta,.int b tb]) (h: Q (.int (if b<a then b else a)) σ) :
  wpAny W.M cx.A (call (.builtin "min") [.ref t]) (PostE W cx g Q) E s := by
 have hlt: t<s.heap.objs.size := by obtain⟨_,e,_⟩ := hT;exact Heap.lt_size e
 have hi: (#[.int a ta,.int b tb]: Array Value)=intItems #[(a,ta),(b,tb)] := by simp[intItems]
 rw[hi]at hT
 refine call_min_walk (wpAny_pyIter_tuple hT ?_)
 refine⟨_,[_,t],[_],_,_,_,_,rfl,Walks.tuple (A := cx.A.in1) hh _ t (Nat.ne_of_lt hlt) (intItems #[(a,ta),(b,tb)]),⟨⟨_,Heap.get?_push_size _ rfl,rfl,rfl⟩,hT.push _⟩,fun c hc=>?_,by simp[intItems],
  CmpOf.ints_lt (numAt #[(a,ta),(b,tb)]) (fun _ _=>intItems_at),fun v h' tk hP hk=>?_⟩
 ·show c<(s.heap.push _).objs.size
  rw[Heap.size_push]
  simp only[List.mem_cons,List.not_mem_nil,or_false]at hc
  rcases hc with rfl|rfl
  ·exact Nat.lt_succ_self _
  ·exact Nat.lt_succ_of_lt hlt
 ·have hold: ∀ c o,s.heap.get? c=some o->h'.get? c=some o := fun c o e=>hk c o (fun hm=>by
   simp only[List.mem_cons,List.not_mem_nil,or_false]at hm
   have h9 := Heap.lt_size e
   subst hm
   exact Nat.lt_irrefl _ h9) (Heap.get?_push_of_some _ e)
  refine⟨g,σ,.int (if b<a then b else a),Ext.rfl,G.grow (t := tk) hold,?_,h⟩
  have hP': (intItems #[(a,ta),(b,tb)])[argBest (fun i j=>decide (numAt #[(a,ta),(b,tb)] i<numAt #[(a,ta),(b,tb)] j)) 1]?=some v := by
   have hz: (intItems #[(a,ta),(b,tb)]).size-1=1 := by simp[intItems]
   rw[<-hz];exact hP
  by_cases q: b<a
  ·have e: argBest (fun i j=>decide (numAt #[(a,ta),(b,tb)] i<numAt #[(a,ta),(b,tb)] j)) 1=1 := by simp[argBest,numAt,q]
   rw[e]at hP'
   have: v=.int b tb := by simpa [intItems]using hP'.symm
   rw[this,if_pos q];exact .int _ _
  ·have e: argBest (fun i j=>decide (numAt #[(a,ta),(b,tb)] i<numAt #[(a,ta),(b,tb)] j)) 1=0 := by simp[argBest,numAt,q]
   rw[e]at hP'
   have: v=.int a ta := by simpa [intItems]using hP'.symm
   rw[this,if_neg q];exact .int _ _
theorem small_63 {k: Nat} (h: small k): (k: Int)<2 ^ 63 := by unfold small at h;omega
theorem range_new (G: Good W cx g σ s) {a b c: Int} {t u v: Tok} {tk: Nat} {Q: DV->St->Prop} (h: Q (.rng a b c) σ) :
  PostE W cx g Q (.ref s.heap.objs.size) {s with heap := s.heap.push {cls := .type "range",data := .fields #[.int a t,.int b u,.int c v]},toks := tk} := by
 obtain⟨e,G'⟩ := G.newF {cls := .type "range",data := .fields #[.int a t,.int b u,.int c v]} rfl
 exact⟨_,_,_,e,G'.toks tk,.rng (gadd_self _ _ _),h⟩
theorem bi_rule (hh: cx.A.handled=none) (G: Good W cx g σ s) {b: Bi} {ds: List DV} {vs: List Value} {Q: DV->St->Prop} (r: RepL g ds vs) (h: wpBi b ds Q σ) :
  wpAny W.M cx.A (call b.val vs) (PostE W cx g Q) E s := by
 unfold wpBi at h
 split at h
 ·rename_i d
  cases r with
  |cons rd r=>
  cases r
  split at h
  case h_2=>exact h.elim
  rename_i k hk
  obtain⟨hz,h⟩ := h
  unfold lenV at hk
  split at hk
  ·cases rd
   simp only[Option.some.injEq]at hk
   subst hk
   exact len_bytes (by unfold small at hz;omega) ((G.toks _).post (.int _ _) h)
  ·simp only[Option.map_eq_some_iff]at hk
   obtain⟨l,hl,rfl⟩ := hk
   obtain⟨a,o,nn,ws,rfl,ho,hc,hd,rl⟩ := seq_at G rd hl
   have hlen := rl.length
   rcases hc with hc|hc
   ·refine Calls.call_len_list ⟨o,ho,hc,nn,hd⟩ (by have := small_63 hz;simp;omega) ((G.toks _).post (d := .int (Int.ofNat l.length)) ?_ h)
    rw[hlen,<-List.size_toArray];exact .int _ _
   ·refine len_tuple ⟨o,ho,hc,nn,hd⟩ (by have := small_63 hz;simp;omega) ((G.toks _).post (d := .int (Int.ofNat l.length)) ?_ h)
    rw[hlen,<-List.size_toArray];exact .int _ _
 ·cases r with
  |cons rd r=>
  cases r;cases rd
  exact call_range_1 (range_new G h.2)
 ·obtain⟨hb1,hb2,hc,h⟩ := h
  cases r with
  |cons r1 r=>
  cases r with
  |cons r2 r=>
  cases r with
  |cons r3 r=>
  cases r;cases r1;cases r2;cases r3
  refine call_range_3 (by rcases hc with rfl|rfl<;>decide) (range_new G h) (.inl (PyProof.noPylong_small (by rcases hc with rfl|rfl<;>decide)))
 ·cases r with
  |cons rd r=>
  cases r
  split at h
  case h_2=>exact h.elim
  rename_i l hl
  obtain⟨hz,h⟩ := h
  obtain⟨a,ws,rfl,hL,rl⟩ := isList_at G rd hl
  refine call_tuple_list hL (fun h' hk=>?_) (by simp;rw[<-rl.length];exact small_line hz)
  have G₁ := G.grow (h' := h') (t := s.toks) hk
  obtain⟨e,G'⟩ := G₁.newF {cls := .type "tuple",data := .seq ws.toArray} rfl
  exact⟨_,_,_,e,G',.tup (gadd_self _ _ _) rfl rfl (rl.mono e),h⟩
 ·cases r with
  |cons rd r=>
  cases r
  split at h
  case h_2=>exact h.elim
  rename_i l hl
  split at h
  case h_2=>exact h.elim
  rename_i is hi
  obtain⟨hz,h⟩ := h
  obtain⟨a,ws,rfl,hL,rl⟩ := isList_at G rd hl
  obtain⟨mm,F,N⟩ := G.fr
  have hI := ints_of rl hi
  refine sorted_N F N hL hI (by rw[hI.length];exact hz) fun h' vs' ns' e F' N' a1 a2 a3=>?_
  have hn: σ.mu (s.heap.objs.size+1)=none := G.sim.mnone (none_of_le (Nat.le_succ _))
  have hs1: s.heap.get? (s.heap.objs.size+1)=none := none_of_le (Nat.le_succ _)
  have hk := fr_keeps F' G.sim.ext N' fun p hp=>.tail _ hp
  have G': Good W cx g ⟨σ.loc,σ.mu.set (s.heap.objs.size+1) (.lst (ns'.map .int))⟩ {s with heap := h'} := by
   refine G.stepL Ext.rfl (fun _ _ h=>.inl h) (fun b o hb h _=>hk b o hb h) (fun m₂ h=>by rw[<-Ns_unique F.ns h];exact F'.ns) (fun b o' h=>?_) rfl rfl
   by_cases q: b=s.heap.objs.size+1
   ·subst q;rw[Mt.set_self]at h;cases h
    exact⟨G.sim.gnone hs1,.inl (Nat.le_succ _),_,(N' _ (.head _)).1,.lst (rep_ints a1)⟩
   ·rw[Mt.set_ne _ _ q]at h
    obtain⟨h1,_,ob,h3,h4⟩ := G.sim.muts b o' h
    exact⟨h1,.inr (by rw[h];simp),ob,hk _ _ (fun e=>by subst e;rw[G.frm.apart.2.2]at h;cases h) h3,h4⟩
  exact G'.post (.ref _) (h ns' a2 a3 _ hn)
 ·cases r with
  |cons rd r=>
  cases r
  cases rd with
  |tup ht hc hd r=>
   cases r with
   |cons r1 r=>
    cases r with
    |cons r2 r=>
     cases r;cases r1;cases r2
     exact min_rule hh G ⟨_,G.sim.frz _ _ ht,hc,_,hd⟩ h
 ·cases r with
  |cons rd r=>
  cases r;cases rd
  exact call_int_int (G.post (.int _ _) h)
 ·cases r with
  |cons rd r=>
  cases r
  split at h
  case h_2=>exact h.elim
  rename_i l hl
  split at h
  case h_2=>exact h.elim
  rename_i is hi
  obtain⟨hz,hr,h⟩ := h
  obtain⟨a,ws,rfl,hL,rl⟩ := isList_at G rd hl
  have hI := ints_of rl hi
  exact call_bytes_ints hL hI hr (by rw[hI.length];exact small_line hz) hh fun h' t k hk=>(G.grow (t := k) hk).post (.bytes _ _) h
 ·exact h.elim
end
end
section
structure CxOk (n: Nat) (cx: Cx): Prop where
 env: EnvOk cx.env
 room: Room n cx.A
 kinds: KindsOk cx.env cx.kd
 frames: ∃ l,cx.A.frames=some l/\∀ env∈l,env.scope.kind≠.module/\∃ L,env.frame=some L/\(L=cx.env.locals\/∃ o,cx.kp L=some o/\isD o=true)
section
variable {W: Wd} {too: Addr} {T: Tb} {n: Nat} {cx: Cx} {X: DV->St->Prop} {σ: St} {g g': Hp} {s s': Shared} {E: Value->Shared->Prop}
theorem Room.u {A: Around} (h: Room n A): A.units+64<cLine := by have := h.2.2;omega
theorem Room.h {A: Around} (h: Room n A): A.handled=none := h.1
theorem kpF_locals (cx: Cx) (s: Shared): kpF cx s cx.env.locals=s.heap.get? cx.env.locals := by unfold kpF;rw[if_pos (.inl rfl)]
theorem kpF_cell {c: Addr} {x: Str} (h: (x,c)∈cx.env.cells) (s: Shared): kpF cx s c=s.heap.get? c := by unfold kpF;rw[if_pos (.inr (List.mem_map.mpr ⟨_,h,rfl⟩))]
theorem kpF_old {b: Addr} {o: Obj} (G: Good W cx g σ s) (h: cx.kp b=some o): ∃ o',kpF cx s b=some o'/\Kpt o (some o') := by
 unfold kpF
 split
 ·rcases(G.sim.kept b o h).2 with q|⟨hd,sl,q⟩
  ·exact⟨o,q,.inl rfl⟩
  ·exact⟨_,q,.inr ⟨hd,sl,rfl⟩⟩
 ·exact⟨o,h,.inl rfl⟩
theorem Good.frames (C: CxOk n cx) (G: Good W cx g σ s): Frames cx.A (kpF cx s) := by
 obtain⟨l,hl,h⟩ := C.frames
 refine⟨l,hl,fun env he=>?_⟩
 obtain⟨h1,L,h2,h3⟩ := h env he
 refine⟨h1,L,?_⟩
 rcases h3 with rfl|⟨o,ho,hd⟩
 ·obtain⟨mm,⟨oL,es,ep,hLo,hdd,_⟩,_⟩ := G.frm.ns
  exact⟨oL,h2,(kpF_locals cx s).trans hLo,by unfold isD;rw[hdd]⟩
 ·obtain⟨o',ho',k⟩ := kpF_old G ho
  refine⟨o',h2,ho',?_⟩
  rcases k with q|⟨_,sl,q⟩
  ·cases q;exact hd
  ·cases q;exact hd
theorem Kpt.trans {o: Obj} {x: Option Obj} {o': Obj} (h: Kpt o (some o')) (k: Kpt o' x): Kpt o x := by
 rcases h with q|⟨hd,sl,q⟩
 ·cases q;exact k
 ·cases q
  rcases k with q|⟨_,sl',q⟩
  ·exact .inr ⟨hd,sl,q⟩
  ·exact .inr ⟨hd,sl',q⟩
theorem Good.simF (G: Good W cx g σ s): Sim W g (kpF cx s) σ.mu s where
 base := G.sim.base
 frz := G.sim.frz
 gens := G.sim.gens
 os := G.sim.os
 mabove := G.sim.mabove
 kept b o h := by
  unfold kpF at h
  split at h
  ·rename_i q
   refine⟨?_,.inl h⟩
   rcases q with rfl|q
   ·exact G.frm.apart.1
   ·obtain⟨⟨x,c⟩,hc,rfl⟩ := List.mem_map.mp q
    exact(G.frm.capart x c hc).1
  ·exact G.sim.kept b o h
 muts b o h := by
  obtain⟨h1,h2,h3⟩ := G.sim.muts b o h
  refine⟨h1,?_,h3⟩
  unfold kpF
  split
  ·rename_i q
   rcases q with rfl|q
   ·rw[G.frm.apart.2.2]at h;cases h
   ·obtain⟨⟨x,c⟩,hc,rfl⟩ := List.mem_map.mp q
    rw[(G.frm.capart x c hc).2.1]at h;cases h
  ·exact h2
theorem Kpt.ns {o: Obj} {x: Option Obj} (k: Kpt o x): ∃ o',x=some o'/\o'.data=o.data/\o'.cls=o.cls/\o'.dict=o.dict := by
 rcases k with q|⟨_,sl,q⟩
 ·exact⟨_,q,rfl,rfl,rfl⟩
 ·exact⟨_,q,rfl,rfl,rfl⟩
theorem Good.back {m': Mt} (G: Good W cx g σ s) (e: Ext g g') (S: Sim W g' (kpF cx s) m' s'): Good W cx g' ⟨σ.loc,m'⟩ s' where
 ext := G.ext.trans e
 above := G.above
 sim := {
  base := S.base
  frz := S.frz
  mabove := S.mabove
  gens := S.gens
  os := S.os
  kept := fun b o h=>by
   obtain⟨o',h1,h2⟩ := kpF_old G h
   obtain⟨k1,k2⟩ := S.kept b o' h1
   exact⟨k1,h2.trans k2⟩
  muts := fun b o h=>by
   obtain⟨h1,h2,h3⟩ := S.muts b o h
   refine⟨h1,?_,h3⟩
   cases q: cx.kp b with
   |none=>rfl
   |some o'=>
    obtain⟨o'',k1,_⟩ := kpF_old G q
    rw[k1]at h2
    cases h2}
 frm := by
  obtain⟨⟨mm,⟨oL,es,ep,hLo,hdd,hr⟩,hv⟩,hc,⟨a1,a2,a3⟩,ca⟩ := G.frm
  have hL := S.kept cx.env.locals oL ((kpF_locals cx s).trans hLo)
  obtain⟨oL',hL',hd',_⟩ := hL.2.ns
  have cellK: ∀ x c,(x,c)∈cx.env.cells->∀ v,s.heap.IsCell c v->g' c=none/\m' c=none/\s'.heap.IsCell c v := by
   intro x c hxc v ⟨o,ho,hd⟩
   have hk := S.kept c o ((kpF_cell hxc s).trans ho)
   obtain⟨o',ho',hd',_⟩ := hk.2.ns
   exact⟨hk.1,S.kmu ((kpF_cell hxc s).trans ho),o',ho',hd'.trans hd⟩
  refine⟨⟨mm,⟨oL',es,ep,hL',hd'.trans hdd,hr⟩,fun x d ok hl hkd=>?_⟩,fun x d ok hl hkd=>?_,⟨hL.1,a2,S.kmu ((kpF_locals cx s).trans hLo)⟩,fun x c hxc=>?_⟩
  ·obtain⟨v,h1,h2⟩ := hv x d ok hl hkd
   exact⟨v,h1,h2.mono e⟩
  ·obtain⟨c,v,h1,h2,h3⟩ := hc x d ok hl hkd
   exact⟨c,v,h1,(cellK x c (mem_of_lookup h1) _ h2).2.2,h3.mono e⟩
  ·obtain⟨c1,c2,c3,v,h4⟩ := ca x c hxc
   obtain⟨k1,k2,k3⟩ := cellK x c hxc _ h4
   exact⟨k1,k2,c3,v,k3⟩
theorem kpF_none {b: Addr} (G: Good W cx g σ s) (h: kpF cx s b=none): kpF cx s' b=none := by
 unfold kpF at h ⊢
 split at h
 ·rename_i q
  exfalso
  rcases q with rfl|q
  ·obtain⟨⟨mm,⟨oL,es,ep,hLo,_⟩,_⟩,_⟩ := G.frm
   rw[hLo]at h;cases h
  ·obtain⟨⟨x,c⟩,hc,rfl⟩ := List.mem_map.mp q
   obtain⟨_,_,_,v,o,ho,_⟩ := G.frm.capart x c hc
   rw[ho]at h;cases h
 ·rename_i q;rw[if_neg q];exact h
theorem Exc.off' {kp kp': Hp} {m: Mt} {ea: Addr} {d: DV} (h: Exc g kp m too ea d s) (k: ∀ b,kp b=none->kp' b=none): Exc g kp' m too ea d s := by
 obtain⟨⟨a1,a2,a3⟩,dx,vs,sl,es,nn,o1,o2,o3,⟨o4,o5,o6⟩,o7,o8,o9⟩ := h
 refine⟨⟨a1,k _ a2,a3⟩,dx,vs,sl,es,nn,o1,o2,o3,⟨o4,k _ o5,o6⟩,o7,o8,?_⟩
 rcases o9 with q|⟨T,oT,ts,q1,⟨q2,q3,q4⟩,q5⟩
 ·exact .inl q
 ·exact .inr ⟨T,oT,ts,q1,⟨q2,k _ q3,q4⟩,q5⟩
theorem ret_back (G: Good W cx g σ s) {Q X: DV->St->Prop}: ∀(r: Result),RetPost W too g (kpF cx s) (fun d m=>Q d ⟨σ.loc,m⟩) (fun d m=>X d ⟨σ.loc,m⟩) r s'->
  (match r with|.ok (.ret v)=>PostE W cx g Q v s'|.ok _=>False|.error e=>EX W too cx X e s')
 |.ok (.ret v),⟨g',m',d,e,S,r,q⟩=>⟨g',_,d,e,G.back e S,r,q⟩
 |.ok .next,h=>h
 |.ok .brk,h=>h
 |.ok .cont,h=>h
 |.error _,⟨ea,g',m',d,h1,e,S,x,q⟩=>⟨ea,g',_,d,h1,G.back e S,x.off' fun _ hb=>kpF_none G hb,q⟩
theorem call_fn (C: CxOk n cx) (G: Good W cx g σ s) {f: Addr} {ds: List DV} {vs: List Value} {Q: DV->St->Prop} (r: RepL g ds vs) (h: CallOk W too n f ds σ.mu (fun d m=>Q d ⟨σ.loc,m⟩) (fun d m=>X d ⟨σ.loc,m⟩)) :
  wpAny W.M cx.A (call (.ref f) vs []) (PostE W cx g Q) (EX W too cx X) s :=
 wpAny_call (codeAny_mono (h cx.A g (kpF cx s) s vs C.room (G.frames C) G.size G.simF r) fun r _ hr=>ret_back G r hr)
end
end
section
section
variable {W: Wd} {too: Addr} {T: Tb} {n: Nat} {cx: Cx} {X: DV->St->Prop} {σ: St} {g g': Hp} {s s': Shared} {E: Value->Shared->Prop}
theorem Room.make {A: Around} {C: Addr} {vs: List Value} (h: Room (n+1) A): Room n (A.under (.builtin "type.__call__" ⟨.ref C::vs,[]⟩)) := by
 obtain⟨h1,h2,h3⟩ := h
 refine⟨h1,?_,?_⟩
 ·show A.depth+1+2 * n+4<=recursionLimit;omega
 ·show A.units+1+8 * n+80<=cLine;omega
theorem call_cl (WO: W.Ok) (TO: TbOk W T) (C: CxOk (n+1) cx) (G: Good W cx g σ s) {c f: Addr} {ds: List DV} {vs: List Value} {Q: DV->St->Prop} (r: RepL g ds vs) (hf: T.ini c=some f)
  (h: ∀ x dx,σ.mu x=none->σ.mu dx=none->x≠dx->CallOk W too n f (.ref x::ds) ((σ.mu.set dx (.attrs [] [])).set x (.inst c dx)) (fun d m=>d=.none/\Q (.ref x) ⟨σ.loc,m⟩) (fun _ _=>False)) :
  wpAny W.M cx.A (call (.ref c) vs []) (PostE W cx g Q) (EX W too cx X) s := by
 obtain⟨t1,t2,t3,_⟩ := TO.ini c f hf
 have hK: W.K.In s.heap := WO.kin.keeps G.sim.ext
 refine wpAny_call ?_
 have G₁ := G.newM (mo := .attrs [] []) (dictOf [] 0) rfl (.attrs .nil)
 have G₂ := G₁.newM (mo := .inst c s.heap.objs.size) ⟨.ref c,some s.heap.objs.size,.plain,#[]⟩ rfl .inst
 have hx: (s.heap.push (dictOf [] 0)).objs.size=s.heap.objs.size+1 := Heap.size_push ..
 simp only[hx]at G₂
 have hn: ∀ b,s.heap.objs.size<=b->σ.mu b=none := fun b hb=>G.sim.mnone (none_of_le hb)
 have hc := h (s.heap.objs.size+1) s.heap.objs.size (hn _ (Nat.le_succ _)) (hn _ (Nat.le_refl _)) (Nat.succ_ne_self _)
 refine make_core (h := s.heap) (g := s.gens) (d := s.drawn) (t := s.toks) (os := s.os) (makes_of hK t1) (looks_findIn hK t2) (fun self=>bind_fn hK self (beq_iff_eq.mp t3)) (.inl rfl) ?_
 have r': RepL g (.ref (s.heap.objs.size+1)::ds) (.ref (s.heap.objs.size+1)::vs) := .cons (.ref _) r
 refine codeAny_mono (hc _ g (kpF cx _) _ _ C.room.make ?_ G₂.size G₂.simF r') ?_
 ·exact G₂.frames C
 ·intro r s' hr
  match r,hr with
  |.ok (.ret v),⟨g',m',d,e,S,rd,hd,q⟩=>
   subst hd
   obtain rfl: v=.none := by cases rd;rfl
   exact⟨rfl,g',_,_,e,G₂.back e S,.ref _,q⟩
  |.ok .next,h=>exact h.elim
  |.ok .brk,h=>exact h.elim
  |.ok .cont,h=>exact h.elim
  |.error _,⟨ea,g',m',d,h1,e,S,x,q⟩=>exact q.elim
theorem args_plain {M: Model} {A: Around} {f: Value} {trees: List (Bool×Sem Value)} {Q: Args->Shared->Prop} (hp: trees.any (·.1)=false) (h: wpAny M A (spliced trees) (fun vs s'=>Q ⟨vs,[]⟩ s') E s) :
  wpAny M A (evalArgs f true trees []) Q E s := by
 cases trees with
 |nil=>
  unfold evalArgs
  show wpAny M A (spliced [] >>= _) Q E s
  refine wpAny_bind (wpAny_mono h (fun vs s' h'=>?_) fun _ _ x=>x)
  refine wpAny_bind (wpAny_pure (wpAny_holding ?_))
  exact wpAny_bind (wpAny_pure (wpAny_bind (wpAny_pure (wpAny_pure h'))))
 |cons p rest=>
  obtain⟨b,x⟩ := p
  obtain rfl: b=false := by simp only[List.any_cons,Bool.or_eq_false_iff]at hp;exact hp.1
  exact Calls.evalArgs_plain h
theorem noStar_any {env: Env} {pos: Pos}: ∀{es: List PySem.Expr},noStar es=true->(backTo pos (starEach es env)).any (·.1)=false
 |[],_=>rfl
 |e::r,h=>by
  have hr: noStar r=true := by unfold noStar at h;split at h<;>first|(cases ‹_=_›;done)|assumption|simp_all
  have ih := noStar_any (env := env) (pos := pos) hr
  cases e<;>first|(simp[noStar]at h;done)|(show(false||(backTo pos (starEach r env)).any (·.1))=false;rw[ih];rfl)
theorem noStar_cons {env: Env} {pos: Pos} {e: PySem.Expr} {r: List PySem.Expr} (h: noStar (e::r)=true): backTo pos (starEach (e::r) env)=(false,eval e env)::backTo pos (starEach r env)/\noStar r=true := by
 cases e<;>first|(simp[noStar]at h;done)|exact⟨rfl,by simpa [noStar]using h⟩
theorem ev_splice_nil {pos: Pos} {Q: List DV->St->Prop} (h: Q [] σ): EvL W too cx (spliced (backTo pos (starEach [] cx.env))) Q X σ := fun g s G=>by
 show wpAny _ _ (spliced []) _ _ s
 exact wpAny_pure ⟨g,σ,[],Ext.rfl,G,.nil,h⟩
theorem ev_splice_cons {pos: Pos} {e: PySem.Expr} {r: List PySem.Expr} {Q: List DV->St->Prop} (hs: noStar (e::r)=true)
  (h: EvE W too cx (eval e cx.env) (fun d σ=>EvL W too cx (spliced (backTo pos (starEach r cx.env))) (fun ds σ=>Q (d::ds) σ) X σ) X σ): EvL W too cx (spliced (backTo pos (starEach (e::r) cx.env))) Q X σ := fun g s G=>by
 rw[(noStar_cons hs).1]
 unfold spliced
 refine thenE endsL G h fun g' σ' s' d v e G' rd hd=>?_
 refine wpAny_bind (wpAny_pure ?_)
 refine wpAny_bind (wpAny_holding (wpAny_mono (hd g' s' G') (fun vs s'' ⟨g'',σ'',ds,e2,G'',rs,q⟩=>?_) fun _ _ x=>x))
 exact wpAny_pure ⟨g'',σ'',_,e2,G'',.cons (rd.mono e2) rs,q⟩
def Keeper? (W: Wd) (f: Value): Prop := ∀ h,W.K.In h->∃ k,(k=Keeper.frame\/k=Keeper.machine\/k=Keeper.boundFrame)/\Looks W.M h (keeperOf f) k
theorem keeper_bi (b: Bi): Keeper? W b.val := fun h _=>⟨.machine,.inr (.inl rfl),by cases b<;>exact Looks.of_pure rfl⟩
theorem keeper_builtin (id: String): Keeper? W (.builtin id) := fun h _=>⟨.machine,.inr (.inl rfl),Looks.of_pure rfl⟩
theorem keeper_K {f: Value} (h: keepIn W.K f=true): Keeper? W f := fun hh X=>keeps_K h hh X
theorem cw_rule (WO: W.Ok) (G: Good W cx g σ s) {es: List PySem.Expr} (hs: noStar es=true) {pos: Pos} {f: Value} {first: List Value} {Qs: List DV->St->Prop} {Q: DV->St->Prop}
  (h: EvL W too cx (spliced (backTo pos (starEach es cx.env))) Qs X σ)
  (k: ∀ g' σ' s' ds vs,Ext g g'->Good W cx g' σ' s'->RepL g' ds vs->Qs ds σ'->Keeper? W f/\wpAny W.M cx.A (call f (first++vs) []) (PostE W cx g' Q) (EX W too cx X) s') :
  wpAny W.M cx.A (callWith pos f first (backTo pos (starEach es cx.env)) (backToKw pos (keywordEach [] cx.env))) (PostE W cx g Q) (EX W too cx X) s := by
 refine callWith_of (P := fun h=>W.K.In h/\Keeper? W f) (by rw[noStar_any hs];rfl) (fun h p=>p.2 h p.1) ?_
 refine args_plain (noStar_any hs) (wpAny_mono (h g s G) (fun vs s' ⟨g',σ',ds,e,G',rs,q⟩=>?_) fun _ _ x=>x)
 obtain⟨k1,k2⟩ := k g' σ' s' ds vs e G' rs q
 exact⟨⟨WO.kin.keeps G'.sim.ext,k1⟩,wpAny_mono k2 (fun _ _ p=>p.from e) fun _ _ x=>x⟩
theorem call_rule (WO: W.Ok) (TO: TbOk W T) (C: CxOk n cx) (G: Good W cx g σ s) {fd: DV} {f: Value} (rf: Rep g fd f) {ds: List DV} {vs: List Value} (r: RepL g ds vs) {Q: DV->St->Prop} (h: wpCall W too T n fd ds Q X σ) :
  wpAny W.M cx.A (call f vs []) (PostE W cx g Q) (EX W too cx X) s := by
 unfold wpCall at h
 split at h
 ·obtain rfl: f=.ref _ := by cases rf;rfl
  split at h
  ·exact call_fn C G r h
  ·exact h.elim
 ·obtain rfl: f=.ref _ := by cases rf;rfl
  split at h
  ·rename_i hf;exact call_cl WO TO C G r hf h
  ·exact h.elim
 ·obtain rfl: f=Bi.val _ := by cases rf;rfl
  exact bi_rule C.room.h G r h
 ·exact h.elim
theorem call_keeper (TO: TbOk W T) {fd: DV} {f: Value} (rf: Rep g fd f) {ds: List DV} {Q: DV->St->Prop} (h: wpCall W too T n fd ds Q X σ): Keeper? W f := by
 unfold wpCall at h
 split at h
 ·obtain rfl: f=.ref _ := by cases rf;rfl
  split at h
  ·rename_i hk;exact keeper_K (TO.kf _ hk)
  ·exact h.elim
 ·obtain rfl: f=.ref _ := by cases rf;rfl
  split at h
  ·rename_i hf;exact keeper_K (TO.ini _ _ hf).2.2.2
  ·exact h.elim
 ·obtain rfl: f=Bi.val _ := by cases rf;rfl
  exact keeper_bi _
 ·exact h.elim
theorem ev_call (WO: W.Ok) (TO: TbOk W T) (C: CxOk n cx) {f: PySem.Expr} (hf: ∀ o m p,f≠.Attribute o m p) {es: List PySem.Expr} (hs: noStar es=true) {pos: Pos} {Q: DV->St->Prop}
  (h: EvE W too cx (eval f cx.env) (fun fv σ=>EvL W too cx (spliced (backTo pos (starEach es cx.env))) (fun ds σ=>wpCall W too T n fv ds Q X σ) X σ) X σ): EvE W too cx (eval (.Call f es [] pos) cx.env) Q X σ := fun g s G=>by
 have he: eval (.Call f es [] pos) cx.env=(do callWith pos (<-eval f cx.env) [] (backTo pos (starEach es cx.env)) (backToKw pos (keywordEach [] cx.env))) := by
  cases f<;>first|rfl|exact absurd rfl (hf _ _ _)
 rw[he]
 refine thenE endsE G h fun g' σ' s' d v e G' rd hd=>?_
 refine cw_rule WO G' hs hd fun g'' σ'' s'' ds vs e2 G'' rs q=>?_
 exact⟨call_keeper TO (rd.mono e2) q,call_rule WO TO C G'' (rd.mono e2) rs q⟩
def CalIs (W: Wd) (o: Value) (c: Cal) (f: Value) (first: List Value): Prop := first=[o]/\match c with
 |.fn a=>f=.ref a/\keepIn W.K (.ref a)=true
 |.append=>f=.builtin "list.append"
 |.pop=>f=.builtin "list.pop"
 |.extend=>f=.builtin "list.extend"
 |.get=>f=.builtin "dict.get"
theorem enc_append: enc "append"=3638987513726 := by rfl
theorem enc_pop: enc "pop"=1894994 := by rfl
theorem enc_extend: enc "extend"=3638987581326 := by rfl
theorem enc_get: enc "get"=1960259 := by rfl
theorem meth_rule (WO: W.Ok) (TO: TbOk W T) (G: Good W cx g σ s) {o: DV} {v: Value} {x: Str} {c: Cal} {pl: Sem Bool} (hx: okc x=true) (r: Rep g o v) (h: calOf T σ.mu o (enc x)=some c) {Q: Value×List Value->Shared->Prop}
  (k: ∀ f first,CalIs W v c f first->Q (f,first) s): wpAny W.M cx.A (getMethod v x pl) Q E s := by
 unfold calOf at h
 split at h
 case h_2=>cases h
 rename_i a
 obtain rfl: v=.ref a := by cases r;rfl
 split at h
 ·rename_i C dx hm
  split at h
  case h_2=>cases h
  rename_i ns vs hd
  split at h
  case h_2=>cases h
  rename_i hfl
  split at h
  case h_2=>cases h
  rename_i f hf
  cases h
  obtain⟨t1,t2,t3,t4⟩ := TO.me C x f hx hf
  obtain⟨_,_,o1,ho1,hr1⟩ := G.sim.muts _ _ hm
  obtain⟨_,_,o2,ho2,hr2⟩ := G.sim.muts _ _ hd
  cases hr1
  cases hr2 with
  |attrs r=>
   obtain⟨mm,F,N⟩ := G.fr
   exact method_inst F WO.kin ⟨ho1,rfl,rfl,ho2⟩ t1 t2 t3 (repE_none hx r hfl) (k _ _ ⟨rfl,rfl,t4⟩)
 ·rename_i l hl
  obtain⟨c',vs,ho,_⟩ := list_mu G hl
  have lm: ∀{name: Str} {id: String},x=name->Slot "list" name id->typeOf (.builtin id)=pure (.type "method_descriptor")->Q (.builtin id,[.ref a]) s->wpAny W.M cx.A (getMethod (.ref a) x pl) Q E s := by
   intro name id e slot ty hq
   subst e
   exact getMethod_builtin ⟨_,ho,rfl⟩ PySem.F.plainAttrs_list slot ty (fun b e=>by cases e;exact⟨_,ho,rfl⟩) hq
  split at h
  ·rename_i q
   cases h
   have: x="append" := enc_inj hx (by decide) ((Nat.eq_of_beq_eq_true q).trans enc_append.symm)
   exact lm this PySem.F.slot_list_append PySem.F.type_list_append (k _ _ ⟨rfl,rfl⟩)
  ·split at h
   ·rename_i q
    cases h
    have: x="pop" := enc_inj hx (by decide) ((Nat.eq_of_beq_eq_true q).trans enc_pop.symm)
    exact lm this PySem.F.slot_list_pop PySem.F.type_list_pop (k _ _ ⟨rfl,rfl⟩)
   ·split at h
    ·rename_i q
     cases h
     have: x="extend" := enc_inj hx (by decide) ((Nat.eq_of_beq_eq_true q).trans enc_extend.symm)
     exact lm this PySem.F.slot_list_extend PySem.F.type_list_extend (k _ _ ⟨rfl,rfl⟩)
    ·cases h
 ·rename_i kv hl
  split at h
  ·rename_i q
   cases h
   have: x="get" := enc_inj hx (by decide) ((Nat.eq_of_beq_eq_true q).trans enc_get.symm)
   subst this
   obtain⟨_,_,ob,ho,hr⟩ := G.sim.muts _ _ hl
   cases hr with
   |dS hd hf=>
    obtain⟨es,ep,⟨h1,h2,h3⟩,_⟩ := hd
    exact getMethod_builtin ⟨_,ho,h1⟩ PySem.F.plainAttrs_dict PySem.F.slot_dict_get PySem.F.type_dict_get (fun b e=>by cases e;exact⟨_,ho,h2⟩) (k _ _ ⟨rfl,rfl⟩)
  ·cases h
 ·cases h
theorem cal_rule (WO: W.Ok) (C: CxOk n cx) (G: Good W cx g σ s) {c: Cal} {o: DV} {v f: Value} {first: List Value} (hc: CalIs W v c f first) (r: Rep g o v) {ds: List DV} {vs: List Value} (rs: RepL g ds vs) {Q: DV->St->Prop} (h: wpCal W too n c o ds Q X σ) :
  Keeper? W f/\wpAny W.M cx.A (call f (first++vs) []) (PostE W cx g Q) (EX W too cx X) s := by
 obtain⟨rfl,hc⟩ := hc
 unfold wpCal at h
 split at h
 ·obtain⟨rfl,hk⟩ := hc
  exact⟨keeper_K hk,call_fn C G (.cons r rs) h⟩
 ·obtain rfl := hc
  refine⟨keeper_builtin _,?_⟩
  split at h
  case h_2=>exact h.elim
  split at h
  case h_2=>exact h.elim
  rename_i l hl
  obtain rfl: v=.ref _ := by cases r;rfl
  cases rs with
  |cons rd rs=>cases rs;exact append_rule G hl rd h.1 h.2
 ·obtain rfl := hc
  refine⟨keeper_builtin _,?_⟩
  split at h
  ·split at h
   case h_2=>exact h.elim
   rename_i l hl
   split at h
   case h_2=>exact h.elim
   rename_i d hd
   obtain rfl: v=.ref _ := by cases r;rfl
   cases rs
   exact pop_rule G hl hd h.1 h.2
  ·split at h
   case h_2=>exact h.elim
   rename_i d l hl
   obtain rfl: v=.ref _ := by cases r;rfl
   cases rs with
   |cons rd rs=>cases rs;cases rd;exact pop0_rule G hl h.1 h.2
  ·exact h.elim
 ·obtain rfl := hc
  refine⟨keeper_builtin _,?_⟩
  split at h
  case h_2=>exact h.elim
  split at h
  case h_2=>exact h.elim
  rename_i l hl
  split at h
  case h_2=>exact h.elim
  rename_i r' hr'
  obtain rfl: v=.ref _ := by cases r;rfl
  cases rs with
  |cons rd rs=>cases rs;exact extend_rule G hl rd hr' h.1 h.2
 ·obtain rfl := hc
  refine⟨keeper_builtin _,?_⟩
  split at h
  case h_2=>exact h.elim
  split at h
  case h_2=>exact h.elim
  rename_i kv hl
  obtain rfl: v=.ref _ := by cases r;rfl
  cases rs with
  |cons r1 rs=>
   cases rs with
   |cons r2 rs=>cases rs;exact get_rule WO G hl r1 r2 h
theorem base_eq {o: PySem.Expr} {env: Env} {x: Str} (h: attrBase o=true) (w: Sem Value): attributeBase o x env w=w := by
 unfold attributeBase
 split
 ·simp[attrBase]at h
 ·rfl
theorem ev_meth (WO: W.Ok) (TO: TbOk W T) (C: CxOk n cx) {o: PySem.Expr} {x: Str} {ap pos: Pos} {es: List PySem.Expr} (hx: okc x=true) (hs: noStar es=true) (hb: attrBase o=true) (hp: (ap.endLine==pos.line)=true) (hn: Nat.ble es.length 20=true) {Q: DV->St->Prop}
  (h: EvE W too cx (eval o cx.env) (fun ov σ=>match calOf T σ.mu ov (enc x)with|some c=>EvL W too cx (spliced (backTo pos (starEach es cx.env))) (fun ds σ=>wpCal W too n c ov ds Q X σ) X σ|none=>False) X σ) :
  EvE W too cx (eval (.Call (.Attribute o x ap) es [] pos) cx.env) Q X σ := fun g s G=>by
 have he: eval (.Call (.Attribute o x ap) es [] pos) cx.env=(do
  let ov <-attributeBase o x cx.env (eval o cx.env)
  standAt ap.atName
  methodCall o x ap pos cx.env ov (es.length+0) (backTo pos (starEach es cx.env)) (backToKw pos (keywordEach [] cx.env))) := rfl
 rw[he,base_eq hb]
 refine thenE endsE G h fun g' σ' s' d v e G' rd hd=>?_
 refine wpAny_bind (wpAny_standAt ?_)
 split at hd
 case h_2=>exact hd.elim
 rename_i c hc
 have few: methodCallForm (es.length+0) (backTo pos (starEach es cx.env)) (backToKw pos (keywordEach [] cx.env))=true := by
  unfold methodCallForm
  rw[Nat.ble_eq]at hn
  have h1: (backTo pos (starEach es cx.env)).all (!·.1)=true := by
   have := noStar_any (env := cx.env) (pos := pos) hs
   rw[List.all_eq_not_any_not]
   simpa using this
  have h2: decide (es.length+0+(if(backToKw pos (keywordEach [] cx.env)).isEmpty=true then 0 else 1)<30)=true := by
   have: (backToKw pos (keywordEach [] cx.env)).isEmpty=true := rfl
   rw[if_pos this]
   exact decide_eq_true (by omega)
  rw[h1,h2];rfl
 unfold methodCall
 rw[few]
 unfold calleeOf methodCallPos
 simp only[if_true,hp,Bool.not_true,Bool.false_or]
 refine wpAny_bind (wpAny_holding (meth_rule WO TO G' hx rd hc fun f first hci=>?_))
 refine wpAny_bind (wpAny_pure ?_)
 refine cw_rule WO G' hs hd fun g'' σ'' s'' ds vs e2 G'' rs q=>?_
 exact cal_rule WO C G'' hci (rd.mono e2) rs q
end
end
section
section
variable {W: Wd} {too: Addr} {T: Tb} {n: Nat} {cx: Cx} {X: DV->St->Prop} {σ: St} {g g': Hp} {s s': Shared} {E: Value->Shared->Prop}
theorem EvE.mono {t: Sem Value} {Q Q': DV->St->Prop} (h: EvE W too cx t Q X σ) (k: ∀ d σ,Q d σ->Q' d σ): EvE W too cx t Q' X σ := fun g s G=>
 wpAny_mono (h g s G) (fun _ _ ⟨g',σ',d,a,b,c,q⟩=>⟨g',σ',d,a,b,c,k d σ' q⟩) fun _ _ x=>x
theorem EvL.mono {t: Sem (List Value)} {Q Q': List DV->St->Prop} (h: EvL W too cx t Q X σ) (k: ∀ d σ,Q d σ->Q' d σ): EvL W too cx t Q' X σ := fun g s G=>
 wpAny_mono (h g s G) (fun _ _ ⟨g',σ',d,a,b,c,q⟩=>⟨g',σ',d,a,b,c,k d σ' q⟩) fun _ _ x=>x
theorem EvG.mono {α: Type} {t: Sem α} {Q Q': α->St->Prop} (h: EvG W too cx t Q X σ) (k: ∀ d σ,Q d σ->Q' d σ): EvG W too cx t Q' X σ := fun g s G=>
 wpAny_mono (h g s G) (fun a _ ⟨g',σ',e,b,q⟩=>⟨g',σ',e,b,k a σ' q⟩) fun _ _ x=>x
theorem EvE.noX {t: Sem Value} {Q: DV->St->Prop} (h: EvE W too cx t Q no σ): EvE W too cx t Q X σ := fun g s G=>wpAny_mono (h g s G) (fun _ _ q=>q) fun _ _ ⟨_,_,_,_,_,_,_,x⟩=>x.elim
theorem EvG.noX {α: Type} {t: Sem α} {Q: α->St->Prop} (h: EvG W too cx t Q no σ): EvG W too cx t Q X σ := fun g s G=>wpAny_mono (h g s G) (fun _ _ q=>q) fun _ _ ⟨_,_,_,_,_,_,_,x⟩=>x.elim
theorem ev_tup {es: List PySem.Expr} {k: Nat} {pos: Pos} {Q: DV->St->Prop} (h: EvL W too cx (spliced (backTo pos (starEach es cx.env))) (fun ds σ=>match Nat.ble ds.length 1000 with|true=>Q (.tup ds) σ|false=>False) X σ) :
  EvE W too cx (eval (.Tuple es k pos) cx.env) Q X σ := fun g s G=>by
 have he: eval (.Tuple es k pos) cx.env=(do standAt pos;newTuple (<-spliced (backTo pos (starEach es cx.env)))) := rfl
 rw[he]
 refine wpAny_bind (wpAny_standAt (thenL endsE G h fun g' σ' s' ds vs e G' rs hd=>?_))
 split at hd
 ·rename_i hl;rw[Nat.ble_eq]at hl
  exact newTuple_ G' rs (by rw[<-rs.length];exact small_line (by unfold small;omega)) hd
 ·exact hd.elim
theorem ev_lst {es: List PySem.Expr} {pos: Pos} {Q: DV->St->Prop} (h: EvL W too cx (spliced (backTo pos (starEach es cx.env))) (fun ds σ=>match Nat.ble ds.length 1000 with|true=>newL ds Q σ|false=>False) X σ) :
  EvE W too cx (eval (.List es pos) cx.env) Q X σ := fun g s G=>by
 have he: eval (.List es pos) cx.env=(do standAt pos;newList (<-spliced (backTo pos (starEach es cx.env)))) := rfl
 rw[he]
 refine wpAny_bind (wpAny_standAt (thenL endsE G h fun g' σ' s' ds vs e G' rs hd=>?_))
 split at hd
 ·rename_i hl;rw[Nat.ble_eq]at hl
  exact newList_ G' rs (by rw[<-rs.length];exact small_line (by unfold small;omega)) hd
 ·exact hd.elim
theorem kv_shape: ∀{ks: List (Option PySem.Expr)} {vs: List PySem.Expr} {kv: List (Nat×Int)},cKV ks vs=some kv->ks.all (·.isSome)=true/\ks.length=vs.length/\kv.length=ks.length
 |[],[],_,h=>by simp[cKV]at h;subst h;exact⟨rfl,rfl,rfl⟩
 |[],_::_,_,h=>by simp[cKV]at h
 |some k::r,[],_,h=>by unfold cKV at h;split at h<;>first|(cases h;done)|simp_all
 |none::r,_,_,h=>by unfold cKV at h;first|(cases h;done)|(split at h<;>first|(cases h;done)|simp_all)
 |some k::r,v::vs,kv,h=>by
  unfold cKV at h
  split at h
  ·simp_all
  ·rename_i q1 q2
   split at h
   ·split at h
    ·rename_i l hl
     cases h
     simp only[List.cons.injEq,Option.some.injEq]at q1 q2
     obtain⟨_,rfl⟩ := q1
     obtain⟨_,rfl⟩ := q2
     obtain⟨a,b,c⟩ := kv_shape hl
     exact⟨by simpa using a,by simp[b],by simp[c]⟩
    ·cases h
   ·cases h
  ·cases h
theorem kv_pairs {env: Env} {pos: Pos} {Q: List (Value×Value)->Shared->Prop}: ∀{ks: List (Option PySem.Expr)} {vs: List PySem.Expr} {kv: List (Nat×Int)} {s: Shared},cKV ks vs=some kv->
  (∀ ps (kvs: List (Str×Value)) tk,Carries (PySem.strKind W.prog W.w) ps kvs->F2 (fun(k: Nat×DV) (e: Str×Value)=>okc e.1=true/\enc e.1=k.1/\Rep g k.2 e.2) (dctV kv) kvs->Q ps {s with toks := tk})->
  wpAny W.M cx.A (evalPairs (pairTrees ks vs env pos)) Q E s
 |[],[],_,s,h,k=>by
  simp only[cKV,Option.some.injEq]at h
  subst h
  exact pairTrees_nil_walk (k [] [] s.toks trivial .nil)
 |[],_::_,_,_,h,_=>by simp[cKV]at h
 |some k::r,[],_,_,h,_=>by unfold cKV at h;split at h<;>first|(cases h;done)|simp_all
 |none::r,_,_,_,h,_=>by unfold cKV at h;first|(cases h;done)|(split at h<;>first|(cases h;done)|simp_all)
 |some k::r,v::vs,kv,s,h,hk=>by
  unfold cKV at h
  split at h
  ·simp_all
  ·rename_i q1 q2
   split at h
   ·rename_i hx
    split at h
    ·rename_i l hl
     cases h
     simp only[List.cons.injEq,Option.some.injEq]at q1 q2
     obtain⟨rfl,rfl⟩ := q1
     obtain⟨rfl,rfl⟩ := q2
     refine pairTrees_cons_walk ?_
     show wpAny _ _ (mkText _) _ _ _
     refine wpAny_mkText ?_
     show wpAny _ _ (mkInt _) _ _ _
     refine wpAny_mkInt ?_
     refine kv_pairs hl fun ps kvs tk hc hf=>?_
     exact hk _ ((_,_)::kvs) tk ⟨by simp[PySem.strKind,Value.isStrOf],rfl,hc⟩ (.cons ⟨hx,rfl,.int _ _⟩ hf)
    ·cases h
   ·cases h
  ·cases h
theorem distinct_nodup: ∀{l: List Nat},distinct l=true->l.Nodup
 |[],_=>.nil
 |x::r,h=>by
  simp only[distinct,Bool.and_eq_true,Bool.not_eq_true',List.any_eq_false]at h
  rw[List.nodup_cons]
  exact⟨fun hm=>by have := h.1 x hm;simp at this,distinct_nodup h.2⟩
theorem dctV_keys: ∀(kv: List (Nat×Int)),(dctV kv).map (·.1)=kv.map (·.1)
 |[]=>rfl
 |(k,i)::r=>by simp[dctV,dctV_keys r]
theorem f2_keys {kv: List (Nat×DV)} {kvs: List (Str×Value)} (h: F2 (fun(k: Nat×DV) (e: Str×Value)=>okc e.1=true/\enc e.1=k.1/\Rep g k.2 e.2) kv kvs) (nd: (kv.map (·.1)).Nodup): (kvs.map (·.1)).Nodup := by
 have e: (kvs.map (·.1)).map enc=kv.map (·.1) := by
  clear nd
  induction h with
  |nil=>rfl
  |cons h _ ih=>simp[ih,h.2.1]
 rw[<-e]at nd
 exact List.Pairwise.of_map enc (fun a b hab e=>hab (by rw[e])) nd
theorem ev_dct {ks: List (Option PySem.Expr)} {vs: List PySem.Expr} {kv: List (Nat×Int)} {pos: Pos} {Q: DV->St->Prop} (hk: cKV ks vs=some kv) (hl: Nat.ble kv.length 15=true) (hd: distinct (kv.map (·.1))=true)
  (h: ∀ a,σ.mu a=none->Q (.ref a) ⟨σ.loc,σ.mu.set a (match kv with|[]=>.dE|kv=>.dS (dctV kv))⟩): EvE W too cx (eval (.Dict ks vs pos) cx.env) Q X σ := fun g s G=>by
 have hn := G.sim.mnone (fresh_none s.heap)
 cases kv with
 |nil=>
  obtain⟨_,h2,h3⟩ := kv_shape hk
  obtain rfl: ks=[] := List.length_eq_zero_iff.mp h3.symm
  obtain rfl: vs=[] := List.length_eq_zero_iff.mp h2.symm
  exact wpAny_Dict_empty ((G.newM (mo := .dE) {cls := .type "dict",data := .dict #[]} rfl .dE).post (.ref _) (h _ hn))
 |cons p r=>
  obtain⟨h1,h2,h3⟩ := kv_shape hk
  rw[Nat.ble_eq]at hl
  refine wpAny_Dict_walk (knd := PySem.strKind W.prog W.w) h1 h2 (fun e=>by subst e;simp at h3) (by omega) (kv_pairs (g := g) hk fun ps kvs tk hc hf=>?_)
  have nd: ((dctV (p::r)).map (·.1)).Nodup := by rw[dctV_keys];exact distinct_nodup hd
  have nd' := f2_keys hf nd
  refine⟨kvs,hc,dictOf_mapOf (Heap.get?_push_size _ rfl) empty_dictOf,fun h' hd' hs'=>?_⟩
  rw[merged_nil_of_nodup _ nd']at hd'
  obtain⟨o,es,ep,ho,rest⟩ := hd'
  have hfr := fresh_none s.heap
  have G': Good W cx g ⟨σ.loc,σ.mu.set s.heap.objs.size (.dS (dctV (p::r)))⟩ {s with heap := h',toks := tk+ps.length} := by
   have hkeep: ∀ b o,s.heap.get? b=some o->h'.get? b=some o := fun b o e=>(hs'.2 b (Nat.ne_of_lt (Heap.lt_size e))).trans (Heap.get?_push_of_some _ e)
   refine G.step Ext.rfl (fun _ _ h=>.inl h) (fun b o h _=>hkeep b o h) (fun b o' hb=>?_) rfl rfl
   by_cases q: b=s.heap.objs.size
   ·subst q;rw[Mt.set_self]at hb;cases hb
    exact⟨G.sim.gnone hfr,.inl (Nat.le_refl _),o,ho,.dS ⟨es,ep,rest⟩ hf⟩
   ·rw[Mt.set_ne _ _ q]at hb
    obtain⟨h1,_,ob,h3,h4⟩ := G.sim.muts b o' hb
    exact⟨h1,.inr (by rw[hb];simp),ob,hkeep _ _ h3,h4⟩
  exact G'.post (.ref _) (h _ hn)
theorem ev_bin {a b: PySem.Expr} {op: Operator} {o: BOp} {pos: Pos} {Q: DV->St->Prop} (ho: cBOp op=some o) (h: EvE W too cx (eval a cx.env) (fun x σ=>EvE W too cx (eval b cx.env) (fun y σ=>wpBin o x y Q σ) X σ) X σ) :
  EvE W too cx (eval (.BinOp a op b pos) cx.env) Q X σ := fun g s G=>by
 have he: eval (.BinOp a op b pos) cx.env=(do
  let x <-eval a cx.env
  let y <-holding [x] (eval b cx.env)
  standAt pos
  operate [x,y] (binaryOp op x y)) := rfl
 rw[he]
 refine thenE endsE G h fun g' σ' s' d v e G' rd hd=>?_
 refine thenE endsE G' (ev_holding hd) fun g'' σ'' s'' d' v' e' G'' rd' hd'=>?_
 rw[opOf_of ho]
 exact wpAny_bind (wpAny_standAt (operate_ (bin_rule G'' (rd.mono e') rd' hd')))
theorem ev_neg {i: Int} {k: Nat} {p pos: Pos} {Q: DV->St->Prop} (h: Q (.int (-i)) σ): EvE W too cx (eval (.UnaryOp .USub (.Constant (.int i) k p) pos) cx.env) Q X σ := fun g s G=>
 wpAny_UnaryOp (wpAny_mkInt (neg_int ((G.toks _).post (.int _ _) h)))
theorem truthy_ {b: Bool} {Q: Bool->Shared->Prop} {M: Model} {A: Around} (h: Q b s): wpAny M A (truthy (.bool b)) Q E s := wpAny_truthy_bool h
theorem ev_not {a: PySem.Expr} {pos: Pos} {Q: DV->St->Prop} (h: EvE W too cx (eval a cx.env) (fun d σ=>match truthV d with|some t=>Q (.bool (!t)) σ|none=>False) X σ): EvE W too cx (eval (.UnaryOp .Not a pos) cx.env) Q X σ := fun g s G=>by
 refine wpAny_UnaryOp (wpAny_mono (h g s G) (fun v s' ⟨g',σ',d,e,G',rd,hd⟩=>?_) fun _ _ x=>x)
 dsimp only at hd
 split at hd
 ·rename_i t ht
  obtain rfl := truth_rule G' rd ht
  unfold unaryOp
  refine wpAny_holding ?_
  exact wpAny_bind (truthy_ (wpAny_pure ⟨g',σ',_,e,G',.bool _,hd⟩))
 ·exact hd.elim
theorem ev_ite {t a b: PySem.Expr} {pos: Pos} {Q: DV->St->Prop} (h: EvG W too cx (isTrue t cx.env (eval t cx.env)) (fun r σ=>match r with|true=>EvE W too cx (eval a cx.env) Q X σ|false=>EvE W too cx (eval b cx.env) Q X σ) X σ) :
  EvE W too cx (eval (.IfExp t a b pos) cx.env) Q X σ := fun g s G=>by
 have he: eval (.IfExp t a b pos) cx.env=(do if <-isTrue t cx.env (eval t cx.env)then eval a cx.env else eval b cx.env) := rfl
 rw[he]
 refine thenG endsE G h fun g' σ' s' r e G' hd=>?_
 cases r with
 |true=>exact hd g' s' G'
 |false=>exact hd g' s' G'
theorem ev_and {pos: Pos} {x y: Sem Value} {r: List (Sem Value)} {Q: DV->St->Prop} (h: EvE W too cx x (fun d σ=>match truthV d with|some true=>EvE W too cx (boolOp pos .And (y::r)) Q X σ|some false=>Q d σ|none=>False) X σ) :
  EvE W too cx (boolOp pos .And (x::y::r)) Q X σ := fun g s G=>by
 show wpAny _ _ (do
  let v <-x
  standAt pos
  let t <-holding [v] (truthy v)
  match BoolOp.And,t with
  |.And,false|.Or,true=>pure v
  |_,_=>boolOp pos .And (y::r)) _ _ s
 refine thenE endsE G h fun g' σ' s' d v e G' rd hd=>?_
 refine wpAny_bind (wpAny_standAt ?_)
 split at hd
 ·rename_i ht
  obtain rfl := truth_rule G' rd ht
  exact wpAny_bind (wpAny_holding (truthy_ (hd g' s' G')))
 ·rename_i ht
  obtain rfl := truth_rule G' rd ht
  exact wpAny_bind (wpAny_holding (truthy_ (wpAny_pure (G'.post rd hd))))
 ·exact hd.elim
theorem ev_or {pos: Pos} {x y: Sem Value} {r: List (Sem Value)} {Q: DV->St->Prop} (h: EvE W too cx x (fun d σ=>match truthV d with|some true=>Q d σ|some false=>EvE W too cx (boolOp pos .Or (y::r)) Q X σ|none=>False) X σ) :
  EvE W too cx (boolOp pos .Or (x::y::r)) Q X σ := fun g s G=>by
 show wpAny _ _ (do
  let v <-x
  standAt pos
  let t <-holding [v] (truthy v)
  match BoolOp.Or,t with
  |.And,false|.Or,true=>pure v
  |_,_=>boolOp pos .Or (y::r)) _ _ s
 refine thenE endsE G h fun g' σ' s' d v e G' rd hd=>?_
 refine wpAny_bind (wpAny_standAt ?_)
 split at hd
 ·rename_i ht
  obtain rfl := truth_rule G' rd ht
  exact wpAny_bind (wpAny_holding (truthy_ (wpAny_pure (G'.post rd hd))))
 ·rename_i ht
  obtain rfl := truth_rule G' rd ht
  exact wpAny_bind (wpAny_holding (truthy_ (hd g' s' G')))
 ·exact hd.elim
theorem plain_none {d: DV} {v: Value} (r: Rep g d v) (h: noBi d=true): plainIs v .none=true := by
 cases r with
 |bi b=>cases h
 |_=>rfl
theorem is_rule (G: Good W cx g σ s) {d: DV} {v: Value} (r: Rep g d v) {Q: DV->St->Prop} (b: Bool) (h: match noBi d with|true=>Q (.bool (b==isNone d)) σ|false=>False) :
  wpAny W.M cx.A (compareOp (if b then .Is else .IsNot) v .none) (PostE W cx g Q) E s := by
 split at h
 ·rename_i hb
  cases b with
  |true=>exact wpAny_is_plain (plain_none r hb) (by rw[isNone_rule G r];exact G.post (.bool _) (by simpa using h))
  |false=>exact wpAny_isNot_plain (plain_none r hb) (by rw[isNone_rule G r];exact G.post (.bool _) (by simpa using h))
 ·exact h.elim
theorem ev_is {a: PySem.Expr} {b: Bool} {k: Nat} {p pos: Pos} {Q: DV->St->Prop} (h: EvE W too cx (eval a cx.env) (fun d σ=>match noBi d with|true=>Q (.bool (b==isNone d)) σ|false=>False) X σ) :
  EvE W too cx (eval (.Compare a [if b then .Is else .IsNot] [.Constant .none k p] pos) cx.env) Q X σ := fun g s G=>by
 have he: eval (.Compare a [if b then .Is else .IsNot] [.Constant .none k p] pos) cx.env=(do compareChain pos (<-eval a cx.env) [if b then .Is else .IsNot] [eval (.Constant .none k p) cx.env]) := by cases b<;>rfl
 rw[he]
 refine thenE endsE G h fun g' σ' s' d v e G' rd hd=>?_
 refine chain_last ?_
 show wpAny _ _ (pure Value.none) _ _ _
 exact wpAny_pure (is_rule G' rd b hd)
theorem tr_is {a: PySem.Expr} {b: Bool} {k: Nat} {p pos: Pos} {Q: Bool->St->Prop} (h: EvE W too cx (eval a cx.env) (fun d σ=>match noBi d with|true=>Q (b==isNone d) σ|false=>False) X σ) :
  EvG W too cx (isTrue (.Compare a [if b then .Is else .IsNot] [.Constant .none k p] pos) cx.env (eval (.Compare a [if b then .Is else .IsNot] [.Constant .none k p] pos) cx.env)) Q X σ := fun g s G=>by
 have he: isTrue (.Compare a [if b then .Is else .IsNot] [.Constant .none k p] pos) cx.env (eval (.Compare a [if b then .Is else .IsNot] [.Constant .none k p] pos) cx.env)=(do testChain pos (<-eval a cx.env) [if b then .Is else .IsNot] [eval (.Constant .none k p) cx.env]) := by cases b<;>rfl
 rw[he]
 refine thenE endsG G h fun g' σ' s' d v e G' rd hd=>?_
 show wpAny _ _ (do
  let rv <-holding [v] (eval (.Constant .none k p) cx.env)
  standAt pos
  let c <-operate [v,rv] (compareOp (if b then .Is else .IsNot) v rv)
  holding [c] (truthy c)) _ _ _
 refine wpAny_bind (wpAny_holding ?_)
 show wpAny _ _ (pure Value.none) _ _ _
 refine wpAny_pure (wpAny_bind (wpAny_standAt (wpAny_bind (operate_ (wpAny_mono (is_rule (Q := fun d σ=>∃ t,d=.bool t/\Q t σ) G' rd b (by split at hd<;>first|exact⟨_,rfl,hd⟩|exact hd.elim)) (fun c s'' ⟨g'',σ'',d',e',G'',rd',t,ht,q⟩=>?_) fun _ _ x=>x)))))
 subst ht
 obtain rfl: c=.bool t := by cases rd';rfl
 exact wpAny_holding (truthy_ ⟨g'',σ'',e',G'',q⟩)
def EvC (W: Wd) (too: Addr) (cx: Cx): DV->List CmpOp->List PySem.Expr->(Bool->St->Prop)->(DV->St->Prop)->St->Prop
 |a,[op],[e],Q,X,σ=>EvE W too cx (eval e cx.env) (fun b σ=>match cCOp op with|some o=>(match cmpV σ.mu o a b with|some t=>Q t σ|none=>False)|none=>False) X σ
 |a,op::op'::ops,e::e'::es,Q,X,σ=>EvE W too cx (eval e cx.env) (fun b σ=>match cCOp op with|some o=>(match cmpV σ.mu o a b with|some true=>EvC W too cx b (op'::ops) (e'::es) Q X σ|some false=>Q false σ|none=>False)|none=>False) X σ
 |_,_,_,_,_,_=>False
theorem chain_ev (WO: W.Ok) (hu: cx.A.units+64<cLine) {pos: Pos} {Q: DV->St->Prop}: ∀(ops: List CmpOp) (es: List PySem.Expr) {d: DV} {v: Value} {σ: St} {g: Hp} {s: Shared},EvC W too cx d ops es (fun t σ=>Q (.bool t) σ) X σ->Good W cx g σ s->Rep g d v->
  wpAny W.M cx.A (compareChain pos v ops (evalEach es cx.env)) (PostE W cx g Q) (EX W too cx X) s
 |[op],[e],d,v,σ,g,s,h,G,r=>by
  refine chain_last (wpAny_mono (h g s G) (fun w s' ⟨g',σ',b,e1,G',rb,hb⟩=>?_) fun _ _ x=>x)
  dsimp only at hb
  split at hb
  case h_2=>exact hb.elim
  rename_i o ho
  split at hb
  case h_2=>exact hb.elim
  rename_i t ht
  rw[cmOf_of ho]
  exact wpAny_mono (cmp_rule (Q := fun t σ=>Q (.bool t) σ) WO hu G' (r.mono e1) rb ht hb) (fun c s'' ⟨t,hc,G'',q⟩=>by subst hc;exact⟨g',σ',_,e1,G'',.bool _,q⟩) fun _ _ x=>x
 |op::op'::ops,e::e'::es,d,v,σ,g,s,h,G,r=>by
  refine chain_link (wpAny_mono (h g s G) (fun w s' ⟨g',σ',b,e1,G',rb,hb⟩=>?_) fun _ _ x=>x)
  dsimp only at hb
  split at hb
  case h_2=>exact hb.elim
  rename_i o ho
  rw[cmOf_of ho]
  split at hb
  ·rename_i ht
   refine wpAny_mono (cmp_rule (Q := fun t _=>t=true) WO hu G' (r.mono e1) rb ht rfl) (fun c s'' ⟨t,hc,G'',q⟩=>?_) fun _ _ x=>x
   subst hc;subst q
   exact truthy_ (wpAny_mono (chain_ev WO hu (op'::ops) (e'::es) hb G'' rb) (fun _ _ p=>p.from e1) fun _ _ x=>x)
  ·rename_i ht
   refine wpAny_mono (cmp_rule (Q := fun t _=>t=false) WO hu G' (r.mono e1) rb ht rfl) (fun c s'' ⟨t,hc,G'',q⟩=>?_) fun _ _ x=>x
   subst hc;subst q
   exact truthy_ ⟨g',σ',_,e1,G'',.bool _,hb⟩
  ·exact hb.elim
 |[],_,_,_,_,_,_,h,_,_=>by simp[EvC]at h
 |[_],[],_,_,_,_,_,h,_,_=>by simp[EvC]at h
 |[_],_::_::_,_,_,_,_,_,h,_,_=>by simp[EvC]at h
 |_::_::_,[],_,_,_,_,_,h,_,_=>by simp[EvC]at h
 |_::_::_,[_],_,_,_,_,_,h,_,_=>by simp[EvC]at h
theorem test_ev (WO: W.Ok) (hu: cx.A.units+64<cLine) {pos: Pos} {Q: Bool->St->Prop}: ∀(ops: List CmpOp) (es: List PySem.Expr) {d: DV} {v: Value} {σ: St} {g: Hp} {s: Shared},EvC W too cx d ops es Q X σ->Good W cx g σ s->Rep g d v->
  wpAny W.M cx.A (testChain pos v ops (evalEach es cx.env)) (PostG W cx g Q) (EX W too cx X) s
 |[op],[e],d,v,σ,g,s,h,G,r=>by
  show wpAny _ _ (do
   let rv <-holding [v] (eval e cx.env)
   standAt pos
   let c <-operate [v,rv] (compareOp op v rv)
   holding [c] (truthy c)) _ _ _
  refine wpAny_bind (wpAny_holding (wpAny_mono (h g s G) (fun w s' ⟨g',σ',b,e1,G',rb,hb⟩=>?_) fun _ _ x=>x))
  dsimp only at hb
  split at hb
  case h_2=>exact hb.elim
  rename_i o ho
  split at hb
  case h_2=>exact hb.elim
  rename_i t ht
  rw[cmOf_of ho]
  refine wpAny_bind (wpAny_standAt (wpAny_bind (operate_ (wpAny_mono (cmp_rule (Q := Q) WO hu G' (r.mono e1) rb ht hb) (fun c s'' ⟨t,hc,G'',q⟩=>?_) fun _ _ x=>x))))
  subst hc
  exact wpAny_holding (truthy_ ⟨g',σ',e1,G'',q⟩)
 |op::op'::ops,e::e'::es,d,v,σ,g,s,h,G,r=>by
  refine test_link (wpAny_mono (h g s G) (fun w s' ⟨g',σ',b,e1,G',rb,hb⟩=>?_) fun _ _ x=>x)
  dsimp only at hb
  split at hb
  case h_2=>exact hb.elim
  rename_i o ho
  rw[cmOf_of ho]
  split at hb
  ·rename_i ht
   refine wpAny_mono (cmp_rule (Q := fun t _=>t=true) WO hu G' (r.mono e1) rb ht rfl) (fun c s'' ⟨t,hc,G'',q⟩=>?_) fun _ _ x=>x
   subst hc;subst q
   exact truthy_ (wpAny_mono (test_ev WO hu (op'::ops) (e'::es) hb G'' rb) (fun _ _ p=>p.from e1) fun _ _ x=>x)
  ·rename_i ht
   refine wpAny_mono (cmp_rule (Q := fun t _=>t=false) WO hu G' (r.mono e1) rb ht rfl) (fun c s'' ⟨t,hc,G'',q⟩=>?_) fun _ _ x=>x
   subst hc;subst q
   exact truthy_ ⟨g',σ',e1,G'',hb⟩
  ·exact hb.elim
 |[],_,_,_,_,_,_,h,_,_=>by simp[EvC]at h
 |[_],[],_,_,_,_,_,h,_,_=>by simp[EvC]at h
 |[_],_::_::_,_,_,_,_,_,h,_,_=>by simp[EvC]at h
 |_::_::_,[],_,_,_,_,_,h,_,_=>by simp[EvC]at h
 |_::_::_,[_],_,_,_,_,_,h,_,_=>by simp[EvC]at h
theorem ev_cmp (WO: W.Ok) (hu: cx.A.units+64<cLine) {a: PySem.Expr} {ops: List CmpOp} {es: List PySem.Expr} {pos: Pos} (hm: lastMarks ops es=false) {Q: DV->St->Prop} (h: EvE W too cx (eval a cx.env) (fun d σ=>EvC W too cx d ops es (fun t σ=>Q (.bool t) σ) X σ) X σ) :
  EvE W too cx (eval (.Compare a ops es pos) cx.env) Q X σ := fun g s G=>by
 have he: eval (.Compare a ops es pos) cx.env=(do compareChain pos (<-eval a cx.env) ops (markedEach ops es (evalEach es cx.env))) := rfl
 rw[he,markedEach_of_false _ _ _ hm]
 exact thenE endsE G h fun g' σ' s' d v e G' rd hd=>chain_ev WO hu ops es hd G' rd
theorem tr_cmp (WO: W.Ok) (hu: cx.A.units+64<cLine) {a: PySem.Expr} {ops: List CmpOp} {es: List PySem.Expr} {pos: Pos} {whole: Sem Value} (hm: lastMarks ops es=false) {Q: Bool->St->Prop} (h: EvE W too cx (eval a cx.env) (fun d σ=>EvC W too cx d ops es Q X σ) X σ) :
  EvG W too cx (isTrue (.Compare a ops es pos) cx.env whole) Q X σ := fun g s G=>by
 have he: isTrue (.Compare a ops es pos) cx.env whole=(do testChain pos (<-eval a cx.env) ops (markedEach ops es (evalEach es cx.env))) := rfl
 rw[he,markedEach_of_false _ _ _ hm]
 exact thenE endsG G h fun g' σ' s' d v e G' rd hd=>test_ev WO hu ops es hd G' rd
theorem tr_not {a: PySem.Expr} {pos: Pos} {whole: Sem Value} {Q: Bool->St->Prop} (h: EvG W too cx (isTrue a cx.env (eval a cx.env)) (fun t σ=>Q (!t) σ) X σ): EvG W too cx (isTrue (.UnaryOp .Not a pos) cx.env whole) Q X σ := fun g s G=>
 isTrue_not (wpAny_mono (h g s G) (fun _ _ ⟨g',σ',e,G',q⟩=>⟨g',σ',e,G',q⟩) fun _ _ x=>x)
theorem tr_and {a: PySem.Expr} {r: List PySem.Expr} {pos: Pos} {whole: Sem Value} {Q: Bool->St->Prop} (h: EvG W too cx (isTrue a cx.env (eval a cx.env)) (fun t σ=>match t with|true=>EvG W too cx (isTrue (.BoolOp .And r pos) cx.env whole) Q X σ|false=>Q false σ) X σ) :
  EvG W too cx (isTrue (.BoolOp .And (a::r) pos) cx.env whole) Q X σ := fun g s G=>
 isTrue_and (wpAny_mono (h g s G) (fun t s' ⟨g',σ',e,G',q⟩=>by
  cases t with
  |true=>exact wpAny_mono (q g' s' G') (fun _ _ p=>p.from e) fun _ _ x=>x
  |false=>exact⟨g',σ',e,G',q⟩) fun _ _ x=>x)
theorem tr_or {a: PySem.Expr} {r: List PySem.Expr} {pos: Pos} {whole: Sem Value} {Q: Bool->St->Prop} (h: EvG W too cx (isTrue a cx.env (eval a cx.env)) (fun t σ=>match t with|true=>Q true σ|false=>EvG W too cx (isTrue (.BoolOp .Or r pos) cx.env whole) Q X σ) X σ) :
  EvG W too cx (isTrue (.BoolOp .Or (a::r) pos) cx.env whole) Q X σ := fun g s G=>
 isTrue_or (wpAny_mono (h g s G) (fun t s' ⟨g',σ',e,G',q⟩=>by
  cases t with
  |false=>exact wpAny_mono (q g' s' G') (fun _ _ p=>p.from e) fun _ _ x=>x
  |true=>exact⟨g',σ',e,G',q⟩) fun _ _ x=>x)
theorem tr_nil_and {pos: Pos} {whole: Sem Value} {Q: Bool->St->Prop} (h: Q true σ): EvG W too cx (isTrue (.BoolOp .And [] pos) cx.env whole) Q X σ := fun g s G=>isTrue_and_nil (G.postG h)
theorem tr_nil_or {pos: Pos} {whole: Sem Value} {Q: Bool->St->Prop} (h: Q false σ): EvG W too cx (isTrue (.BoolOp .Or [] pos) cx.env whole) Q X σ := fun g s G=>isTrue_or_nil (G.postG h)
theorem tr_ite {t a b: PySem.Expr} {pos: Pos} {whole: Sem Value} {Q: Bool->St->Prop} (h: EvG W too cx (isTrue t cx.env (eval t cx.env)) (fun r σ=>match r with|true=>EvG W too cx (isTrue a cx.env (eval a cx.env)) Q X σ|false=>EvG W too cx (isTrue b cx.env (eval b cx.env)) Q X σ) X σ) :
  EvG W too cx (isTrue (.IfExp t a b pos) cx.env whole) Q X σ := fun g s G=>
 isTrue_IfExp (wpAny_mono (h g s G) (fun t s' ⟨g',σ',e,G',q⟩=>by
  cases t with
  |true=>exact wpAny_mono (q g' s' G') (fun _ _ p=>p.from e) fun _ _ x=>x
  |false=>exact wpAny_mono (q g' s' G') (fun _ _ p=>p.from e) fun _ _ x=>x) fun _ _ x=>x)
theorem tr_plain {e: PySem.Expr} {Q: Bool->St->Prop} (he: isTrue e cx.env (eval e cx.env)=(do let v <-eval e cx.env;standAt e.pos;holding [v] (truthy v))) (h: EvE W too cx (eval e cx.env) (fun d σ=>match truthV d with|some t=>Q t σ|none=>False) X σ) :
  EvG W too cx (isTrue e cx.env (eval e cx.env)) Q X σ := fun g s G=>by
 refine isTrue_plain (wpAny_mono (h g s G) (fun v s' ⟨g',σ',d,e1,G',rd,hd⟩=>?_) fun _ _ x=>x) he
 dsimp only at hd
 split at hd
 ·rename_i t ht
  obtain rfl := truth_rule G' rd ht
  exact truthy_ ⟨g',σ',e1,G',hd⟩
 ·exact hd.elim
theorem ev_attr (WO: W.Ok) (TO: TbOk W T) {o: PySem.Expr} {x: Str} {pos: Pos} (hx: okc x=true) (hb: attrBase o=true) {Q: DV->St->Prop}
  (h: EvE W too cx (eval o cx.env) (fun ov σ=>match getA σ.mu ov (enc x)with|some (C,d)=>(match T.rd C (enc x)with|true=>Q d σ|false=>False)|none=>False) X σ): EvE W too cx (eval (.Attribute o x pos) cx.env) Q X σ := fun g s G=>by
 have he: eval (.Attribute o x pos) cx.env=(do
  let ov <-attributeBase o x cx.env (eval o cx.env)
  standAt pos.atName
  let r <-holding [ov] (getAttr ov x true)
  letTemporaryGo o ov r
  pure r) := rfl
 rw[he,base_eq hb]
 refine thenE endsE G h fun g' σ' s' d v e G' rd hd=>?_
 split at hd
 case h_2=>exact hd.elim
 rename_i C d' hg
 split at hd
 case h_2=>exact hd.elim
 rename_i ht
 exact wpAny_bind (wpAny_standAt (wpAny_bind (wpAny_holding (wpAny_mono (attr_rule WO TO G' hx rd hg ht hd) (fun r s'' p=>wpAny_bind (wpAny_letTemporaryGo (wpAny_pure p))) fun _ _ x=>x))))
theorem ev_sub {o i: PySem.Expr} {pos: Pos} (hi: ∀ a b p,i≠.Slice a b none p) {Q: DV->St->Prop} (h: EvE W too cx (eval o cx.env) (fun ov σ=>EvE W too cx (eval i cx.env) (fun iv σ=>subW σ.mu ov iv fun d=>Q d σ) X σ) X σ) :
  EvE W too cx (eval (.Subscript o i pos) cx.env) Q X σ := fun g s G=>by
 refine Subscript_ (wpAny_mono (h g s G) (fun v s' ⟨g',σ',d,e,G',rd,hd⟩=>?_) fun _ _ x=>x)
 refine wpAny_mono (hd g' s' G') (fun w s'' ⟨g'',σ'',d',e',G'',rd',hd'⟩=>?_) fun _ _ x=>x
 exact wpAny_mono (sub_rule G'' (rd.mono e') rd' hd' (subscripted_other hi v w)) (fun _ _ p=>p.from (e.trans e')) fun _ _ x=>x
theorem ev_part {l: Option PySem.Expr} {Q: DV->St->Prop} (h: match l with|some l=>EvE W too cx (eval l cx.env) Q X σ|none=>Q .none σ): EvE W too cx (evalPart l cx.env) Q X σ := fun g s G=>by
 cases l with
 |none=>exact wpAny_pure (G.post .none h)
 |some l=>exact h g s G
theorem ev_slc {o: PySem.Expr} {l u: Option PySem.Expr} {p pos: Pos} {Q: DV->St->Prop} (h: EvE W too cx (eval o cx.env) (fun ov σ=>EvE W too cx (evalPart l cx.env) (fun lv σ=>EvE W too cx (evalPart u cx.env) (fun uv σ=>wpSlc ov lv uv Q σ) X σ) X σ) X σ) :
  EvE W too cx (eval (.Subscript o (.Slice l u none p) pos) cx.env) Q X σ := fun g s G=>by
 refine Subscript_ (wpAny_mono (h g s G) (fun v s' ⟨g',σ',d,e,G',rd,hd⟩=>?_) fun _ _ x=>x)
 refine wpAny_Slice (wpAny_mono (hd g' s' G') (fun w s'' ⟨g'',σ'',d',e',G'',rd',hd'⟩=>?_) fun _ _ x=>x)
 refine wpAny_mono (hd' g'' s'' G'') (fun x s3 ⟨g3,σ3,d3,e3,G3,rd3,hd3⟩=>?_) fun _ _ x=>x
 rw[evalPart_none]
 refine wpAny_pure ?_
 exact wpAny_mono (slc_rule G3 ((rd.mono e').mono e3) (rd'.mono e3) rd3 hd3) (fun _ _ p=>p.from (e.trans (e'.trans e3))) fun _ _ x=>x
theorem ev_rev {o: PySem.Expr} {k: Nat} {p p2 p3 pos: Pos} {Q: DV->St->Prop} (h: EvE W too cx (eval o cx.env) (fun ov σ=>match asL σ.mu ov with|some xs=>small xs.length/\newL xs.reverse Q σ|none=>False) X σ) :
  EvE W too cx (eval (.Subscript o (.Slice none none (some (.UnaryOp .USub (.Constant (.int 1) k p3) p2)) p) pos) cx.env) Q X σ := fun g s G=>by
 refine Subscript_ (wpAny_mono (h g s G) (fun v s' ⟨g',σ',d,e,G',rd,hd⟩=>?_) fun _ _ x=>x)
 dsimp only at hd
 split at hd
 case h_2=>exact hd.elim
 rename_i xs hxs
 obtain⟨hz,hd⟩ := hd
 refine wpAny_Slice ?_
 rw[evalPart_none]
 refine wpAny_pure (wpAny_pure ?_)
 show wpAny _ _ (eval _ _) _ _ _
 refine wpAny_UnaryOp (wpAny_mkInt (neg_int ?_))
 have G2 := (G'.toks (s'.toks+1)).toks (s'.toks+1+1)
 obtain⟨e2,G3⟩ := G2.newF {cls := .type "slice",data := .fields #[.none,.none,.int (-1) (s'.toks+1)]} rfl
 obtain⟨a,nn,vs,rfl,ho,rv⟩ := list_at G3 (rd.mono e2) hxs
 have hL := PySem.IsL.isList (n := nn) ho
 have hlen := rv.length
 refine tail_any (ops := [.ref a,.ref s'.heap.objs.size]) hL.typeIs list_getitem_lookup ?_ rfl
 refine wpAny_getItem_list_slice hL (Heap.IsSliceOf.new ..) .none .none (.int _ _) (by simp) ?_ (by have := small_line hz;simp;omega)
 rw[krv_pick]
 exact⟨_,_,_,e.trans e2,G3.newM (mo := .lst xs.reverse) (listOf vs.reverse.toArray 0) rfl (.lst rv.reverse),.ref _,hd _ (G3.sim.mnone (fresh_none _))⟩
end
end
section
structure StOk (cx: Cx): Prop where
 nofree: ∀ x,cx.env.kindOf x≠some .free
 cellAt: ∀ x,cx.env.kindOf x=some .cell->∃ c,cx.env.cells.lookup x=some c
 own: ∀ x c,(x,c)∈cx.env.cells->cx.kp c=none
 top: ∃ l,cx.A.frames=some (cx.env::l)/\cx.env.frame=some cx.env.locals
 nodup: cx.env.cells.Pairwise fun x y=>x.2≠y.2
def FnOk (env: Env): Prop := (env.scope.kind==.class||(env.scope.kind==.module&&env.locals != env.globals))=false
theorem fnOk {env: Env} (h: env.scope.kind=.function): FnOk env := by unfold FnOk;rw[h];rfl
section
variable {W: Wd} {too: Addr} {T: Tb} {n: Nat} {cx: Cx} {X: DV->St->Prop} {σ: St} {g g': Hp} {s s': Shared} {E: Value->Shared->Prop}
theorem pairwise_ne {α β: Type}: ∀{l: List (α×β)},l.Pairwise (fun x y=>x.2≠y.2)->∀{a b: α×β},a∈l->b∈l->a≠b->a.2≠b.2
 |[],_,_,_,h,_,_=>by cases h
 |p::r,hp,a,b,ha,hb,hab=>by
  rw[List.pairwise_cons]at hp
  rcases List.mem_cons.mp ha with rfl|ha
  ·rcases List.mem_cons.mp hb with rfl|hb
   ·exact absurd rfl hab
   ·exact hp.1 b hb
  ·rcases List.mem_cons.mp hb with rfl|hb
   ·rename_i ha';exact fun e=>hp.1 a ha' e.symm
   ·exact pairwise_ne hp.2 ha hb hab
theorem enc_ne {x y: Str} (hx: okc x=true) (hy: okc y=true) (h: x≠y): enc x≠enc y := fun e=>h (enc_inj hx hy e)
theorem store_local2 (EO: EnvOk cx.env) (hk: KindsOk cx.env cx.kd) (G: Good W cx g σ s) {x: Str} {d: DV} {v: Value} (ok: okc x=true) (h0: kindN cx.kd (enc x)=0) (r: Rep g d v) {Q: Unit->Shared->Prop}
  (q: ∀ s',Good W cx g ⟨put σ.loc (enc x) d,σ.mu⟩ s'->(∀ b,b≠cx.env.locals->s'.heap.get? b=s.heap.get? b)->Q () s') {A: Around}: wpAny W.M A (storeName cx.env x v) Q E s := by
 have hl := (hk x ok).1 h0
 obtain⟨⟨mm,hns,hv⟩,hc,⟨a1,a2,a3⟩,ca⟩ := G.frm
 refine wpAny_storeName_local hl hns (fun h' hn' hs'=>q _ ?_ hs'.2) (fnOk EO.kind)
 refine⟨G.ext,?_,⟨⟨_,hn',fun y d' oky hy h0y=>?_⟩,fun y d' oky hy h1y=>?_,⟨a1,a2,a3⟩,fun y c hyc=>?_⟩,G.above⟩
 ·refine G.sim.step Ext.rfl (fun _ _ h=>.inl h) (fun b o h hgk _=>(hs'.2 b (fun e=>by subst e;rcases hgk with q|q;exact q a1;exact q a2)).trans h) (fun b o h=>?_) rfl rfl G.size
  obtain⟨h1,_,ob,h3,h4⟩ := G.sim.muts b o h
  exact⟨h1,.inr (by rw[h];simp),ob,(hs'.2 b (fun e=>by subst e;rw[a3]at h;cases h)).trans h3,h4⟩
 ·by_cases e: y=x
  ·subst e
   rw[look_put_self]at hy;cases hy
   exact⟨v,by simp,r⟩
  ·rw[look_put_ne _ _ (enc_ne ok oky (Ne.symm e))]at hy
   obtain⟨w,h1,h2⟩ := hv y d' oky hy h0y
   exact⟨w,by simp only[if_neg e];exact h1,h2⟩
 ·have e: enc x≠enc y := fun e=>by rw[e,h1y]at h0;cases h0
  rw[look_put_ne _ _ e]at hy
  obtain⟨c,w,h1,h2,h3⟩ := hc y d' oky hy h1y
  exact⟨c,w,h1,h2.sameBut hs' (ca y c (mem_of_lookup h1)).2.2.1,h3⟩
 ·obtain⟨c1,c2,c3,w,c4⟩ := ca y c hyc
  exact⟨c1,c2,c3,w,c4.sameBut hs' c3⟩
theorem store_local (EO: EnvOk cx.env) (hk: KindsOk cx.env cx.kd) (G: Good W cx g σ s) {x: Str} {d: DV} {v: Value} (ok: okc x=true) (h0: kindN cx.kd (enc x)=0) (r: Rep g d v) {Q: Unit->Shared->Prop}
  (q: ∀ s',Good W cx g ⟨put σ.loc (enc x) d,σ.mu⟩ s'->Q () s'): wpAny W.M cx.A (bindName cx.env x v) Q E s :=
 wpAny_bindName (store_local2 EO hk G ok h0 r fun s' G' _=>q s' G')
theorem store_cell (EO: EnvOk cx.env) (SO: StOk cx) (hk: KindsOk cx.env cx.kd) (G: Good W cx g σ s) {x: Str} {d: DV} {v: Value} (ok: okc x=true) (h0: kindN cx.kd (enc x)=1) (r: Rep g d v) {Q: Unit->Shared->Prop}
  (q: ∀ s',Good W cx g ⟨put σ.loc (enc x) d,σ.mu⟩ s'->Q () s'): wpAny W.M cx.A (bindName cx.env x v) Q E s := by
 have hl: cx.env.kindOf x=some .cell := by
  rcases(hk x ok).2.1 h0 with e|e
  ·exact e
  ·exact absurd e (SO.nofree x)
 obtain⟨c,hlk⟩ := SO.cellAt x hl
 obtain⟨⟨mm,hns,hv⟩,hc,⟨a1,a2,a3⟩,ca⟩ := G.frm
 obtain⟨c1,c2,c3,w,c4⟩ := ca x c (mem_of_lookup hlk)
 have c5 := SO.own x c (mem_of_lookup hlk)
 refine wpAny_bindName (wpAny_storeName_cell EO.kind hl hlk c4 (fun h' hc' hs'=>q _ ?_))
 refine⟨G.ext,?_,⟨⟨mm,hns.sameBut hs' (Ne.symm c3),fun y d' oky hy h0y=>?_⟩,fun y d' oky hy h1y=>?_,⟨a1,a2,a3⟩,fun y c' hyc=>?_⟩,G.above⟩
 ·refine G.sim.step Ext.rfl (fun _ _ h=>.inl h) (fun b o h hgk _=>(hs'.2 b (fun e=>by subst e;rcases hgk with q|q;exact q c1;exact q c5)).trans h) (fun b o h=>?_) rfl rfl G.size
  obtain⟨h1,_,ob,h3,h4⟩ := G.sim.muts b o h
  exact⟨h1,.inr (by rw[h];simp),ob,(hs'.2 b (fun e=>by subst e;rw[c2]at h;cases h)).trans h3,h4⟩
 ·have e: enc x≠enc y := fun e=>by rw[e,h0y]at h0;cases h0
  rw[look_put_ne _ _ e]at hy
  exact hv y d' oky hy h0y
 ·by_cases e: y=x
  ·subst e
   rw[look_put_self]at hy;cases hy
   exact⟨c,v,hlk,hc',r⟩
  ·rw[look_put_ne _ _ (enc_ne ok oky (Ne.symm e))]at hy
   obtain⟨c',w',h1,h2,h3⟩ := hc y d' oky hy h1y
   refine⟨c',w',h1,h2.sameBut hs' (fun e'=>?_),h3⟩
   subst e'
   have: (x,c')∈cx.env.cells := mem_of_lookup hlk
   have hy': (y,c')∈cx.env.cells := mem_of_lookup h1
   exact pairwise_ne SO.nodup hy' this (fun q=>e (by rw[Prod.mk.injEq]at q;exact q.1)) rfl
 ·obtain⟨k1,k2,k3,w',k4⟩ := ca y c' hyc
  by_cases e: c'=c
  ·subst e;exact⟨k1,k2,k3,_,hc'⟩
  ·exact⟨k1,k2,k3,w',k4.sameBut hs' e⟩
theorem cSto_of {kd: List (Nat×Nat)} {x: Str} {y: Nat} (h: cSto kd x=some y): okc x=true/\y=enc x/\(kindN kd (enc x)=0\/kindN kd (enc x)=1) := by
 unfold cSto at h
 split at h
 ·rename_i ok
  split at h
  ·rename_i e;cases h;exact⟨ok,rfl,.inl e⟩
  ·rename_i e;cases h;exact⟨ok,rfl,.inr e⟩
  ·cases h
 ·cases h
theorem cStoL_of {kd: List (Nat×Nat)} {x: Str} {y: Nat} (h: cStoL kd x=some y): okc x=true/\y=enc x/\kindN kd (enc x)=0 := by
 unfold cStoL at h
 split at h
 ·rename_i ok
  split at h
  ·rename_i e;cases h;exact⟨ok,rfl,e⟩
  ·cases h
 ·cases h
def Stores (W: Wd) (cx: Cx) (f: Str->Option Nat): Prop := ∀(E: Value->Shared->Prop) (σ: St) (g: Hp) (s: Shared) (x: Str) (y: Nat) (d: DV) (v: Value) (Q: Unit->Shared->Prop),f x=some y->Good W cx g σ s->Rep g d v->
 (∀ s',Good W cx g ⟨put σ.loc y d,σ.mu⟩ s'->Q () s')->wpAny W.M cx.A (bindName cx.env x v) Q E s
theorem stores_L (EO: EnvOk cx.env) (hk: KindsOk cx.env cx.kd): Stores W cx (cStoL cx.kd) := fun E σ g s x y d v Q h G r q=>by
 obtain⟨ok,rfl,h0⟩ := cStoL_of h
 exact store_local EO hk G ok h0 r q
theorem stores_S (EO: EnvOk cx.env) (SO: StOk cx) (hk: KindsOk cx.env cx.kd): Stores W cx (cSto cx.kd) := fun E σ g s x y d v Q h G r q=>by
 obtain⟨ok,rfl,h0|h0⟩ := cSto_of h
 ·exact store_local EO hk G ok h0 r q
 ·exact store_cell EO SO hk G ok h0 r q
theorem cNames_cons {f: Str->Option Nat} {e: PySem.Expr} {r: List PySem.Expr} {xs: List Nat} (h: cNames f (e::r)=some xs): ∃ x p y ys,e=.Name x p/\f x=some y/\cNames f r=some ys/\xs=y::ys := by
 cases e<;>simp only[cNames]at h<;>first|(cases h;done)|skip
 split at h
 ·rename_i x p n l h1 h2;cases h;exact⟨_,_,_,_,rfl,h1,h2,rfl⟩
 ·cases h
theorem store_names {f: Str->Option Nat} (S: Stores W cx f): ∀{ts: List PySem.Expr} {xs: List Nat} {ds: List DV} {vs: List Value} {σ: St} {s: Shared} {Q: Unit->Shared->Prop},cNames f ts=some xs->RepL g ds vs->xs.length=ds.length->Good W cx g σ s->
  (∀ s',Good W cx g ⟨puts σ.loc xs ds,σ.mu⟩ s'->Q () s')->wpAny W.M cx.A (assignInOrder ((assignEach ts cx.env).map (·.2)) vs) Q E s
 |[],xs,ds,vs,σ,s,Q,h,r,hl,G,q=>by
  simp only[cNames,Option.some.injEq]at h
  subst h
  obtain rfl: ds=[] := List.length_eq_zero_iff.mp hl.symm
  cases r
  exact wpAny_pure (q s G)
 |e::ts,xs,ds,vs,σ,s,Q,h,r,hl,G,q=>by
  obtain⟨x,p,y,ys,rfl,h1,h2,rfl⟩ := cNames_cons h
  cases r with
  |nil=>cases hl
  |cons rd r=>
   show wpAny _ _ (do holding _ (assign (.Name x p) cx.env _);assignInOrder _ _) _ _ _
   refine wpAny_bind (wpAny_holding ?_)
   show wpAny _ _ (do standAt p;bindName cx.env x _) _ _ _
   refine wpAny_bind (wpAny_standAt (S E σ g s x y _ _ _ h1 G rd fun s' G'=>?_))
   exact store_names S h2 r (by simpa using hl) G' q
theorem names_eachN {f: Str->Option Nat} {env: Env}: ∀{ts: List PySem.Expr} {xs: List Nat},cNames f ts=some xs->(assignEach ts env).length=xs.length/\(assignEach ts env).findIdx? (·.1)=none
 |[],xs,h=>by simp only[cNames,Option.some.injEq]at h;subst h;exact⟨rfl,rfl⟩
 |e::ts,xs,h=>by
  obtain⟨x,p,y,ys,rfl,h1,h2,rfl⟩ := cNames_cons h
  obtain⟨a,b⟩ := names_eachN (env := env) h2
  refine⟨?_,?_⟩
  ·show(assignEach ts env).length+1=_;rw[a];rfl
  ·show List.findIdx? (·.1) ((false,assign (.Name x p) env)::assignEach ts env)=none
   rw[List.findIdx?_cons];simp[b]
theorem draw_walk {I: Addr} {fp wr: List Addr} {m: Nat} {P: Nat->Value->Prop} {St': Nat->Heap->Prop} {A: Around} (Wk: Walks W.prog W.w A I fp wr m P St'): ∀(k i: Nat) (s: Shared) (Q: List Value->Shared->Prop),St' i s.heap->i+k<=m->
  (∀ vs h' tk,vs.length=k->(∀ j v,vs[j]?=some v->P (i+j) v)->St' (i+k) h'->(∀ b o,b∉wr->s.heap.get? b=some o->h'.get? b=some o)->Q vs {s with heap := h',toks := tk})->wpAny W.M A (draw (.ref I) k) Q E s
 |0,i,s,Q,st,_,q=>wpAny_pure (q [] s.heap s.toks rfl (fun j v h=>by simp at h) st fun _ _ _ e=>e)
 |k+1,i,s,Q,st,hl,q=>by
  show wpAny _ _ (pyNext (.ref I) >>= _) _ _ _
  refine wpAny_bind (Wk.item i s _ _ (by omega) st fun v h' tk hP st' hk=>?_)
  refine wpAny_bind (wpAny_holding (draw_walk Wk k (i+1) _ _ st' (by omega) fun vs h'' tk' hlen hvs st'' hk'=>wpAny_pure ?_))
  refine q (v::vs) h'' tk' (by simp[hlen]) (fun j w hj=>?_) (by rw[show i+(k+1)=i+1+k by omega];exact st'') fun b o hb e=>hk' b o hb (hk b o hb e)
  cases j with
  |zero=>simp at hj;subst hj;exact hP
  |succ j=>rw[show i+(j+1)=i+1+j by omega];exact hvs j w (by simpa using hj)
theorem items_eq {vs items: List Value} (hl: vs.length=items.length) (h: ∀ j v,vs[j]?=some v->items[0+j]?=some v): vs=items := by
 apply List.ext_getElem? 
 intro j
 cases e: vs[j]? with
 |some v=>have := h j v e;rw[Nat.zero_add]at this;rw[this]
 |none=>
  have: items.length<=j := by rw[<-hl];exact List.getElem?_eq_none_iff.mp e
  exact(List.getElem?_eq_none_iff.mpr this).symm
theorem unpack_walk {A: Around} {v: Value} {items: List Value} {I: Addr} {fp: List Addr} {St': Nat->Heap->Prop} {Q: List Value->Shared->Prop} (hn: ∀ Q',Q' false s->wpAny W.M A (notIterableAtAll v) Q' E s)
  (hi: ∀ Q': Value->Shared->Prop,(∀ h',St' 0 h'->(∀ b o,s.heap.get? b=some o->h'.get? b=some o)->Q' (.ref I) {s with heap := h'})->wpAny W.M A (pyIter v) Q' E s) (hI: s.heap.get? I=none)
  (Wk: Walks W.prog W.w A I fp [I] items.length (fun i w=>items[i]?=some w) St') (q: ∀ h' tk,(∀ b o,s.heap.get? b=some o->h'.get? b=some o)->Q items {s with heap := h',toks := tk}) :
  wpAny W.M A (unpackItems v items.length none) Q E s := by
 unfold unpackItems
 refine wpAny_bind (hn _ ?_)
 simp only[Bool.false_eq_true,if_false]
 refine wpAny_bind (wpAny_holding (hi _ fun h₁ st₁ k₁=>?_))
 refine wpAny_bind (wpAny_holding (draw_walk Wk items.length 0 _ _ st₁ (by omega) fun vs h₂ tk hl hvs st₂ k₂=>?_))
 obtain rfl := items_eq hl hvs
 rw[if_neg (by omega)]
 refine wpAny_bind (wpAny_holding (Wk.done _ _ _ (by rw[Nat.zero_add]at st₂;exact st₂) fun h₃ tk₃ k₃=>?_))
 simp only[Option.isSome_none,Bool.false_eq_true,if_false]
 refine wpAny_pure (q h₃ tk₃ fun b o e=>?_)
 have hb: b∉[I] := fun hm=>by rw[List.mem_singleton]at hm;subst hm;rw[hI]at e;cases e
 exact k₃ b o hb (k₂ b o hb (k₁ b o e))
theorem unpack_rule (hh: cx.A.handled=none) (G: Good W cx g σ s) {d: DV} {v: Value} {l: List DV} (r: Rep g d v) (h: seqV σ.mu d=some l) {k: Nat} (hk: k=l.length) {Q: List Value->Shared->Prop}
  (q: ∀ vs s',Good W cx g σ s'->RepL g l vs->Q vs s'): wpAny W.M cx.A (unpackItems v k none) Q E s := by
 obtain⟨a,o,nn,vs,rfl,ho,hc,hd,rl⟩ := seq_at G r h
 have hlt := Heap.lt_size ho
 rw[hk,rl.length]
 rcases hc with hc|hc
 ·have hL: s.heap.IsList a vs.toArray := ⟨o,ho,hc,nn,hd⟩
  refine unpack_walk (I := s.heap.objs.size) (fp := [s.heap.objs.size,a]) (St' := fun i h=>h.IsListIter s.heap.objs.size a i/\h.IsList a vs.toArray) (fun Q' hq=>?_) (fun Q' hq=>wpAny_pyIter_list hL (hq _ ⟨⟨_,Heap.get?_push_size _ rfl,rfl,rfl⟩,hL.push _⟩ fun b o e=>Heap.get?_push_of_some _ e)) (fresh_none _)
   (by have := Walks.list (prog := W.prog) (w := W.w) (A := cx.A) hh s.heap.objs.size a (Nat.ne_of_lt hlt) vs.toArray;simpa using this) fun h' tk hk=>q vs _ (G.grow (t := tk) hk) rl
  unfold notIterableAtAll
  exact wpAny_bind (wpAny_specialOf hL.typeIs slot_list_iter.lookup (wpAny_pure hq))
 ·have hT: s.heap.IsTuple a vs.toArray := ⟨o,ho,hc,nn,hd⟩
  refine unpack_walk (I := s.heap.objs.size) (fp := [s.heap.objs.size,a]) (St' := fun i h=>h.IsTupleIter s.heap.objs.size a i/\h.IsTuple a vs.toArray) (fun Q' hq=>?_) (fun Q' hq=>wpAny_pyIter_tuple hT (hq _ ⟨⟨_,Heap.get?_push_size _ rfl,rfl,rfl⟩,hT.push _⟩ fun b o e=>Heap.get?_push_of_some _ e)) (fresh_none _)
   (by have := Walks.tuple (prog := W.prog) (w := W.w) (A := cx.A) hh s.heap.objs.size a (Nat.ne_of_lt hlt) vs.toArray;simpa using this) fun h' tk hk=>q vs _ (G.grow (t := tk) hk) rl
  unfold notIterableAtAll
  exact wpAny_bind (wpAny_specialOf hT.typeIs F.slot_tuple_iter.lookup (wpAny_pure hq))
theorem assign_rule (hh: cx.A.handled=none) {f: Str->Option Nat} (S: Stores W cx f) (G: Good W cx g σ s) {t: PySem.Expr} {ns: CN} (ht: cTgt f t=some ns) {d: DV} {v: Value} (r: Rep g d v) {l: Loc} (hb: bindN σ.loc σ.mu ns d=some l) {Q: Unit->Shared->Prop}
  (q: ∀ s',Good W cx g ⟨l,σ.mu⟩ s'->Q () s'): wpAny W.M cx.A (assign t cx.env v) Q E s := by
 unfold cTgt at ht
 split at ht
 ·rename_i x p
  split at ht
  ·rename_i y hy
   cases ht
   simp only[bindN,Option.some.injEq]at hb
   subst hb
   show wpAny _ _ (do standAt p;bindName cx.env x v) _ _ _
   exact wpAny_bind (wpAny_standAt (S E σ g s x y d v Q hy G r q))
  ·cases ht
 ·rename_i es k p
  split at ht
  ·rename_i xs hx
   split at ht
   ·cases ht
    simp only[bindN]at hb
    split at hb
    ·rename_i ds hds
     split at hb
     ·rename_i hl
      cases hb
      have hl' := Nat.eq_of_beq_eq_true hl
      obtain⟨e1,e2⟩ := names_eachN (env := cx.env) hx
      show wpAny _ _ (do standAt p;unpack v (assignEach es cx.env)) _ _ _
      refine wpAny_bind (wpAny_standAt ?_)
      unfold unpack
      rw[e1,e2]
      refine wpAny_bind (wpAny_holding (unpack_rule hh G r hds hl' fun vs s' G' rs=>?_))
      exact store_names S hx rs hl' G' q
     ·cases hb
    ·cases hb
   ·cases ht
  ·cases ht
 ·cases ht
end
end
section
section
variable {W: Wd} {too: Addr} {T: Tb} {n: Nat} {cx: Cx} {X: DV->St->Prop} {σ: St} {g g': Hp} {m: Mt} {s s': Shared} {E: Value->Shared->Prop}
structure Free (cx: Cx) (g: Hp) (m: Mt) (I: Addr): Prop where
 fg: g I=none
 fm: m I=none
 fk: cx.kp I=none
 fl: I≠cx.env.locals
 fc: ∀ x,(x,I)∉cx.env.cells
theorem Good.free (G: Good W cx g σ s) {I: Addr} (h: s.heap.get? I=none): Free cx g σ.mu I := by
 refine⟨G.sim.gnone h,G.sim.mnone h,G.sim.knone h,fun e=>?_,fun x hx=>?_⟩
 ·subst e
  obtain⟨⟨mm,⟨oL,es,ep,hLo,_⟩,_⟩,_⟩ := G.frm
  rw[hLo]at h;cases h
 ·obtain⟨_,_,_,v,o,ho,_⟩ := G.frm.capart x I hx
  rw[ho]at h;cases h
theorem Good.freeN (G: Good W cx g σ s): Free cx g σ.mu s.heap.objs.size := G.free (fresh_none _)
theorem Kpt.other {o: Obj} {x y: Option Obj} (k: Kpt o x) (h: ∀ o',x=some o'->y=some o'): Kpt o y := by
 rcases k with q|⟨hd,sl,q⟩
 ·exact .inl (h _ q)
 ·exact .inr ⟨hd,sl,h _ q⟩
theorem Good.upd (G: Good W cx g σ s) {I: Addr} (F: Free cx g σ.mu I) {h': Heap} {t: Nat} (hk: ∀ b o,b≠I->s.heap.get? b=some o->h'.get? b=some o): Good W cx g σ {s with heap := h',toks := t} := by
 obtain⟨⟨mm,hns,hv⟩,hc,⟨a1,a2,a3⟩,ca⟩ := G.frm
 refine⟨G.ext,⟨G.sim.base,fun b o h=>hk b o (fun e=>by subst e;rw[F.fg]at h;cases h) (G.sim.frz b o h),fun b o h=>?_,fun b o h=>?_,G.sim.mabove,G.sim.gens,G.sim.os⟩,⟨⟨mm,hns.at' (hk _ · (Ne.symm F.fl)),hv⟩,fun x d ok hl hkd=>?_,⟨a1,a2,a3⟩,fun x c hxc=>?_⟩,G.above⟩
 ·obtain⟨k1,k2⟩ := G.sim.kept b o h
  exact⟨k1,k2.other fun o' e=>hk b o' (fun e=>by subst e;rw[F.fk]at h;cases h) e⟩
 ·obtain⟨h1,h2,ob,h3,h4⟩ := G.sim.muts b o h
  exact⟨h1,h2,ob,hk _ _ (fun e=>by subst e;rw[F.fm]at h;cases h) h3,h4⟩
 ·obtain⟨c,v,h1,⟨o,h2,h2'⟩,h3⟩ := hc x d ok hl hkd
  exact⟨c,v,h1,⟨o,hk _ _ (fun e=>by subst e;exact F.fc x (mem_of_lookup h1)) h2,h2'⟩,h3⟩
 ·obtain⟨c1,c2,c3,v,o,ho,hd⟩ := ca x c hxc
  exact⟨c1,c2,c3,v,o,hk _ _ (fun e=>by subst e;exact F.fc x hxc) ho,hd⟩
def Cx.keep (cx: Cx) (I: Addr) (o: Obj): Cx := {cx with kp := gadd cx.kp I o}
theorem Good.keep (G: Good W cx g σ s) {I: Addr} {o: Obj} (F: Free cx g σ.mu I) (ho: s.heap.get? I=some o): Good W (cx.keep I o) g σ s := by
 refine⟨G.ext,⟨G.sim.base,G.sim.frz,fun b o' h=>?_,fun b o' h=>?_,G.sim.mabove,G.sim.gens,G.sim.os⟩,⟨G.frm.ns,G.frm.cells,⟨G.frm.apart.1,?_,G.frm.apart.2.2⟩,G.frm.capart⟩,G.above⟩
 ·by_cases e: b=I
  ·subst e
   rw[show(cx.keep b o).kp b=some o from gadd_self _ _ _]at h;cases h
   exact⟨F.fg,.inl ho⟩
  ·rw[show(cx.keep I o).kp b=cx.kp b from gadd_ne _ _ e]at h
   exact G.sim.kept b o' h
 ·obtain⟨h1,h2,h3⟩ := G.sim.muts b o' h
  refine⟨h1,?_,h3⟩
  show gadd cx.kp I o b=none
  rw[gadd_ne _ _ (fun e=>by subst e;rw[F.fm]at h;cases h)];exact h2
 ·show gadd cx.kp I o cx.env.locals=none
  rw[gadd_ne _ _ (Ne.symm F.fl)];exact G.frm.apart.2.1
theorem Good.unkeep {I: Addr} {o: Obj} (hk: cx.kp I=none) (G: Good W (cx.keep I o) g σ s): Good W cx g σ s/\g I=none/\σ.mu I=none/\Kpt o (s.heap.get? I) := by
 have hI: (cx.keep I o).kp I=some o := gadd_self _ _ _
 obtain⟨k1,k2⟩ := G.sim.kept I o hI
 have old: ∀ b o',cx.kp b=some o'->(cx.keep I o).kp b=some o' := fun b o' h=>by
  show gadd cx.kp I o b=_
  rw[gadd_ne _ _ (fun e=>by subst e;rw[hk]at h;cases h)];exact h
 refine⟨⟨G.ext,⟨G.sim.base,G.sim.frz,fun b o' h=>G.sim.kept b o' (old b o' h),fun b o' h=>?_,G.sim.mabove,G.sim.gens,G.sim.os⟩,⟨G.frm.ns,G.frm.cells,⟨G.frm.apart.1,?_,G.frm.apart.2.2⟩,G.frm.capart⟩,G.above⟩,k1,G.sim.kmu hI,k2⟩
 ·obtain⟨h1,h2,h3⟩ := G.sim.muts b o' h
  refine⟨h1,?_,h3⟩
  cases e: cx.kp b with
  |none=>rfl
  |some q=>rw[old b q e]at h2;cases h2
 ·cases e: cx.kp cx.env.locals with
  |none=>rfl
  |some q=>exact absurd ((old _ q e).symm.trans G.frm.apart.2.1) (by simp)
theorem CxOk.keep (C: CxOk n cx) {I: Addr} {o: Obj} (hk: cx.kp I=none): CxOk n (cx.keep I o) where
 env := C.env
 room := C.room
 kinds := C.kinds
 frames := by
  obtain⟨l,hl,h⟩ := C.frames
  refine⟨l,hl,fun env he=>?_⟩
  obtain⟨h1,L,h2,h3⟩ := h env he
  refine⟨h1,L,h2,?_⟩
  rcases h3 with e|⟨o',ho',hd⟩
  ·exact .inl e
  ·refine .inr ⟨o',?_,hd⟩
   show gadd cx.kp I o L=_
   rw[gadd_ne _ _ (fun e=>by subst e;rw[hk]at ho';cases ho')];exact ho'
theorem StOk.keep (S: StOk cx) {I: Addr} {o: Obj} (hI: ∀ x,(x,I)∉cx.env.cells): StOk (cx.keep I o) where
 nofree := S.nofree
 cellAt := S.cellAt
 top := S.top
 nodup := S.nodup
 own x c h := by
  show gadd cx.kp I o c=none
  rw[gadd_ne _ _ (fun e=>by subst e;exact hI x h)];exact S.own x c h
inductive ItAt (g: Hp) (m: Mt) (d: DV) (xs: List DV) (I: Addr) (i: Nat) (h: Heap): Prop
 |lst {l: Addr} (r: Rep g d (.ref l)) (e: asL m d=some xs) (ne: l≠I) (it: h.IsListIter I l i)
 |tup {t: Addr} (r: Rep g d (.ref t)) (e: d=.tup xs) (ne: t≠I) (it: h.IsTupleIter I t i)
 |rng {a b c: Int} (e: d=.rng a b c) (ex: xs=upTo (rngLen a b c) a c) (it: IsRangeIter h I (a+(i: Nat) * c) (((rngLen a b c: Nat): Int)-(i: Nat)) c)
theorem upTo_length: ∀(k: Nat) (a c: Int),(upTo k a c).length=k
 |0,_,_=>rfl
 |k+1,a,c=>by simp[upTo,upTo_length k]
theorem upTo_get: ∀(k: Nat) (a c: Int) (i: Nat),i<k->(upTo k a c)[i]?=some (.int (a+i * c))
 |0,_,_,_,h=>by omega
 |k+1,a,c,0,_=>by simp[upTo]
 |k+1,a,c,i+1,h=>by
  simp only[upTo,List.getElem?_cons_succ]
  rw[upTo_get k (a+c) c i (by omega)]
  congr 2
  push_cast
  rw[Int.add_mul,Int.one_mul]
  omega
theorem ItAt.obj {d: DV} {xs: List DV} {I: Addr} {i: Nat} {h: Heap} (it: ItAt g m d xs I i h): ∃ o,h.get? I=some o/\isD o=false := by
 cases it with
 |lst _ _ _ it=>obtain⟨o,ho,_,hd⟩ := it;exact⟨o,ho,by unfold isD;rw[hd]⟩
 |tup _ _ _ it=>obtain⟨o,ho,_,hd⟩ := it;exact⟨o,ho,by unfold isD;rw[hd]⟩
 |rng _ _ it=>exact⟨_,it,rfl⟩
theorem ItAt.back {d: DV} {xs: List DV} {I: Addr} {i: Nat} {h h': Heap} {m': Mt} (it: ItAt g m d xs I i h) (e: Ext g g') (hg: guardL d xs ⟨[],m'⟩) (ho: h'.get? I=h.get? I): ItAt g' m' d xs I i h' := by
 cases it with
 |lst r e' ne it=>
  refine .lst (r.mono e) ?_ ne ?_
  ·cases d with
   |lst l=>exact e'
   |ref a=>simp only[guardL]at hg;simp only[asL,hg]
   |_=>simp[asL]at e'
  ·obtain⟨o,h1,h2⟩ := it;exact⟨o,ho.trans h1,h2⟩
 |tup r e' ne it=>exact .tup (r.mono e) e' ne (by obtain⟨o,h1,h2⟩ := it;exact⟨o,ho.trans h1,h2⟩)
 |rng e' ex it=>exact .rng e' ex (ho.trans it)
theorem it_item (hh: cx.A.handled=none) (G: Good W cx g σ s) {d: DV} {xs: List DV} {I: Addr} {i: Nat} (F: Free cx g σ.mu I) (it: ItAt g σ.mu d xs I i s.heap) {x: DV} (hx: xs[i]?=some x) {Q: Option Value->Shared->Prop}
  (q: ∀ v s',Good W cx g σ s'->ItAt g σ.mu d xs I (i+1) s'.heap->Rep g x v->(∀ b,b∉[I]->∀ o,s.heap.get? b=some o->s'.heap.get? b=some o)->Q (some v) s'): wpAny W.M cx.A (pyNext (.ref I)) Q E s := by
 have hi: i<xs.length := (List.getElem?_eq_some_iff.mp hx).1
 cases it with
 |lst r e ne it=>
  obtain⟨a,n,vs,e1,ho,rv⟩ := list_at G r e
  cases e1
  obtain⟨v,hv,rx⟩ := rv.get hx
  have hL := PySem.IsL.isList (n := n) ho
  refine(Walks.list hh I _ ne vs.toArray).item i s _ _ (by simp;rw[<-rv.length];exact hi) ⟨it,hL⟩ fun w h' tk hw st hk=>?_
  have: w=v := by simp at hw;rw[hw]at hv;simpa using hv
  subst this
  exact q _ _ (G.upd F fun b o hb=>hk b o (by simpa using hb)) (.lst r e ne st.1) rx fun b hb o=>hk b o hb
 |tup r e ne it=>
  subst e
  cases r with
  |tup ht hc hd rv=>
   obtain⟨v,hv,rx⟩ := rv.get hx
   have hT: s.heap.IsTuple _ _ := ⟨_,G.sim.frz _ _ ht,hc,_,hd⟩
   refine(Walks.tuple hh I _ ne _).item i s _ _ (by simp;rw[<-rv.length];exact hi) ⟨it,hT⟩ fun w h' tk hw st hk=>?_
   have: w=v := by simp at hw;rw[hw]at hv;simpa using hv
   subst this
   exact q _ _ (G.upd F fun b o hb=>hk b o (by simpa using hb)) (.tup (.tup ht hc hd rv) rfl ne st.1) rx fun b hb o=>hk b o hb
 |rng e ex it=>
  subst e;subst ex
  rename_i a b c
  rw[upTo_length]at hi
  rw[upTo_get _ _ _ _ hi]at hx
  cases hx
  refine(Walks.range hh I a c (rngLen a b c)).item i s _ _ hi it fun w h' tk hw st hk=>?_
  obtain⟨t,rfl⟩ := hw
  exact q _ _ (G.upd F fun b o hb=>hk b o (by simpa using hb)) (.rng rfl rfl st) (.int _ _) fun b hb o=>hk b o hb
theorem it_done (hh: cx.A.handled=none) (G: Good W cx g σ s) {d: DV} {xs: List DV} {I: Addr} (F: Free cx g σ.mu I) (it: ItAt g σ.mu d xs I xs.length s.heap) {Q: Option Value->Shared->Prop}
  (q: ∀ s',Good W cx g σ s'->(∀ b,b∉[I]->∀ o,s.heap.get? b=some o->s'.heap.get? b=some o)->Q none s'): wpAny W.M cx.A (pyNext (.ref I)) Q E s := by
 cases it with
 |lst r e ne it=>
  obtain⟨a,n,vs,e1,ho,rv⟩ := list_at G r e
  cases e1
  have hL := PySem.IsL.isList (n := n) ho
  have hz: xs.length=vs.toArray.size := by simp;exact rv.length
  rw[hz]at it
  exact(Walks.list hh I _ ne vs.toArray).done s _ _ ⟨it,hL⟩ fun h' tk hk=>q _ (G.upd F fun b o hb=>hk b o (by simpa using hb)) fun b hb o=>hk b o hb
 |tup r e ne it=>
  subst e
  cases r with
  |tup ht hc hd rv=>
   rename_i vs
   have hT: s.heap.IsTuple _ _ := ⟨_,G.sim.frz _ _ ht,hc,_,hd⟩
   have hz: xs.length=vs.toArray.size := by simp;exact rv.length
   rw[hz]at it
   exact(Walks.tuple hh I _ ne _).done s _ _ ⟨it,hT⟩ fun h' tk hk=>q _ (G.upd F fun b o hb=>hk b o (by simpa using hb)) fun b hb o=>hk b o hb
 |rng e ex it=>
  subst e;subst ex
  rename_i a b c
  rw[upTo_length]at it
  exact(Walks.range hh I a c (rngLen a b c)).done s _ _ it fun h' tk hk=>q _ (G.upd F fun b o hb=>hk b o (by simpa using hb)) fun b hb o=>hk b o hb
theorem range_small {a b c: Int} (ha: bigI a) (hb: bigI b) (hc: c=1\/c=-1): Builtin.Range.small a b c=true := by
 unfold bigI at ha hb
 rcases hc with rfl|rfl
 ·exact small_one (by omega) (by omega) (by omega) (by omega)
 ·unfold Builtin.Range.small Builtin.Range.rangeSize
  simp only[Builtin.Range.rangeFitsLong,Bool.and_eq_true,Bool.or_eq_true,decide_eq_true_eq,beq_iff_eq]
  split<;>simp<;>omega
theorem it_start (hh: cx.A.handled=none) (G: Good W cx g σ s) {d: DV} {v: Value} {xs: List DV} (r: Rep g d v) (h: iterL σ.mu d=some xs) (hr: rngOk d) {Q: Value->Shared->Prop}
  (q: ∀ s',Good W cx g σ s'->s'.heap.objs.size=s.heap.objs.size+1->Free cx g σ.mu s.heap.objs.size->ItAt g σ.mu d xs s.heap.objs.size 0 s'.heap->Q (.ref s.heap.objs.size) s'): wpAny W.M cx.A (pyIter v) Q E s := by
 have F := G.freeN
 have push: ∀ o: Obj,Good W cx g σ {s with heap := s.heap.push o} := fun o=>by
  have := G.grow (h' := s.heap.push o) (t := s.toks) fun b o' e=>Heap.get?_push_of_some _ e
  exact this
 by_cases hR: ∃ a b c,d=.rng a b c
 ·obtain⟨a,b,c,rfl⟩ := hR
  simp only[iterL,Option.some.injEq]at h
  subst h
  obtain⟨h1,h2,h3⟩ := hr
  cases r with
  |rng hg=>
   refine wpAny_pyIter_range (G.sim.frz _ _ hg) (range_small h1 h2 h3) (q _ (push _) (Heap.size_push ..) F (.rng rfl rfl ?_))
   show Heap.get? _ _=_
   rw[Heap.get?_push_size _ rfl]
   have: ((rngLen a b c: Nat): Int)=Builtin.Range.rangeSize a b c := by
    unfold rngLen
    have: 0<=Builtin.Range.rangeSize a b c := by
     rcases h3 with rfl|rfl
     ·rw[rangeSize_one];split<;>omega
     ·unfold Builtin.Range.rangeSize;simp only[show ¬ ((-1: Int)>0) by decide,if_false];split<;>simp<;>omega
    omega
   rw[this]
   simp[rawInt]
 ·have h: seqV σ.mu d=some xs := by cases d<;>first|exact h|exact absurd ⟨_,_,_,rfl⟩ hR
  obtain⟨a,o,nn,vs,rfl,ho,hc,hd,rl⟩ := seq_at G r h
  have hlt := Heap.lt_size ho
  cases d with
  |tup l=>
   simp only[seqV,Option.some.injEq]at h
   subst h
   cases r with
   |tup hg hc' hd' rl'=>
    refine wpAny_pyIter_tuple (items := _) ⟨_,G.sim.frz _ _ hg,hc',_,hd'⟩ (q _ (push _) (Heap.size_push ..) F (.tup (.tup hg hc' hd' rl') rfl (Nat.ne_of_lt hlt) ⟨_,Heap.get?_push_size _ rfl,rfl,rfl⟩))
  |lst l=>
   have h': asL σ.mu (.lst l)=some xs := h
   obtain⟨a',n',vs',e1,ho',rv⟩ := list_at G r h'
   cases e1
   exact wpAny_pyIter_list (PySem.IsL.isList (n := n') ho') (q _ (push _) (Heap.size_push ..) F (.lst r h' (Nat.ne_of_lt hlt) ⟨_,Heap.get?_push_size _ rfl,rfl,rfl⟩))
  |ref l=>
   have h': asL σ.mu (.ref l)=some xs := h
   obtain⟨a',n',vs',e1,ho',rv⟩ := list_at G r h'
   cases e1
   exact wpAny_pyIter_list (PySem.IsL.isList (n := n') ho') (q _ (push _) (Heap.size_push ..) F (.lst r h' (Nat.ne_of_lt hlt) ⟨_,Heap.get?_push_size _ rfl,rfl,rfl⟩))
  |_=>simp[seqV,asL]at h
theorem go_noop {d: DV} {xs: List DV} {I: Addr} {i: Nat} (it: ItAt g m d xs I i s.heap) {t: PySem.Expr} {v: Value} {A: Around} {Q: Unit->Shared->Prop} (q: Q () s): wpAny W.M A (letOwnedTupleGo t (.ref I) v) Q E s := by
 have notIn: ∀(o: Obj) (nm: String) (vs: Array Value),s.heap.get? I=some o->o.cls=.type nm->o.data=.fields vs->["enumerate","zip","dict_itemiterator","dict_reverseitemiterator","odict_iterator","itertools.zip_longest","itertools.pairwise"].contains nm=false->
   wpAny W.M A (letOwnedTupleGo t (.ref I) v) Q E s := by
  intro o nm vs ho hc hd hn
  unfold letOwnedTupleGo
  split
  ·cases v with
   |ref a=>
    refine wpAny_bind (wpAny_load ho ?_)
    rw[hc,hd]
    show wpAny _ A (if(_&&_)=true then _ else _) Q E s
    rw[if_neg (by rw[hn];simp)]
    exact wpAny_pure q
   |_=>exact wpAny_pure q
  ·cases v with
   |ref a=>
    refine wpAny_bind (wpAny_load ho ?_)
    rw[hc,hd]
    show wpAny _ A (if(_&&_)=true then _ else _) Q E s
    rw[if_neg (by rw[hn];simp)]
    exact wpAny_pure q
   |_=>exact wpAny_pure q
  ·exact wpAny_pure q
 cases it with
 |lst _ _ _ it=>obtain⟨o,ho,hc,hd⟩ := it;exact notIn o _ _ ho hc hd (by decide)
 |tup _ _ _ it=>obtain⟨o,ho,hc,hd⟩ := it;exact notIn o _ _ ho hc hd (by decide)
 |rng _ _ it=>exact notIn _ _ _ it rfl rfl (by decide)
end
end
section
def PostS (W: Wd) (cx: Cx) (g: Hp) (Q: Option DV->St->Prop) (f: Flow) (s': Shared): Prop := match f with
 |.next=>∃ g' σ',Ext g g'/\Good W cx g' σ' s'/\Q none σ'
 |.ret v=>∃ g' σ' d,Ext g g'/\Good W cx g' σ' s'/\Rep g' d v/\Q (some d) σ'
 |_=>False
def EvS (W: Wd) (too: Addr) (cx: Cx) (t: Sem Flow) (Q: Option DV->St->Prop) (X: DV->St->Prop) (σ: St): Prop :=
 ∀ g s,Good W cx g σ s->wpAny W.M cx.A t (PostS W cx g Q) (EX W too cx X) s
section
variable {W: Wd} {too: Addr} {T: Tb} {n: Nat} {cx: Cx} {X: DV->St->Prop} {σ: St} {g g': Hp} {m: Mt} {s s': Shared} {E: Value->Shared->Prop}
theorem PostS.from {Q: Option DV->St->Prop} {f: Flow} (h: PostS W cx g' Q f s) (e: Ext g g'): PostS W cx g Q f s := by
 cases f with
 |next=>obtain⟨a,b,c,d⟩ := h;exact⟨a,b,e.trans c,d⟩
 |ret v=>obtain⟨a,b,c,d,r⟩ := h;exact⟨a,b,c,e.trans d,r⟩
 |brk=>exact h
 |cont=>exact h
theorem endsS {Q: Option DV->St->Prop}: Ends (fun g=>PostS W cx g Q) := ⟨fun e h=>h.from e⟩
theorem EvS.mono {t: Sem Flow} {Q Q': Option DV->St->Prop} (h: EvS W too cx t Q X σ) (k: ∀ d σ,Q d σ->Q' d σ): EvS W too cx t Q' X σ := fun g s G=>
 wpAny_mono (h g s G) (fun f _ p=>by
  cases f with
  |next=>obtain⟨a,b,c,d,q⟩ := p;exact⟨a,b,c,d,k _ _ q⟩
  |ret v=>obtain⟨a,b,c,d,e,r,q⟩ := p;exact⟨a,b,c,d,e,r,k _ _ q⟩
  |brk=>exact p
  |cont=>exact p) fun _ _ x=>x
theorem ss_nil {Q: Option DV->St->Prop} (h: Q none σ): EvS W too cx (execs [] cx.env) Q X σ := fun g s G=>wpAny_execs_nil ⟨g,σ,Ext.rfl,G,h⟩
theorem ss_cons {a: Stmt} {r: List Stmt} {Q: Option DV->St->Prop} (h: EvS W too cx (exec a cx.env) (fun f σ=>match f with|none=>EvS W too cx (execs r cx.env) Q X σ|some d=>Q (some d) σ) X σ): EvS W too cx (execs (a::r) cx.env) Q X σ := fun g s G=>
 wpAny_execs_cons (wpAny_mono (h g s G) (fun f s' p=>by
  cases f with
  |next=>obtain⟨g',σ',e,G',q⟩ := p;exact wpAny_mono (q g' s' G') (fun _ _ p=>p.from e) fun _ _ x=>x
  |ret v=>exact p
  |brk=>exact p
  |cont=>exact p) fun _ _ x=>x)
theorem s_if {t: PySem.Expr} {a b: List Stmt} {pos: Pos} {Q: Option DV->St->Prop} (h: EvG W too cx (isTrue t cx.env (eval t cx.env)) (fun r σ=>match r with|true=>EvS W too cx (execs a cx.env) Q X σ|false=>EvS W too cx (execs b cx.env) Q X σ) X σ) :
  EvS W too cx (exec (.If t a b pos) cx.env) Q X σ := fun g s G=>
 wpAny_If (wpAny_mono (h g s G) (fun r s' ⟨g',σ',e,G',q⟩=>by
  cases r with
  |true=>exact wpAny_mono (q g' s' G') (fun _ _ p=>p.from e) fun _ _ x=>x
  |false=>exact wpAny_mono (q g' s' G') (fun _ _ p=>p.from e) fun _ _ x=>x) fun _ _ x=>x)
theorem s_ret {e: PySem.Expr} {pos: Pos} {Q: Option DV->St->Prop} (h: EvE W too cx (eval e cx.env) (fun d σ=>Q (some d) σ) X σ): EvS W too cx (exec (.Return (some e) pos) cx.env) Q X σ := fun g s G=>
 wpAny_Return_some (wpAny_mono (h g s G) (fun v s' ⟨g',σ',d,e,G',r,q⟩=>⟨g',σ',d,e,G',r,q⟩) fun _ _ x=>x)
theorem swaps_no {v: PySem.Expr} (h: isComp v=false) (t: Option PySem.Expr) (k: Nat) (env: Env): swapsWith v t k env=pure false := by
 cases v<;>first|rfl|(simp[isComp]at h)
theorem not_inter {env: Env} (h: env.scope.kind=.function): interactive env=false := by unfold interactive;rw[h];rfl
theorem s_expr (EO: EnvOk cx.env) {e: PySem.Expr} {pos: Pos} (hc: isComp e=false) {Q: Option DV->St->Prop} (h: EvE W too cx (eval e cx.env) (fun _ σ=>Q none σ) X σ): EvS W too cx (exec (.Expr e pos) cx.env) Q X σ := fun g s G=>by
 rw[arm_exec_Expr,not_inter EO.kind,swaps_no hc]
 refine wpAny_bind (wpAny_standAt ?_)
 simp only[Bool.false_eq_true,if_false,pure_bind]
 exact thenE endsS G h fun g' σ' s' d v e' G' rd hd=>wpAny_dropValue ⟨g',σ',Ext.rfl,G',hd⟩
theorem s_asg {t v: PySem.Expr} {pos: Pos} (hc: isComp v=false) (hs: swappedStores [t] v cx.env=pure none) {Q: Option DV->St->Prop}
  (h: EvE W too cx (eval v cx.env) (fun d σ=>∀ g s w,Good W cx g σ s->Rep g d w->wpAny W.M cx.A (assign t cx.env w) (PostG W cx g fun _ σ=>Q none σ) (EX W too cx X) s) X σ)
  (ht: assignEach [t] cx.env=[(false,assign t cx.env)]): EvS W too cx (exec (.Assign [t] v pos) cx.env) Q X σ := fun g s G=>by
 rw[arm_exec_Assign]
 refine wpAny_bind (wpAny_standAt ?_)
 show wpAny _ _ (swapsWith v (some t) pos.line cx.env >>= _) _ _ _
 rw[swaps_no hc,pure_bind]
 simp only[Bool.false_eq_true,if_false]
 refine thenE endsS G h fun g' σ' s' d w e' G' rd hd=>?_
 rw[hs,pure_bind,ht]
 unfold assignStores
 refine wpAny_bind (wpAny_mono (hd g' s' w G' rd) (fun _ s'' ⟨g'',σ'',e,G'',q⟩=>wpAny_pure ⟨g'',σ'',e,G'',q⟩) fun _ _ x=>x)
theorem a_names (hh: cx.A.handled=none) {f: Str->Option Nat} (S: Stores W cx f) {t: PySem.Expr} {ns: CN} (ht: cTgt f t=some ns) {d: DV} {Q: Option DV->St->Prop} (h: match bindN σ.loc σ.mu ns d with|some l=>Q none ⟨l,σ.mu⟩|none=>False) :
  ∀ g s w,Good W cx g σ s->Rep g d w->wpAny W.M cx.A (assign t cx.env w) (PostG W cx g fun _ σ=>Q none σ) (EX W too cx X) s := fun g s w G r=>by
 split at h
 ·rename_i l hl
  exact assign_rule hh S G ht r hl fun s' G'=>G'.postG h
 ·exact h.elim
theorem a_attr (WO: W.Ok) (TO: TbOk W T) {o: PySem.Expr} {x: Str} {pos: Pos} (hx: okc x=true) {d: DV} {K: St->Prop} (h: EvE W too cx (eval o cx.env) (fun ov σ=>setAt T ov (enc x) d K σ) X σ) :
  ∀ g s w,Good W cx g σ s->Rep g d w->wpAny W.M cx.A (assign (.Attribute o x pos) cx.env w) (PostG W cx g fun _ σ=>K σ) (EX W too cx X) s := fun g s w G r=>by
 show wpAny _ _ (do
  let ov <-holding [w] (eval o cx.env)
  standAt pos.atName
  holding [w,ov] (setAttr ov x w)
  release [w,ov] []) _ _ _
 refine thenE endsG G (ev_holding h) fun g' σ' s' ov v e G' rv hd=>?_
 refine wpAny_bind (wpAny_standAt (wpAny_bind (wpAny_holding (wpAny_mono (setat_rule WO TO G' hx rv (r.mono e) hd) (fun _ s'' p=>release_ p) fun _ _ x=>x))))
theorem a_sub (hu: cx.A.units+64<cLine) {o i: PySem.Expr} {pos: Pos} {d: DV} {K: St->Prop} (h: EvE W too cx (eval o cx.env) (fun ov σ=>EvE W too cx (eval i cx.env) (fun iv σ=>setSub ov iv d K σ) X σ) X σ) :
  ∀ g s w,Good W cx g σ s->Rep g d w->wpAny W.M cx.A (assign (.Subscript o i pos) cx.env w) (PostG W cx g fun _ σ=>K σ) (EX W too cx X) s := fun g s w G r=>by
 rw[arm_assign_Subscript]
 refine thenE endsG G (ev_holding h) fun g' σ' s' ov v e G' rv hd=>?_
 refine thenE endsG G' (ev_holding hd) fun g'' σ'' s'' iv v' e' G'' ri hd'=>?_
 refine wpAny_bind (wpAny_standAt (wpAny_bind (wpAny_holding (wpAny_mono (setsub_rule hu G'' (rv.mono e') ri ((r.mono e).mono e') hd') (fun _ s3 p=>release_ p) fun _ _ x=>x))))
theorem swapped_other {t v: PySem.Expr} (h: (∀ ts k p,t≠.Tuple ts k p)/\(∀ ts p,t≠.List ts p)\/∀ vs k p,v≠.Tuple vs k p) (env: Env): swappedStores [t] v env=pure none := by
 unfold swappedStores
 split
 ·rename_i heq
  split at heq
  ·rename_i q1
   rcases h with h|h
   ·simp only[List.cons.injEq,and_true]at q1;exact absurd q1 (h.1 _ _ _)
   ·exact absurd rfl (h _ _ _)
  ·rename_i q1
   rcases h with h|h
   ·simp only[List.cons.injEq,and_true]at q1;exact absurd q1 (h.2 _ _)
   ·exact absurd rfl (h _ _ _)
  ·cases heq
 ·rfl
theorem ite_some {α: Type} {c: Prop} [Decidable c] {a: Option α} {l: α} (h: (if c then a else none)=some l): c/\a=some l := by
 by_cases q: c
 ·rw[if_pos q]at h;exact⟨q,h⟩
 ·rw[if_neg q]at h;cases h
theorem eraseDups_nodup {α: Type} [BEq α] [LawfulBEq α]: ∀(k: Nat) {l: List α},l.length<=k->l.Nodup->l.eraseDups=l
 |_,[],_,_=>by simp
 |0,_::_,h,_=>by simp at h
 |k+1,a::r,h,nd=>by
  rw[List.eraseDups_cons]
  rw[List.nodup_cons]at nd
  have: r.filter (fun b=>!b==a)=r := by
   rw[List.filter_eq_self]
   intro b hb
   simp
   intro e;subst e;exact nd.1 hb
  rw[this,eraseDups_nodup k (by simpa using h) nd.2]
theorem names_of {cx: Cx} (hk: KindsOk cx.env cx.kd) {k: Nat}: ∀{ts: List PySem.Expr} {l: List Nat},cNames (cStoL cx.kd) ts=some l->ts.all (fun u=>u.pos.line==k)=true->
  ∃ ns: List Str,(ts.filterMap fun|.Name id pos=>if cx.env.kindOf id==some .local&&pos.line==k then some id else none|_=>none)=ns/\ns.map enc=l/\ns.length=ts.length/\∀ x∈ns,cStoL cx.kd x=some (enc x)
 |[],l,h,_=>by simp only[cNames,Option.some.injEq]at h;subst h;exact⟨[],rfl,rfl,rfl,fun _ h=>by cases h⟩
 |e::ts,l,h,hl=>by
  obtain⟨x,p,y,ys,rfl,h1,h2,rfl⟩ := cNames_cons h
  rw[List.all_cons,Bool.and_eq_true]at hl
  obtain⟨ns,a,b,c,d⟩ := names_of hk h2 hl.2
  obtain⟨ok,rfl,h0⟩ := cStoL_of h1
  have hkd := (hk x ok).1 h0
  have hp: (p.line==k)=true := hl.1
  refine⟨x::ns,?_,by simp[b],by simp[c],fun z hz=>?_⟩
  ·rw[List.filterMap_cons]
   simp only[hkd,hp,Bool.and_true,beq_self_eq_true,if_true,a]
  ·rcases List.mem_cons.mp hz with rfl|hz
   ·exact h1
   ·exact d z hz
theorem blockFn {env: Env} (h: env.scope.kind=.function): env.blockKind=.function := by unfold Env.blockKind;rw[h];rfl
theorem swapped_some (EO: EnvOk cx.env) (hk: KindsOk cx.env cx.kd) {ts vs: List PySem.Expr} {k k': Nat} {p p': Pos} {l: List Nat} (h: swapsN cx.kd ts vs=some l) (hf: vs.all (foldedForSure 8)=false) :
  ∃ ns: List Str,swappedStores [.Tuple ts k p] (.Tuple vs k' p') cx.env=pure (some ns)/\ns.map enc=l/\ns.length=l.length/\∀ x∈ns,cStoL cx.kd x=some (enc x) := by
 unfold swapsN at h
 obtain⟨hc,h⟩ := ite_some h
 simp only[Bool.and_eq_true,Bool.not_eq_true']at hc
 obtain⟨⟨⟨⟨c1,c2⟩,c3⟩,c4⟩,c5⟩ := hc
 split at h
 case h_2=>cases h
 rename_i l' hl
 split at h
 case isFalse=>cases h
 rename_i hd
 cases h
 cases ts with
 |nil=>simp at c1
 |cons t r=>
  simp only at c3
  have c3': (t::r).all (fun u=>u.pos.line==t.pos.line)=true := by rw[List.all_cons,c3];simp
  obtain⟨ns,e1,e2,e3,e4⟩ := names_of (k := ((t::r).head?.map (fun u: PySem.Expr=>u.pos.line)).getD 0) hk hl c3'
  have nd: ns.Nodup := by
   have := distinct_nodup hd
   rw[<-e2]at this
   exact List.Pairwise.of_map enc (fun a b hab e=>hab (by rw[e])) this
  refine⟨ns,?_,e2,by rw[<-e2];simp,e4⟩
  unfold swappedStores
  show(if(!((t::r).length==2||(t::r).length==3)||vs.length != (t::r).length||cx.env.blockKind != .function)=true then pure none else _)=_
  rw[if_neg (by
   simp only[beq_iff_eq]at c2
   rw[c1,c2,blockFn EO.kind];simp)]
  refine Eq.trans (if_neg (fun q=>Bool.false_ne_true (c4.symm.trans q))) ?_
  dsimp only
  generalize hN: List.filterMap _ (t::r)=N
  obtain rfl: N=ns := hN.symm.trans e1
  rw[if_neg (by rw[eraseDups_nodup _ (Nat.le_refl _) nd,e3];simp)]
  rw[if_neg (by rw[hf];simp)]
  rw[if_neg (by rw[c5];simp)]
theorem store_list {f: Str->Option Nat} (S: Stores W cx f): ∀{ns: List Str} {ds: List DV} {vs: List Value} {σ: St} {s: Shared} {Q: Unit->Shared->Prop},(∀ x∈ns,f x=some (enc x))->RepL g ds vs->ns.length=ds.length->Good W cx g σ s->
  (∀ s',Good W cx g ⟨puts σ.loc (ns.map enc) ds,σ.mu⟩ s'->Q () s')->wpAny W.M cx.A (assignInOrder (ns.map fun x=>bindName cx.env x) vs) Q E s
 |[],ds,vs,σ,s,Q,h,r,hl,G,q=>by
  obtain rfl: ds=[] := List.length_eq_zero_iff.mp hl.symm
  cases r
  exact wpAny_pure (q s G)
 |x::ns,ds,vs,σ,s,Q,h,r,hl,G,q=>by
  cases r with
  |nil=>cases hl
  |cons rd r=>
   refine wpAny_bind (wpAny_holding ?_)
   exact S E σ g s x (enc x) _ _ _ (h x (.head _)) G rd fun s' G'=>store_list S (fun y hy=>h y (.tail _ hy)) r (by simpa using hl) G' q
theorem s_swap (hh: cx.A.handled=none) (EO: EnvOk cx.env) (hk: KindsOk cx.env cx.kd) {ts vs: List PySem.Expr} {k k': Nat} {p p' pos: Pos} {l: List Nat} (hs: swapsN cx.kd ts vs=some l) (hf: vs.all (foldedForSure 8)=false) {Q: Option DV->St->Prop}
  (h: EvE W too cx (eval (.Tuple vs k' p') cx.env) (fun d σ=>match d with|.tup ds=>(match Nat.beq l.length ds.length with|true=>Q none ⟨puts σ.loc l.reverse ds.reverse,σ.mu⟩|false=>False)|_=>False) X σ) :
  EvS W too cx (exec (.Assign [.Tuple ts k p] (.Tuple vs k' p') pos) cx.env) Q X σ := fun g s G=>by
 obtain⟨ns,e1,e2,e3,e4⟩ := swapped_some EO hk (k := k) (k' := k') (p := p) (p' := p') hs hf
 rw[arm_exec_Assign]
 refine wpAny_bind (wpAny_standAt ?_)
 show wpAny _ _ (swapsWith (.Tuple vs k' p') (some (.Tuple ts k p)) pos.line cx.env >>= _) _ _ _
 rw[swaps_no rfl,pure_bind]
 simp only[Bool.false_eq_true,if_false]
 refine thenE endsS G h fun g' σ' s' d w e' G' rd hd=>?_
 rw[e1,pure_bind]
 split at hd
 case h_2=>exact hd.elim
 rename_i ds
 split at hd
 case h_2=>exact hd.elim
 rename_i hl
 have hl' := Nat.eq_of_beq_eq_true hl
 unfold assignStores
 refine wpAny_bind (wpAny_rule (wpAny_bind (unpack_rule hh G' rd (l := ds) rfl (e3.trans hl') fun us s'' G'' rs=>?_)))
 refine wpAny_bind (store_list (stores_L EO hk) (fun x hx=>e4 x (List.mem_reverse.mp hx)) rs.reverse (by simp[e3,hl']) G'' fun s3 G3=>wpAny_pure ?_)
 rw[List.map_reverse,e2]at G3
 exact⟨g',_,Ext.rfl,G3,hd⟩
end
end
section
section
variable {W: Wd} {too: Addr} {T: Tb} {n: Nat} {cx: Cx} {X: DV->St->Prop} {σ: St} {g g': Hp} {m: Mt} {s s': Shared} {E: Value->Shared->Prop}
theorem ex_no {e: Value} (h: EX W too cx no e s): False := by obtain⟨_,_,_,_,_,_,_,x⟩ := h;exact x
theorem plain_iter {it: PySem.Expr} (h: plainIter it=true) (env: Env) (x: Value): foldedSetIterable it env x=pure x := by
 unfold foldedSetIterable
 cases it<;>first|rfl|(simp[plainIter]at h)
theorem for_loop (C: CxOk n cx) (SO: StOk cx) {t: PySem.Expr} {ns: CN} (ht: cTgt (cSto cx.kd) t=some ns) {b: List Stmt} {B: (Option DV->St->Prop)->St->Prop}
  (hb: ∀(I: Addr) (o: Obj),CxOk n (cx.keep I o)->StOk (cx.keep I o)->∀ Q σ,B Q σ->EvS W too (cx.keep I o) (execs b cx.env) Q no σ)
  {Q: Option DV->St->Prop} {d: DV} {xs: List DV} {I: Addr} (G: Good W cx g σ s) (F: Free cx g σ.mu I) (it: ItAt g σ.mu d xs I 0 s.heap)
  (h: forW (guardL d xs) (fun x K σ=>match bindN σ.loc σ.mu ns x with|some loc=>B (fun f σ=>match f with|none=>K σ|some d=>Q (some d) σ) ⟨loc,σ.mu⟩|none=>False) (fun σ=>Q none σ) xs σ) :
  codeAny W.M cx.A (.forLoop t (.ref I) b [] cx.env) (fun r s'=>match r with|.ok f=>PostS W cx g Q f s'|.error e=>cameBackBy W.M cx.A cx.env E e s') s := by
 have hC := C.keep (I := I) (o := default) F.fk
 refine codeAny_forLoop_any (fun k s'=>∃ i g' σ',k=xs.length+1-i/\i<=xs.length/\Ext g g'/\Good W cx g' σ' s'/\g' I=none/\σ'.mu I=none/\ItAt g' σ'.mu d xs I i s'.heap/\
  forW (guardL d xs) (fun x K σ=>match bindN σ.loc σ.mu ns x with|some loc=>B (fun f σ=>match f with|none=>K σ|some d=>Q (some d) σ) ⟨loc,σ.mu⟩|none=>False) (fun σ=>Q none σ) (xs.drop i) σ') ?_ (xs.length+1)
  ⟨0,g,σ,rfl,Nat.zero_le _,Ext.rfl,G,F.fg,F.fm,it,h⟩
 rintro k s' ⟨i,g',σ',rfl,hi,e,G',f1,f2,it',h'⟩
 have F': Free cx g' σ'.mu I := ⟨f1,f2,F.fk,F.fl,F.fc⟩
 by_cases hl: i=xs.length
 ·subst hl
  refine it_done C.room.h G' F' it' fun s₁ G₁ _=>?_
  rw[List.drop_length]at h'
  exact wpAny_execs_nil ⟨g',σ',e,G₁,h'.2⟩
 ·have hi': i<xs.length := by omega
  have hx: xs[i]?=some xs[i] := by simp[hi']
  rw[List.drop_eq_getElem_cons hi']at h'
  obtain⟨_,h'⟩ := h'
  split at h'
  case h_2=>exact h'.elim
  rename_i loc hloc
  refine it_item C.room.h G' F' it' hx fun v s₁ G₁ it₁ rv _=>?_
  refine go_noop it₁ ?_
  obtain⟨oI,hoI,hnd⟩ := it₁.obj
  have G₂ := G₁.keep F' hoI
  have CK := C.keep (I := I) (o := oI) F.fk
  have SK := SO.keep (I := I) (o := oI) F.fc
  refine assign_rule (cx := cx.keep I oI) CK.room.h (stores_S CK.env SK CK.kinds) G₂ ht rv hloc fun s₂ G₃=>?_
  refine wpAny_mono (hb I oI CK SK _ _ h' g' s₂ G₃) (fun f s₃ p=>?_) fun _ _ x=>(ex_no x).elim
  cases f with
  |next=>
   obtain⟨g₄,σ₄,e₄,G₄,q⟩ := p
   obtain⟨G₅,k1,k2,k3⟩ := G₄.unkeep F.fk
   have hob: s₃.heap.get? I=s₁.heap.get? I := by
    rcases k3 with k|⟨k,_⟩
    ·rw[k,hoI]
    ·rw[hnd]at k;cases k
   have hg: guardL d xs ⟨[],σ₄.mu⟩ := by
    have: guardL d xs σ₄ := by
     cases hd: xs.drop (i+1)with
     |nil=>rw[hd]at q;exact q.1
     |cons a r=>rw[hd]at q;exact q.1
    cases d<;>exact this
   exact⟨xs.length+1-(i+1),by omega,i+1,g₄,σ₄,rfl,hi',e.trans e₄,G₅,k1,k2,it₁.back e₄ hg hob,q⟩
  |ret v=>
   obtain⟨g₄,σ₄,d',e₄,G₄,r,q⟩ := p
   exact⟨g₄,σ₄,d',e.trans e₄,(G₄.unkeep F.fk).1,r,q⟩
  |brk=>exact p.elim
  |cont=>exact p.elim
theorem s_for (C: CxOk n cx) (SO: StOk cx) {t it: PySem.Expr} {ns: CN} {pos: Pos} (ht: cTgt (cSto cx.kd) t=some ns) (hp: plainIter it=true) {b: List Stmt} {B: (Option DV->St->Prop)->St->Prop}
  (hb: ∀(I: Addr) (o: Obj),CxOk n (cx.keep I o)->StOk (cx.keep I o)->∀ Q σ,B Q σ->EvS W too (cx.keep I o) (execs b cx.env) Q no σ) {Q: Option DV->St->Prop}
  (h: EvE W too cx (eval it cx.env) (fun d σ=>match iterL σ.mu d with
   |some l=>rngOk d/\forW (guardL d l) (fun x K σ=>match bindN σ.loc σ.mu ns x with|some loc=>B (fun f σ=>match f with|none=>K σ|some d=>Q (some d) σ) ⟨loc,σ.mu⟩|none=>False) (fun σ=>Q none σ) l σ
   |none=>False) X σ): EvS W too cx (exec (.For t it b [] pos) cx.env) Q X σ := fun g s G=>by
 rw[arm_exec_For]
 refine wpAny_bind (wpAny_standAt ?_)
 refine thenE endsS G h fun g' σ' s' d v e G' rd hd=>?_
 rw[plain_iter hp,pure_bind]
 split at hd
 case h_2=>exact hd.elim
 rename_i xs hxs
 obtain⟨hr,hd⟩ := hd
 refine wpAny_bind (wpAny_standAt (wpAny_bind (wpAny_holding (it_start C.room.h G' rd hxs hr fun s₁ G₁ _ F it=>?_))))
 refine wpAny_runOwn ?_
 exact for_loop C SO ht hb G₁ F it hd
theorem s_while (C: CxOk n cx) {t: PySem.Expr} {pos: Pos} {b: List Stmt} {Tt: (Bool->St->Prop)->St->Prop} {B: (Option DV->St->Prop)->St->Prop} (ht: ∀ Q σ,Tt Q σ->EvG W too cx (isTrue t cx.env (eval t cx.env)) Q no σ)
  (hb: ∀ Q σ,B Q σ->EvS W too cx (execs b cx.env) Q no σ) {Q: Option DV->St->Prop}
  (h: ∃ k,whileN (fun K σ=>Tt (fun r σ=>match r with|true=>B (fun f σ=>match f with|none=>K σ|some d=>Q (some d) σ) σ|false=>Q none σ) σ) k σ): EvS W too cx (exec (.While t b [] pos) cx.env) Q X σ := fun g s G=>by
 obtain⟨k,h⟩ := h
 refine wpAny_While ?_
 refine codeAny_whileLoop (fun k s'=>∃ g' σ',Ext g g'/\Good W cx g' σ' s'/\whileN (fun K σ=>Tt (fun r σ=>match r with|true=>B (fun f σ=>match f with|none=>K σ|some d=>Q (some d) σ) σ|false=>Q none σ) σ) k σ') ?_ k ⟨g,σ,Ext.rfl,G,h⟩
 rintro k s' ⟨g',σ',e,G',h'⟩
 cases k with
 |zero=>exact h'.elim
 |succ k=>
  refine wpAny_mono (ht _ _ h' g' s' G') (fun r s₁ ⟨g₁,σ₁,e₁,G₁,q⟩=>?_) fun _ _ x=>(ex_no x).elim
  cases r with
  |true=>
   refine wpAny_mono (hb _ _ q g₁ s₁ G₁) (fun f s₂ p=>?_) fun _ _ x=>(ex_no x).elim
   cases f with
   |next=>obtain⟨g₂,σ₂,e₂,G₂,q₂⟩ := p;exact⟨k,Nat.lt_succ_self _,g₂,σ₂,e.trans (e₁.trans e₂),G₂,q₂⟩
   |ret v=>obtain⟨g₂,σ₂,d,e₂,G₂,r,q₂⟩ := p;exact⟨g₂,σ₂,d,e.trans (e₁.trans e₂),G₂,r,q₂⟩
   |brk=>exact p.elim
   |cont=>exact p.elim
  |false=>exact wpAny_execs_nil ⟨g₁,σ₁,e.trans e₁,G₁,q⟩
theorem a_attr3 (WO: W.Ok) (TO: TbOk W T) (hh: cx.A.handled=none) {o₁ o₂ o₃: PySem.Expr} {x₁ x₂ x₃: Str} {p₁ p₂ p₃ pos: Pos} {k: Nat} (h1: okc x₁=true) (h2: okc x₂=true) (h3: okc x₃=true) {d: DV} {K: St->Prop}
  (h: match d with
   |.tup [d₁,d₂,d₃]=>EvE W too cx (eval o₁ cx.env) (fun ov σ=>setAt T ov (enc x₁) d₁ (fun σ=>EvE W too cx (eval o₂ cx.env) (fun ov σ=>setAt T ov (enc x₂) d₂ (fun σ=>EvE W too cx (eval o₃ cx.env) (fun ov σ=>setAt T ov (enc x₃) d₃ K σ) X σ) σ) X σ) σ) X σ
   |_=>False) :
  ∀ g s w,Good W cx g σ s->Rep g d w->wpAny W.M cx.A (assign (.Tuple [.Attribute o₁ x₁ p₁,.Attribute o₂ x₂ p₂,.Attribute o₃ x₃ p₃] k pos) cx.env w) (PostG W cx g fun _ σ=>K σ) (EX W too cx X) s := fun g s w G r=>by
 split at h
 case h_2=>exact h.elim
 rename_i d₁ d₂ d₃
 rw[arm_assign_Tuple]
 refine wpAny_bind (wpAny_standAt ?_)
 unfold unpack
 show wpAny _ _ (holding [w] (unpackItems w 3 none) >>= fun vs=>assignInOrder [assign (.Attribute o₁ x₁ p₁) cx.env,assign (.Attribute o₂ x₂ p₂) cx.env,assign (.Attribute o₃ x₃ p₃) cx.env] vs) _ _ _
 refine wpAny_bind (wpAny_holding (unpack_rule hh G r (l := [d₁,d₂,d₃]) rfl rfl fun vs s' G' rs=>?_))
 cases rs with
 |cons r1 rs=>
 cases rs with
 |cons r2 rs=>
 cases rs with
 |cons r3 rs=>
 cases rs
 refine wpAny_bind (wpAny_holding (wpAny_mono (a_attr WO TO h1 h g s' _ G' r1) (fun _ s₁ ⟨g₁,σ₁,e₁,G₁,q₁⟩=>?_) fun _ _ x=>x))
 refine wpAny_bind (wpAny_holding (wpAny_mono (a_attr WO TO h2 q₁ g₁ s₁ _ G₁ (r2.mono e₁)) (fun _ s₂ ⟨g₂,σ₂,e₂,G₂,q₂⟩=>?_) fun _ _ x=>x))
 refine wpAny_bind (wpAny_holding (wpAny_mono (a_attr WO TO h3 q₂ g₂ s₂ _ G₂ ((r3.mono e₁).mono e₂)) (fun _ s₃ ⟨g₃,σ₃,e₃,G₃,q₃⟩=>?_) fun _ _ x=>x))
 exact wpAny_pure ⟨g₃,σ₃,e₁.trans (e₂.trans e₃),G₃,q₃⟩
end
end
section
theorem enc_dot0: enc ".0"=nDot0 := by rfl
theorem enc_classdict: enc "__classdict__"=nClassdict := by rfl
def codeK: NameKind->Nat
 |.local=>0|.cell=>1|.free=>1|.globalImplicit=>2|.globalExplicit=>8
theorem kinds_cons (x: Str) (k: NameKind) (r: List (Str×NameKind)): kinds ((x,k)::r)=(enc x,codeK k)::kinds r := by cases k<;>rfl
theorem kinds_look {x: Str} (hx: okc x=true): ∀{l: List (Str×NameKind)},okNames l=true->kindN (kinds l) (enc x)=match l.lookup x with|some k=>codeK k|none=>9
 |[],_=>rfl
 |(y,k)::r,h=>by
  simp only[okNames,Bool.and_eq_true]at h
  rw[kinds_cons]
  unfold kindN
  by_cases e: y=x
  ·subst e;simp
  ·have h1: Nat.beq (enc y) (enc x)=false := beq_false fun q=>e (enc_inj h.1.1 hx q)
   have h2: (x==y)=false := by rw[beq_eq_false_iff_ne];exact fun q=>e q.symm
   rw[h1,List.lookup_cons,h2]
   simp only[Bool.false_eq_true,if_false]
   exact kinds_look hx h.2
theorem kindN_filter {p: Nat×Nat->Bool}: ∀{l: List (Nat×Nat)} {x: Nat},(∀ k,p (x,k)=true)->kindN (l.filter p) x=kindN l x
 |[],_,_=>rfl
 |(y,k)::r,x,h=>by
  rw[List.filter_cons]
  by_cases e: y=x
  ·subst e;rw[h k,if_pos rfl];simp[kindN]
  ·have h1: Nat.beq y x=false := beq_false e
   split
   ·simp only[kindN,h1,Bool.false_eq_true,if_false];exact kindN_filter h
   ·simp only[kindN,h1,Bool.false_eq_true,if_false];exact kindN_filter h
theorem kindN_gone {p: Nat×Nat->Bool}: ∀{l: List (Nat×Nat)} {x: Nat},(∀ k,p (x,k)=false)->kindN (l.filter p) x=9
 |[],_,_=>rfl
 |(y,k)::r,x,h=>by
  rw[List.filter_cons]
  by_cases e: y=x
  ·subst e;rw[h k];simp only[Bool.false_eq_true,if_false];exact kindN_gone h
  ·have h1: Nat.beq y x=false := beq_false e
   split
   ·simp only[kindN,h1,Bool.false_eq_true,if_false];exact kindN_gone h
   ·exact kindN_gone h
theorem kindsC_look {x: Str} (hx: okc x=true) {l: List (Str×NameKind)} (h: okNames l=true) {k: Nat} (hk: k≠9) (e: kindN (kindsC l) (enc x)=k): ∃ kk,l.lookup x=some kk/\codeK kk=k/\x≠".0" := by
 unfold kindsC at e
 by_cases q: x=".0"
 ·subst q
  rw[kindN_gone (fun k=>by simp[enc_dot0])]at e
  exact absurd e.symm hk
 ·rw[kindN_filter (fun k=>by
   have: enc x≠nDot0 := fun z=>q (enc_inj hx (by decide) (z.trans enc_dot0.symm))
   simp[beq_false this]),kinds_look hx h]at e
  cases hl: l.lookup x with
  |none=>rw[hl]at e;exact absurd e.symm hk
  |some kk=>rw[hl]at e;exact⟨kk,rfl,e,q⟩
theorem noCell_of: ∀{l: List (Str×NameKind)},noCell l=true->∀ x∈l,x.2≠.cell
 |[],_,_,h=>by cases h
 |(y,k)::r,h,x,hx=>by
  have hr: noCell r=true/\k≠.cell := by cases k<;>simp_all [noCell]
  rcases List.mem_cons.mp hx with rfl|hx
  ·exact hr.2
  ·exact noCell_of hr.1 x hx
theorem freeIn_of {kd: List (Nat×Nat)}: ∀{l: List (Str×NameKind)},freeIn kd l=true->∀ x,(x,NameKind.free)∈l->kindN kd (enc x)=1
 |[],_,_,h=>by cases h
 |(y,k)::r,h,x,hx=>by
  have hr: freeIn kd r=true/\(k=.free->kindN kd (enc y)=1) := by
   cases k<;>simp only[freeIn,Bool.and_eq_true]at h<;>first|exact⟨h,fun e=>by cases e⟩|exact⟨h.2,fun _=>Nat.eq_of_beq_eq_true h.1⟩
  rcases List.mem_cons.mp hx with e|hx
  ·cases e;exact hr.2 rfl
  ·exact freeIn_of hr.1 x hx
theorem okNames_mem: ∀{l: List (Str×NameKind)},okNames l=true->∀ x∈l,okc x.1=true/\x.1≠"__classdict__"
 |[],_,_,h=>by cases h
 |(y,k)::r,h,x,hx=>by
  simp only[okNames,Bool.and_eq_true,Bool.not_eq_true']at h
  rcases List.mem_cons.mp hx with rfl|hx
  ·exact⟨h.1.1,fun e=>by
    have h2 := h.1.2
    rw[show(y,k).1=y from rfl]at e
    rw[e,enc_classdict,beq_self]at h2;cases h2⟩
  ·exact okNames_mem h.2 x hx
theorem lookup_mem': ∀{l: List (Str×NameKind)} {x: Str} {k: NameKind},l.lookup x=some k->(x,k)∈l
 |[],_,_,h=>by cases h
 |(y,k')::r,x,k,h=>by
  rw[List.lookup_cons]at h
  split at h
  ·rename_i e;cases h;simp at e;subst e;exact .head _
  ·exact .tail _ (lookup_mem' h)
theorem mem_kinds: ∀{l: List (Str×NameKind)} {x: Str×NameKind},x∈l->enc x.1∈(kinds l).map (·.1)
 |[],_,h=>by cases h
 |(y,k)::r,x,h=>by
  rw[kinds_cons,List.map_cons]
  rcases List.mem_cons.mp h with rfl|h
  ·exact .head _
  ·exact .tail _ (mem_kinds h)
theorem lookup_of_distinct: ∀{l: List (Str×NameKind)},okNames l=true->distinct ((kinds l).map (·.1))=true->∀ x∈l,l.lookup x.1=some x.2
 |[],_,_,_,h=>by cases h
 |(y,k)::r,hok,hd,x,hx=>by
  have ok0 := hok
  simp only[okNames,Bool.and_eq_true]at hok
  rw[kinds_cons,List.map_cons]at hd
  simp only[distinct,Bool.and_eq_true,Bool.not_eq_true',List.any_eq_false]at hd
  rcases List.mem_cons.mp hx with rfl|hx
  ·simp
  ·rw[List.lookup_cons]
   have hxy: (x.1==y)=false := by
    rw[beq_eq_false_iff_ne]
    intro e
    have: enc y∈(kinds r).map (·.1) := e▸mem_kinds hx
    have := hd.1 _ this
    simp at this
   rw[hxy]
   exact lookup_of_distinct hok.2 hd.2 x hx
theorem closure_of {sc: Scope} {env: Env} (h: ∀ x,(x,NameKind.free)∈sc.names->∃ c,env.cells.lookup x=some c): ∃ cl,closureFor sc env=pure cl/\(∀ x c,(x,c)∈cl->(x,NameKind.free)∈sc.names/\env.cells.lookup x=some c)/\∀ x,(x,NameKind.free)∈sc.names->∃ c,cl.lookup x=some c := by
 have key: ∀(l: List (Str×NameKind)) (acc: List (Str×Addr)),(∀ x∈l,x∈sc.names)->∃ cl,(forIn l acc fun(p: Str×NameKind) cs=>(if(p.2==NameKind.free)=true then(do let c <-cellOf env p.1;pure (ForInStep.yield ((p.1,c)::cs)))else pure (ForInStep.yield cs): Sem (ForInStep (List (Str×Addr)))))=pure cl/\
   (∀ x c,(x,c)∈cl->(x,c)∈acc\/((x,NameKind.free)∈l/\env.cells.lookup x=some c))/\(∀ x,(∃ c,acc.lookup x=some c)->∃ c,cl.lookup x=some c)/\∀ x,(x,NameKind.free)∈l->∃ c,cl.lookup x=some c := by
  intro l
  induction l with
  |nil=>intro acc _;exact⟨acc,rfl,fun x c h=>.inl h,fun x h=>h,fun x h=>by cases h⟩
  |cons p r ih=>
   intro acc hs
   obtain⟨y,k⟩ := p
   rw[List.forIn_cons]
   by_cases hk: k=.free
   ·subst hk
    obtain⟨c,hc⟩ := h y (hs _ (.head _))
    have e1: cellOf env y=pure c := by unfold cellOf;rw[hc]
    obtain⟨cl,a,b,c',d⟩ := ih ((y,c)::acc) (fun x hx=>hs x (.tail _ hx))
    refine⟨cl,?_,fun x c₂ hx=>?_,fun x ⟨c₂,hx⟩=>?_,fun x hx=>?_⟩
    ·simp only[beq_self_eq_true,if_true,e1,pure_bind];exact a
    ·rcases b x c₂ hx with q|⟨q1,q2⟩
     ·rcases List.mem_cons.mp q with q|q
      ·cases q;exact .inr ⟨.head _,hc⟩
      ·exact .inl q
     ·exact .inr ⟨.tail _ q1,q2⟩
    ·refine c' x ?_
     rw[List.lookup_cons]
     split
     ·exact⟨_,rfl⟩
     ·exact⟨c₂,hx⟩
    ·rcases List.mem_cons.mp hx with q|q
     ·cases q;exact c' y ⟨c,by simp⟩
     ·exact d x q
   ·have hk': (k==NameKind.free)=false := by cases k<;>first|rfl|exact absurd rfl hk
    obtain⟨cl,a,b,c',d⟩ := ih acc (fun x hx=>hs x (.tail _ hx))
    refine⟨cl,?_,fun x c₂ hx=>?_,c',fun x hx=>?_⟩
    ·simp only[hk',Bool.false_eq_true,if_false,pure_bind];exact a
    ·rcases b x c₂ hx with q|⟨q1,q2⟩
     ·exact .inl q
     ·exact .inr ⟨.tail _ q1,q2⟩
    ·rcases List.mem_cons.mp hx with q|q
     ·cases q;exact absurd rfl hk
     ·exact d x q
 obtain⟨cl,a,b,_,d⟩ := key sc.names [] (fun _ h=>h)
 refine⟨cl,?_,fun x c hx=>?_,d⟩
 ·unfold closureFor
  exact(by simpa using a)
 ·rcases b x c hx with q|q
  ·cases q
  ·exact q
theorem relabel_lookup {sc: Scope} {env: Env} {x: Str}: ∀{l: List (Str×NameKind)},(l.map fun(n,k)=>if(k==NameKind.free&&env.scope.kind==.function&&env.kindOf n==some .cell)then(n,NameKind.cell)else(n,k)).lookup x =
  (match l.lookup x with|some k=>some (if(k==NameKind.free&&env.scope.kind==.function&&env.kindOf x==some .cell)then .cell else k)|none=>none)
 |[]=>rfl
 |(y,k)::r=>by
  have ih := relabel_lookup (sc := sc) (env := env) (x := x) (l := r)
  rw[List.map_cons,List.lookup_cons (as := r)]
  by_cases e: x=y
  ·subst e
   simp only[beq_self_eq_true]
   split<;>simp
  ·have h1: (x==y)=false := by rw[beq_eq_false_iff_ne];exact e
   rw[h1]
   simp only
   rw[<-ih]
   show List.lookup x ((if _ then _ else _)::_)=_
   split
   ·rw[List.lookup_cons,h1]
   ·rw[List.lookup_cons,h1]
def Cx.keepH (cx: Cx) (L: List Addr) (h: Heap): Cx := {cx with kp := fun b=>if b∈L then h.get? b else cx.kp b}
section
variable {W: Wd} {too: Addr} {T: Tb} {n: Nat} {cx: Cx} {X: DV->St->Prop} {σ: St} {g g': Hp} {m: Mt} {s s': Shared} {E: Value->Shared->Prop}
theorem Good.keepH (G: Good W cx g σ s) {L: List Addr} (F: ∀ b∈L,Free cx g σ.mu b): Good W (cx.keepH L s.heap) g σ s := by
 refine⟨G.ext,⟨G.sim.base,G.sim.frz,fun b o' h=>?_,fun b o' h=>?_,G.sim.mabove,G.sim.gens,G.sim.os⟩,⟨G.frm.ns,G.frm.cells,⟨G.frm.apart.1,?_,G.frm.apart.2.2⟩,G.frm.capart⟩,G.above⟩
 ·simp only[Cx.keepH]at h
  split at h
  ·rename_i hb;exact⟨(F b hb).fg,.inl h⟩
  ·exact G.sim.kept b o' h
 ·obtain⟨h1,h2,h3⟩ := G.sim.muts b o' h
  refine⟨h1,?_,h3⟩
  simp only[Cx.keepH]
  rw[if_neg (fun hb=>by rw[(F b hb).fm]at h;cases h)];exact h2
 ·simp only[Cx.keepH]
  rw[if_neg (fun hb=>(F _ hb).fl rfl)];exact G.frm.apart.2.1
theorem Good.unkeepH {L: List Addr} {h: Heap} (hk: ∀ b∈L,cx.kp b=none) (hd: ∀ b∈L,∃ o,h.get? b=some o/\isD o=false) (G: Good W (cx.keepH L h) g σ s) :
  Good W cx g σ s/\∀ b∈L,g b=none/\σ.mu b=none/\s.heap.get? b=h.get? b := by
 have hI: ∀ b∈L,(cx.keepH L h).kp b=h.get? b := fun b hb=>by simp only[Cx.keepH];rw[if_pos hb]
 have old: ∀ b o',cx.kp b=some o'->(cx.keepH L h).kp b=some o' := fun b o' e=>by
  simp only[Cx.keepH];rw[if_neg (fun hb=>by rw[hk b hb]at e;cases e)];exact e
 refine⟨⟨G.ext,⟨G.sim.base,G.sim.frz,fun b o' h=>G.sim.kept b o' (old b o' h),fun b o' h=>?_,G.sim.mabove,G.sim.gens,G.sim.os⟩,⟨G.frm.ns,G.frm.cells,⟨G.frm.apart.1,?_,G.frm.apart.2.2⟩,G.frm.capart⟩,G.above⟩,fun b hb=>?_⟩
 ·obtain⟨h1,h2,h3⟩ := G.sim.muts b o' h
  refine⟨h1,?_,h3⟩
  cases e: cx.kp b with
  |none=>rfl
  |some q=>rw[old b q e]at h2;cases h2
 ·cases e: cx.kp cx.env.locals with
  |none=>rfl
  |some q=>exact absurd ((old _ q e).symm.trans G.frm.apart.2.1) (by simp)
 ·obtain⟨o,ho,hn⟩ := hd b hb
  have hb': (cx.keepH L h).kp b=some o := (hI b hb).trans ho
  obtain⟨k1,k2⟩ := G.sim.kept b o hb'
  refine⟨k1,G.sim.kmu hb',?_⟩
  rcases k2 with k|⟨k,_⟩
  ·rw[k,ho]
  ·rw[hn]at k;cases k
theorem Good.turn (G: Good W cx g σ s) {kd: List (Nat×Nat)} {l: Loc} (hn: ∀(x: Str) d,okc x=true->look l (enc x)=some d->kindN kd (enc x)=0->look σ.loc (enc x)=some d/\kindN cx.kd (enc x)=0)
  (hc: ∀(x: Str) d,okc x=true->look l (enc x)=some d->kindN kd (enc x)=1->∃ c v,cx.env.cells.lookup x=some c/\s.heap.IsCell c (some v)/\Rep g d v): Good W {cx with kd := kd} g ⟨l,σ.mu⟩ s := by
 obtain⟨⟨mm,hns,hv⟩,_,ap,ca⟩ := G.frm
 refine⟨G.ext,G.sim,⟨⟨mm,hns,fun x d ok hl h0=>?_⟩,hc,ap,ca⟩,G.above⟩
 obtain⟨a,b⟩ := hn x d ok hl h0
 exact hv x d ok a b
structure Iter (W: Wd) (d: DV) (xs: List DV) (t: PySem.Expr) (it: Value) (L: List Addr) (P: Nat->Hp->Mt->Heap->Prop): Prop where
 item: ∀{cx: Cx} {g: Hp} {σ: St} {s: Shared} {i: Nat} {x: DV} {E: Value->Shared->Prop} {Q: Option Value->Shared->Prop},cx.A.handled=none->Good W cx g σ s->(∀ b∈L,Free cx g σ.mu b)->P i g σ.mu s.heap->xs[i]?=some x->
  (∀ v s₁,(∀(E': Value->Shared->Prop) (Q': Unit->Shared->Prop),(∀ g' s₂,Ext g g'->Good W cx g' σ s₂->P (i+1) g' σ.mu s₂.heap->Rep g' x v->(∀ b o,g' b=some o->g b=some o\/s.heap.get? b=none)->(∀ b,b∉L->∀ o,s.heap.get? b=some o->s₂.heap.get? b=some o)->Q' () s₂)->wpAny W.M cx.A (letOwnedTupleGo t it v) Q' E' s₁)->Q (some v) s₁)->
  wpAny W.M cx.A (pyNext it) Q E s
 done: ∀{cx: Cx} {g: Hp} {σ: St} {s: Shared} {E: Value->Shared->Prop} {Q: Option Value->Shared->Prop},cx.A.handled=none->Good W cx g σ s->(∀ b∈L,Free cx g σ.mu b)->P xs.length g σ.mu s.heap->
  (∀ s₁,Good W cx g σ s₁->(∀ b,b∉L->∀ o,s.heap.get? b=some o->s₁.heap.get? b=some o)->Q none s₁)->wpAny W.M cx.A (pyNext it) Q E s
 objs: ∀{i: Nat} {g: Hp} {m: Mt} {h: Heap},P i g m h->∀ b∈L,∃ o,h.get? b=some o/\isD o=false
 back: ∀{i: Nat} {g g': Hp} {m m': Mt} {h h': Heap},P i g m h->Ext g g'->guardL d xs ⟨[],m'⟩->(∀ b∈L,h'.get? b=h.get? b)->P i g' m' h'
 self: ∀{cx: Cx} {g: Hp} {m: Mt} {s: Shared} {i: Nat} {E: Value->Shared->Prop} {Q: Value->Shared->Prop},P i g m s.heap->Q it s->wpAny W.M cx.A (pyIter it) Q E s
end
end
section
section
variable {W: Wd} {too: Addr} {T: Tb} {n: Nat} {cx: Cx} {X: DV->St->Prop} {σ: St} {g g': Hp} {m: Mt} {s s': Shared} {E: Value->Shared->Prop}
theorem Good.freeze1 {l: Loc} (G: Good W cx g ⟨l,m⟩ s) {a: Addr} {mo: MObj} (hm: m a=some mo): ∃ ob,s.heap.get? a=some ob/\MRep W.prog W.w g mo ob/\Ext g (gadd g a ob)/\Good W cx (gadd g a ob) ⟨l,m.del a⟩ s := by
 obtain⟨h1,_,ob,h3,h4⟩ := G.sim.muts _ _ hm
 have he: Ext g (gadd g a ob) := ext_gadd h1
 refine⟨ob,h3,h4,he,G.step he (fun b o h=>?_) (fun _ _ h _=>h) (fun b o h=>?_) rfl rfl⟩
 ·by_cases q: b=a
  ·subst q;rw[gadd_self]at h;cases h;exact .inr ⟨h3,.inr (by show m b≠none;rw[hm];simp)⟩
  ·rw[gadd_ne _ _ q]at h;exact .inl h
 ·by_cases q: b=a
  ·subst q;rw[Mt.del_self]at h;cases h
  ·rw[Mt.del_ne _ q]at h
   obtain⟨k1,_,ob',k3,k4⟩ := G.sim.muts b o h
   exact⟨by rw[gadd_ne _ _ q];exact k1,.inr (by show m b≠none;rw[h];simp),ob',k3,k4.mono he⟩
theorem fz_sound {m m': Mt} {d d': DV} (h: Fz m d m' d'): ∀{g: Hp} {l: Loc} {v: Value},Good W cx g ⟨l,m⟩ s->Rep g d v->∃ g',Ext g g'/\Good W cx g' ⟨l,m'⟩ s/\Rep g' d' v := by
 induction h with
 |refl=>exact fun G r=>⟨_,Ext.rfl,G,r⟩
 |trans _ _ ih1 ih2=>
  intro g l v G r
  obtain⟨g1,e1,G1,r1⟩ := ih1 G r
  obtain⟨g2,e2,G2,r2⟩ := ih2 G1 r1
  exact⟨g2,e1.trans e2,G2,r2⟩
 |lst hm=>
  intro g l v G r
  obtain rfl: v=.ref _ := by cases r;rfl
  obtain⟨ob,h3,h4,he,G'⟩ := G.freeze1 hm
  cases h4 with
  |lst rl=>exact⟨_,he,G',.lst (gadd_self _ _ _) (rl.mono he)⟩
 |inst hm hd hne=>
  intro g l v G r
  rename_i m a C dx ns vs
  obtain rfl: v=.ref _ := by cases r;rfl
  obtain⟨ob,h3,h4,he,G'⟩ := G.freeze1 hm
  have hd': (m.del a) dx=some (.attrs ns vs) := by rw[Mt.del_ne _ (Ne.symm hne)];exact hd
  obtain⟨ob2,k3,k4,ke,G''⟩ := G'.freeze1 hd'
  cases h4
  cases k4 with
  |attrs re=>exact⟨_,he.trans ke,G'',.inst (ke _ _ (gadd_self _ _ _)) (gadd_self _ _ _) (re.mono ke)⟩
 |drop hm=>
  intro g l v G r
  exact⟨g,Ext.rfl,G.drop hm,r⟩
theorem Good.adopt {l: Loc} (G: Good W cx g ⟨l,m⟩ s) {D: Addr} (F: Free cx g m D) {ob: Obj} {mo: MObj} (ho: s.heap.get? D=some ob) (r: MRep W.prog W.w g mo ob) (hD: W.h₀.objs.size<=D): Good W cx g ⟨l,m.set D mo⟩ s := by
 have other: ∀ b,b≠D->(m.set D mo) b=m b := fun b h=>Mt.set_ne _ _ h
 refine⟨G.ext,⟨G.sim.base,G.sim.frz,G.sim.kept,fun b o h=>?_,fun b o h=>?_,G.sim.gens,G.sim.os⟩,⟨G.frm.ns,G.frm.cells,⟨G.frm.apart.1,G.frm.apart.2.1,?_⟩,fun x c hxc=>?_⟩,G.above⟩
 ·by_cases q: b=D
  ·subst q
   rw[show(St.mk l (m.set b mo)).mu b=some mo from Mt.set_self _ _ _]at h;cases h
   exact⟨F.fg,F.fk,ob,ho,r⟩
  ·rw[show(St.mk l (m.set D mo)).mu b=m b from other b q]at h
   exact G.sim.muts b o h
 ·by_cases q: b=D
  ·subst q;exact hD
  ·rw[show(St.mk l (m.set D mo)).mu b=m b from other b q]at h
   exact G.sim.mabove b o h
 ·show(m.set D mo) _=none
  rw[other _ (Ne.symm F.fl)];exact G.frm.apart.2.2
 ·obtain⟨c1,c2,c3,c4⟩ := G.frm.capart x c hxc
  refine⟨c1,?_,c3,c4⟩
  show(m.set D mo) _=none
  rw[other _ (fun e=>by subst e;exact F.fc x hxc)];exact c2
def EvT (W: Wd) (too: Addr) (cx: Cx): List PySem.Expr->(Bool->St->Prop)->(DV->St->Prop)->St->Prop
 |[],Q,_,σ=>Q true σ
 |c::r,Q,X,σ=>EvG W too cx (isTrue c cx.env (eval c cx.env)) (fun t σ=>match t with|true=>EvT W too cx r Q X σ|false=>Q false σ) X σ
theorem tests_false {env: Env}: ∀(l: List PySem.Expr),(forIn l false fun c r=>if r=true then do let ok <-isTrue c env (eval c env);pure (ForInStep.yield ok)else pure (ForInStep.yield r): Sem Bool)=pure false
 |[]=>rfl
 |c::r=>by
  rw[List.forIn_cons]
  simp only[Bool.false_eq_true,if_false,pure_bind]
  exact tests_false r
theorem tests_ev: ∀(ifs: List PySem.Expr) {Q: Bool->St->Prop} {σ: St} {g: Hp} {s: Shared},EvT W too cx ifs Q X σ->Good W cx g σ s->
  wpAny W.M cx.A (forIn ifs true fun c r=>if r=true then do let ok <-isTrue c cx.env (eval c cx.env);pure (ForInStep.yield ok)else pure (ForInStep.yield r)) (PostG W cx g Q) (EX W too cx X) s
 |[],Q,σ,g,s,h,G=>wpAny_pure (G.postG h)
 |c::r,Q,σ,g,s,h,G=>by
  rw[List.forIn_cons]
  simp only[if_true]
  refine wpAny_bind (wpAny_bind (wpAny_mono (h g s G) (fun t s' ⟨g',σ',e,G',q⟩=>wpAny_pure ?_) fun _ _ x=>x))
  cases t with
  |true=>exact wpAny_mono (tests_ev r q G') (fun _ _ p=>p.from e) fun _ _ x=>x
  |false=>
   simp only
   rw[tests_false]
   exact wpAny_pure ⟨g',σ',e,G',q⟩
theorem comp_go {M: Model} {prog: Program} {w: World} {A: Around} {R: Result->Shared->Prop} {elt target iter: PySem.Expr} {ifs: List PySem.Expr} {scope: Scope} {pos: Pos} {it acc: Value} {env: Env} (hM: M=model prog w) (I: Nat->Shared->Prop)
  (turn: ∀ n s,I n s->wpAny M A (pyNext it) (fun r s₁=>match r with
   |none=>R (.ok .next) s₁
   |some v=>wpAny M A (letOwnedTupleGo target it v) (fun _ s₁'=>wpAny M A (assign target env v) (fun _ s₂=>
     wpAny M A (forIn ifs true fun c r=>if r=true then do let ok <-isTrue c env (eval c env);pure (ForInStep.yield ok)else pure (ForInStep.yield r)) (fun ok s₃=>
      if ok=true then wpAny M A (eval elt env) (fun x s₄=>
       wpAny M A (call (.builtin "list.append") [acc,x]) (fun _ s₅=>∃ m,m<n/\I m s₅) (notedBy M A env fun e s'=>R (.error e) s') s₄) (notedBy M A env fun e s'=>R (.error e) s') s₃
      else ∃ m,m<n/\I m s₃) (notedBy M A env fun e s'=>R (.error e) s') s₂) (notedBy M A env fun e s'=>R (.error e) s') s₁') (notedBy M A env fun e s'=>R (.error e) s') s₁) (notedBy M A env fun e s'=>R (.error e) s') s)
  (n: Nat) (h: I n s) :
  codeAny M A (.compLoop (.ListComp elt [⟨target,iter,ifs,0⟩] scope pos) 0 it acc env) R s := by
 subst hM
 refine codeAny_loop rfl I (fun n s hI=>?_) n h
 show wpAny _ A ((compTurn (.ListComp elt [⟨target,iter,ifs,0⟩] scope pos) 0 it acc env).onRaise (fun x=>do noteFrame x env;theTreesLotGoes x)) _ _ s
 refine wpAny_noted ?_
 rw[compTurn_list]
 refine wpAny_bind (wpAny_standAt (wpAny_bind (wpAny_mono (turn n s hI) (fun r s₁ h₁=>?_) fun _ _ h'=>h')))
 cases r with
 |none=>exact wpAny_pure h₁
 |some v=>
  refine wpAny_bind (wpAny_mono h₁ (fun _ s₁' h₁'=>?_) fun _ _ h'=>h')
  refine wpAny_bind (wpAny_mono h₁' (fun _ s₂ h₂=>wpAny_bind (wpAny_mono h₂ (fun ok s₃ h₃=>?_) fun _ _ h'=>h')) fun _ _ h'=>h')
  cases ok with
  |false=>exact wpAny_pure ⟨rfl,h₃⟩
  |true=>
   exact wpAny_bind (wpAny_bind (wpAny_mono h₃ (fun x s₄ h₄=>wpAny_bind (wpAny_mono h₄ (fun _ s₅ h₅=>wpAny_pure (wpAny_pure ⟨rfl,h₅⟩)) fun _ _ h'=>h')) fun _ _ h'=>h'))
theorem look_zip_append: ∀(xs: List Nat) (ds: List DV) (l: Loc) (y: Nat),look (xs.zip ds++l) y=match look (xs.zip ds) y with|some d=>some d|none=>look l y
 |[],_,_,_=>by simp[look]
 |_::_,[],_,_=>by simp[look]
 |x::xs,d::ds,l,y=>by
  simp only[List.zip_cons_cons,List.cons_append,look]
  cases Nat.beq x y with
  |true=>rfl
  |false=>simp only[Bool.false_eq_true,if_false];exact look_zip_append xs ds l y
theorem look_zip_none: ∀{xs: List Nat} {ds: List DV} {y: Nat},y∉xs->look (xs.zip ds) y=none
 |[],_,_,_=>by simp[look]
 |_::_,[],_,_=>by simp[look]
 |x::xs,d::ds,y,h=>by
  simp only[List.zip_cons_cons,look]
  rw[beq_false (fun e=>h (by rw[e];exact .head _))]
  simp only[Bool.false_eq_true,if_false]
  exact look_zip_none fun hm=>h (.tail _ hm)
theorem look_puts: ∀{xs: List Nat} {ds: List DV} {l: Loc} {y: Nat},xs.Nodup->xs.length=ds.length->look (puts l xs ds) y=match look (xs.zip ds) y with|some d=>some d|none=>look l y
 |[],_,_,_,_,_=>by simp[look,puts]
 |_::_,[],_,_,_,h=>by cases h
 |x::xs,d::ds,l,y,nd,h=>by
  rw[List.nodup_cons]at nd
  simp only[puts,List.zip_cons_cons,look]
  rw[look_puts nd.2 (by simpa using h)]
  by_cases e: x=y
  ·subst e
   rw[look_zip_none nd.1,look_put_self];simp
  ·rw[beq_false e,look_put_ne _ _ e];simp
theorem bind_look {l₁ l₂: Loc} {ns: CN} {d: DV} {loc: Loc} (nd: (cnN ns).Nodup) (h: bindC l₂ m ns d=some loc): ∃ l',bindN l₁ m ns d=some l'/\∀ y,(y∈cnN ns->look l' y=look loc y)/\(y∉cnN ns->look l' y=look l₁ y/\look loc y=look l₂ y) := by
 cases ns with
 |one x=>
  simp only[bindC,Option.some.injEq]at h
  subst h
  refine⟨_,rfl,fun y=>⟨fun hy=>?_,fun hy=>?_⟩⟩
  ·simp only[cnN,List.mem_singleton]at hy
   subst hy
   rw[look_put_self];simp[look]
  ·simp only[cnN,List.mem_singleton]at hy
   rw[look_put_ne _ _ (Ne.symm hy)]
   simp[look,beq_false (Ne.symm hy)]
 |tup xs=>
  simp only[bindC]at h
  split at h
  ·rename_i ds hds
   split at h
   ·rename_i hl
    cases h
    have hl' := Nat.eq_of_beq_eq_true hl
    refine⟨puts l₁ xs ds,by simp only[bindN,hds,hl,if_true],fun y=>⟨fun hy=>?_,fun hy=>?_⟩⟩
    ·have: ∃ d,look (xs.zip ds) y=some d := by
      clear hds hl nd
      simp only[cnN]at hy
      induction xs generalizing ds with
      |nil=>cases hy
      |cons x xs ih=>
       cases ds with
       |nil=>cases hl'
       |cons d ds=>
        simp only[List.zip_cons_cons,look]
        by_cases e: x=y
        ·subst e;exact⟨d,by simp⟩
        ·rw[beq_false e]
         simp only[Bool.false_eq_true,if_false]
         rcases List.mem_cons.mp hy with q|q
         ·exact absurd q.symm e
         ·exact ih ds (by simpa using hl') q
     obtain⟨d',hd'⟩ := this
     rw[look_puts (xs := xs) nd hl',look_zip_append,hd']
    ·rw[look_puts (xs := xs) nd hl',look_zip_append,look_zip_none (xs := xs) hy];exact⟨rfl,rfl⟩
   ·cases h
  ·cases h
theorem look_filter {q: Nat->Bool}: ∀(l: Loc) (y: Nat),look (l.filter fun p=>q p.1) y=if q y then look l y else none
 |[],y=>by simp[look]
 |(k,d)::r,y=>by
  rw[List.filter_cons]
  by_cases e: k=y
  ·subst e
   cases hq: q k with
   |true=>simp[look]
   |false=>simp only[Bool.false_eq_true,if_false];rw[look_filter r k,hq];simp
  ·split
   ·simp only[look,beq_false e,Bool.false_eq_true,if_false];exact look_filter r y
   ·simp only[look,beq_false e,Bool.false_eq_true,if_false];exact look_filter r y
theorem cNames_mem {f: Str->Option Nat}: ∀{es: List PySem.Expr} {l: List Nat},cNames f es=some l->∀ z∈l,∃ x,f x=some z
 |[],l,hl,z,hz=>by simp only[cNames,Option.some.injEq]at hl;subst hl;cases hz
 |e::es,l,hl,z,hz=>by
  obtain⟨x,p,y,ys,rfl,h1,h2,rfl⟩ := cNames_cons hl
  rcases List.mem_cons.mp hz with rfl|hz
  ·exact⟨x,h1⟩
  ·exact cNames_mem h2 z hz
theorem cTgt_nodup {f: Str->Option Nat} {t: PySem.Expr} {ns: CN} (h: cTgt f t=some ns): (cnN ns).Nodup/\∀ y∈cnN ns,∃ x,f x=some y := by
 unfold cTgt at h
 split at h
 ·split at h
  ·rename_i y hy;cases h;exact⟨by simp[cnN],fun z hz=>by simp[cnN]at hz;subst hz;exact⟨_,hy⟩⟩
  ·cases h
 ·split at h
  ·rename_i l hl
   split at h
   ·rename_i hd;cases h
    refine⟨distinct_nodup hd,fun z hz=>?_⟩
    exact cNames_mem hl z hz
   ·cases h
  ·cases h
 ·cases h
end
end
section
section
variable {W: Wd} {too: Addr} {T: Tb} {n: Nat} {cx: Cx} {X: DV->St->Prop} {σ: St} {g g': Hp} {m: Mt} {s s': Shared} {E: Value->Shared->Prop}
def CellAt (env: Env): Prop := ∀ x,env.kindOf x=some .cell\/env.kindOf x=some .free->∃ c,env.cells.lookup x=some c
structure CompIn (cx: Cx) (sc: Scope) (cl: List (Str×Addr)) (ts: List Nat): Prop where
 okn: okNames sc.names=true
 fn: sc.kind=.function
 nocell: noCell sc.names=true
 dis: distinct ((kinds sc.names).map (·.1))=true
 free: freeIn cx.kd sc.names=true
 locs: (kindsC sc.names).all (fun p=>!(Nat.beq p.2 0)||ts.any (Nat.beq p.1))=true
 cl1: ∀ x c,(x,c)∈cl->(x,NameKind.free)∈sc.names/\cx.env.cells.lookup x=some c
 cl2: ∀ x,(x,NameKind.free)∈sc.names->∃ c,cl.lookup x=some c
theorem scOk_of {kd: List (Nat×Nat)} {sc: Scope} {xs: List Nat} (h: scOk kd sc xs=true): okNames sc.names=true/\sc.kind=.function/\noCell sc.names=true/\distinct ((kinds sc.names).map (·.1))=true/\freeIn kd sc.names=true/\
  (kindsC sc.names).all (fun p=>!(Nat.beq p.2 0)||xs.any (Nat.beq p.1))=true := by
 unfold scOk at h
 simp only[Bool.and_eq_true]at h
 obtain⟨⟨⟨⟨⟨h1,h2⟩,h3⟩,h4⟩,h5⟩,h6⟩ := h
 refine⟨h1,?_,h3,h4,h5,h6⟩
 cases hk: sc.kind<;>rw[hk]at h2<;>first|rfl|cases h2
theorem kindN_mem: ∀{l: List (Nat×Nat)} {x k: Nat},k≠9->kindN l x=k->(x,k)∈l
 |[],_,_,h,e=>absurd e.symm h
 |(y,k')::r,x,k,h,e=>by
  unfold kindN at e
  split at e
  ·rename_i q;subst e;rw[Nat.eq_of_beq_eq_true q];exact .head _
  ·exact .tail _ (kindN_mem h e)
variable {sc: Scope} {cl: List (Str×Addr)} {ts: List Nat} {Cc: Addr}
theorem CompIn.kinds (I: CompIn cx sc cl ts) (h: ScopeKind) (hk: cx.env.scope.kind=h): KindsOk (compEnvC sc cl Cc cx.env) (kindsC sc.names) := by
 intro x ok
 have lk: (compEnvC sc cl Cc cx.env).kindOf x=_ := relabel_lookup (sc := sc) (env := cx.env) (x := x) (l := sc.names)
 refine⟨fun e=>?_,fun e=>?_,fun e=>?_⟩
 ·obtain⟨kk,h1,h2,_⟩ := kindsC_look ok I.okn (by decide) e
  rw[lk,h1]
  cases kk<;>first|rfl|cases h2
 ·obtain⟨kk,h1,h2,_⟩ := kindsC_look ok I.okn (by decide) e
  rw[lk,h1]
  have := noCell_of I.nocell _ (lookup_mem' h1)
  cases kk<;>first|exact absurd rfl this|cases h2|skip
  simp only
  split
  ·exact .inl rfl
  ·exact .inr rfl
 ·obtain⟨kk,h1,h2,_⟩ := kindsC_look ok I.okn (by decide) e
  rw[lk,h1]
  cases kk<;>first|rfl|cases h2
theorem CompIn.free1 (I: CompIn cx sc cl ts) {x: Str} (ok: okc x=true) (e: kindN (kindsC sc.names) (enc x)=1): (x,NameKind.free)∈sc.names/\kindN cx.kd (enc x)=1 := by
 obtain⟨kk,h1,h2,_⟩ := kindsC_look ok I.okn (by decide) e
 have hm := lookup_mem' h1
 have := noCell_of I.nocell _ hm
 have hk: kk=.free := by cases kk<;>first|rfl|exact absurd rfl this|cases h2
 subst hk
 exact⟨hm,freeIn_of I.free x hm⟩
theorem CompIn.env (I: CompIn cx sc cl ts) (EO: EnvOk cx.env): EnvOk (compEnvC sc cl Cc cx.env) where
 cd := by
  intro e
  have lk: (compEnvC sc cl Cc cx.env).kindOf "__classdict__"=_ := relabel_lookup (sc := sc) (env := cx.env) (x := "__classdict__") (l := sc.names)
  rw[lk]at e
  cases h: sc.names.lookup ("__classdict__": Str)with
  |none=>rw[h]at e;cases e
  |some k=>exact(okNames_mem I.okn _ (lookup_mem' h)).2 rfl
 kind := I.fn
 gl := EO.gl
 bi := EO.bi
theorem CompIn.cellAt (I: CompIn cx sc cl ts): CellAt (compEnvC sc cl Cc cx.env) := by
 intro x hx
 have lk: (compEnvC sc cl Cc cx.env).kindOf x=_ := relabel_lookup (sc := sc) (env := cx.env) (x := x) (l := sc.names)
 rw[lk]at hx
 cases h: sc.names.lookup x with
 |none=>rw[h]at hx;rcases hx with e|e<;>cases e
 |some k=>
  have hm := lookup_mem' h
  have hn := noCell_of I.nocell _ hm
  rw[h]at hx
  cases k with
  |free=>exact I.cl2 x hm
  |cell=>exact absurd rfl hn
  |_=>rcases hx with e|e<;>simp at e
def cxH (cx: Cx) (kp: Hp) (sc: Scope) (cl: List (Str×Addr)) (Cc: Addr): Cx := {A := cx.A,env := compEnvC sc cl Cc cx.env,kd := [],kp := kp,g₀ := cx.g₀}
def cxB (cx: Cx) (kp: Hp) (sc: Scope) (cl: List (Str×Addr)) (Cc: Addr) (L: List Addr) (h: Heap): Cx := ({cxH cx kp sc cl Cc with kd := kindsC sc.names}: Cx).keepH L h
theorem cxB_ok (C: CxOk n cx) (I: CompIn cx sc cl ts) (G: Good W cx g σ s) {L: List Addr} {h: Heap} (hL: ∀ b∈L,kpF cx s b=none): CxOk n (cxB cx (kpF cx s) sc cl Cc L h) where
 env := I.env C.env
 room := C.room
 kinds := I.kinds _ C.env.kind
 frames := by
  obtain⟨l,hl,hf⟩ := C.frames
  refine⟨l,hl,fun env he=>?_⟩
  obtain⟨h1,L',h2,h3⟩ := hf env he
  refine⟨h1,L',h2,.inr ?_⟩
  have: ∃ o,kpF cx s L'=some o/\isD o=true := by
   rcases h3 with rfl|⟨o,ho,hd⟩
   ·obtain⟨mm,⟨oL,es,ep,hLo,hdd,_⟩,_⟩ := G.frm.ns
    exact⟨oL,(kpF_locals cx s).trans hLo,by unfold isD;rw[hdd]⟩
   ·obtain⟨o',ho',k⟩ := kpF_old G ho
    refine⟨o',ho',?_⟩
    rcases k with q|⟨_,sl,q⟩
    ·cases q;exact hd
    ·cases q;exact hd
  obtain⟨o,ho,hd⟩ := this
  refine⟨o,?_,hd⟩
  show(if L'∈L then h.get? L' else kpF cx s L')=some o
  rw[if_neg (fun hm=>by rw[hL _ hm]at ho;cases ho)];exact ho
theorem comp_loop (C: CxOk n cx) (WO: W.Ok) {elt t iter: PySem.Expr} {ifs: List PySem.Expr} {pos: Pos} {ns: CN} (ht: cTgt (cStoL (kindsC sc.names)) t=some ns) (I: CompIn cx sc cl (cnN ns))
  {B': Loc->(Option DV->Mt->Prop)->Mt->Prop}
  (hB: ∀ cx': Cx,CxOk n cx'->cx'.kd=kindsC sc.names->CellAt cx'.env->∀ loc K m,B' loc K m->
   EvT W too cx' ifs (fun ok σ₁=>match ok with|true=>EvE W too cx' (eval elt cx'.env) (fun y σ₂=>∃ m' y',Fz σ₂.mu y m' y'/\K (some y') m') no σ₁|false=>K none σ₁.mu) no ⟨loc,m⟩)
  {Q: DV->St->Prop} {d: DV} {xs: List DV} (hz: small xs.length) {it: Value} {L: List Addr} {P: Nat->Hp->Mt->Heap->Prop} (It: Iter W d xs t it L P) {D: Addr} {R: Result->Shared->Prop}
  (G₀: Good W cx g σ s) (Gh: Good W (cxH cx (kpF cx s) sc cl Cc) g σ s) (hF: ∀ b∈D::L,Free (cxH cx (kpF cx s) sc cl Cc) g σ.mu b) (hDL: D∉L) (FD: Free cx g σ.mu D) (FC: Free cx g σ.mu Cc) (hDs: W.h₀.objs.size<=D)
  (hP: P 0 g σ.mu s.heap) (hD: s.heap.get? D=some (listOf #[] 0))
  (h: compW (guardL d xs) (fun x K m=>match bindC σ.loc m ns x with|some loc=>B' loc K m|none=>False) σ.loc Q xs [] σ.mu)
  (hfin: ∀ g' m acc s₁,Ext g g'->Good W cx g' ⟨σ.loc,m.set D (.lst acc)⟩ s₁->m D=none->newL acc Q ⟨σ.loc,m⟩->Free cx g' (m.set D (.lst acc)) Cc->(∃ mm,s₁.heap.Ns Cc mm)->R (.ok .next) s₁) :
  codeAny W.M cx.A (.compLoop (.ListComp elt [⟨t,iter,ifs,0⟩] sc pos) 0 it (.ref D) (compEnvC sc cl Cc cx.env)) R s := by
 have hkpL: ∀ b∈D::L,kpF cx s b=none := fun b hb=>(hF b hb).fk
 have freeD: ∀{g': Hp} {m': Mt},(∀ b∈D::L,g' b=none/\m' b=none)->∀ b∈D::L,Free (cxH cx (kpF cx s) sc cl Cc) g' m' b := fun hh b hb=>⟨(hh b hb).1,(hh b hb).2,(hF b hb).fk,(hF b hb).fl,(hF b hb).fc⟩
 refine comp_go rfl (fun k s'=>∃ i g' m acc c vs,k=xs.length+1-i/\i<=xs.length/\Ext g g'/\Good W (cxH cx (kpF cx s) sc cl Cc) g' ⟨σ.loc,m⟩ s'/\(∀ b∈D::L,g' b=none/\m b=none)/\P i g' m s'.heap/\
  s'.heap.get? D=some (listOf (List.toArray vs) c)/\RepL g' acc vs/\acc.length<=i/\
  compW (guardL d xs) (fun x K m=>match bindC σ.loc m ns x with|some loc=>B' loc K m|none=>False) σ.loc Q (xs.drop i) acc m) ?_ (xs.length+1)
  ⟨0,g,σ.mu,[],0,[],rfl,Nat.zero_le _,Ext.rfl,Gh,fun b hb=>⟨(hF b hb).fg,(hF b hb).fm⟩,hP,hD,.nil,Nat.zero_le _,h⟩
 rintro k s' ⟨i,g',m,acc,c,vs,rfl,hi,e,G',hfr,hP',hD',racc,hacc,h'⟩
 have F' := freeD hfr
 have back: ∀{g₂: Hp} {m₂: Mt} {s₂: Shared},Ext g g₂->Good W (cxH cx (kpF cx s) sc cl Cc) g₂ ⟨σ.loc,m₂⟩ s₂->Good W cx g₂ ⟨σ.loc,m₂⟩ s₂ := fun e G=>G₀.back e G.sim
 by_cases hl: i=xs.length
 ·subst hl
  refine It.done (cx := cxH cx (kpF cx s) sc cl Cc) (σ := ⟨σ.loc,m⟩) C.room.h G' (fun b hb=>F' b (.tail _ hb)) hP' fun s₁ G₁ k₁=>?_
  rw[List.drop_length]at h'
  have Go := back e G₁
  have hD₁ := k₁ D hDL _ hD'
  have FD': Free cx g' m D := ⟨(hfr D (.head _)).1,(hfr D (.head _)).2,FD.fk,FD.fl,FD.fc⟩
  have hCD: Cc≠D := fun q=>(hF D (.head _)).fl q.symm
  refine hfin g' m acc s₁ e (Go.adopt FD' hD₁ (.lst racc) hDs) (hfr D (.head _)).2 h'.2 ⟨G₁.frm.apart.1,?_,FC.fk,FC.fl,FC.fc⟩ ?_
  ·rw[Mt.set_ne _ _ hCD];exact G₁.frm.apart.2.2
  ·obtain⟨⟨mm,hns,_⟩,_⟩ := G₁.frm;exact⟨mm,hns⟩
 ·have hi': i<xs.length := by omega
  have hx: xs[i]?=some xs[i] := by simp[hi']
  rw[List.drop_eq_getElem_cons hi']at h'
  obtain⟨_,h'⟩ := h'
  split at h'
  case h_2=>exact h'.elim
  rename_i loc hloc
  refine It.item (cx := cxH cx (kpF cx s) sc cl Cc) (σ := ⟨σ.loc,m⟩) C.room.h G' (fun b hb=>F' b (.tail _ hb)) hP' hx fun v s₁ hgo=>?_
  refine hgo _ _ fun g₂ s₂ e₂ G₂ P₂ rv hnew k₂=>?_
  have hD₂ := k₂ D hDL _ hD'
  have hobjs: ∀ b∈D::L,∃ o,s₂.heap.get? b=some o/\isD o=false := fun b hb=>by
   rcases List.mem_cons.mp hb with rfl|hb
   ·exact⟨_,hD₂,rfl⟩
   ·exact It.objs P₂ b hb
  have hfr₂: ∀ b∈D::L,g₂ b=none/\m b=none := fun b hb=>by
   refine⟨?_,(hfr b hb).2⟩
   cases q: g₂ b with
   |none=>rfl
   |some o=>
    rcases hnew b o q with q'|q'
    ·rw[(hfr b hb).1]at q';cases q'
    ·have: ∃ o,s'.heap.get? b=some o := by
      rcases List.mem_cons.mp hb with rfl|hb
      ·exact⟨_,hD'⟩
      ·obtain⟨o,ho,_⟩ := It.objs hP' b hb;exact⟨o,ho⟩
     obtain⟨o',ho'⟩ := this
     rw[q']at ho';cases ho'
  have e₁ := e.trans e₂
  have Go₂ := back e₁ G₂
  obtain⟨nd,hown⟩ := cTgt_nodup ht
  obtain⟨l',hl',hlk⟩ := bind_look (l₁ := σ.loc.filter fun p=>!(Nat.beq (kindN (kindsC sc.names) p.1) 0)) nd hloc
  have tgt0: ∀ y∈cnN ns,kindN (kindsC sc.names) y=0 := fun y hy=>by
   obtain⟨x,hx⟩ := hown y hy
   obtain⟨_,rfl,h0⟩ := cStoL_of hx
   exact h0
  have loc0: ∀ y,kindN (kindsC sc.names) y=0->y∈cnN ns := fun y hy=>by
   have := List.all_eq_true.mp I.locs _ (kindN_mem (by decide) hy)
   simp at this
   exact this
  have cellF: ∀(x: Str) d,okc x=true->look σ.loc (enc x)=some d->kindN (kindsC sc.names) (enc x)=1->∃ c v,cl.lookup x=some c/\s₂.heap.IsCell c (some v)/\Rep g₂ d v := fun x d ok hlx h1=>by
   obtain⟨hm,hk1⟩ := I.free1 ok h1
   obtain⟨c,v,a1,a2,a3⟩ := Go₂.frm.cells x d ok hlx hk1
   obtain⟨c',hc'⟩ := I.cl2 x hm
   have := (I.cl1 x c' (mem_of_lookup hc')).2
   rw[a1]at this;cases this
   exact⟨c,v,hc',a2,a3⟩
  have G₃: Good W ({cxH cx (kpF cx s) sc cl Cc with kd := kindsC sc.names}: Cx) g₂ ⟨σ.loc.filter fun p=>!(Nat.beq (kindN (kindsC sc.names) p.1) 0),m⟩ s₂ := by
   refine Good.turn (l := σ.loc.filter fun p=>!(Nat.beq (kindN (kindsC sc.names) p.1) 0)) G₂ (fun x d ok hlx h0=>?_) (fun x d ok hlx h1=>?_)
   ·rw[look_filter (q := fun y=>!(Nat.beq (kindN (kindsC sc.names) y) 0)),h0]at hlx
    simp at hlx
   ·rw[look_filter (q := fun y=>!(Nat.beq (kindN (kindsC sc.names) y) 0)),h1]at hlx
    exact cellF x d ok (by rw[if_pos (by decide)]at hlx;exact hlx) h1
  have G₄: Good W (cxB cx (kpF cx s) sc cl Cc (D::L) s₂.heap) g₂ ⟨σ.loc.filter fun p=>!(Nat.beq (kindN (kindsC sc.names) p.1) 0),m⟩ s₂ := G₃.keepH fun b hb=>let f := freeD hfr₂ b hb;⟨f.fg,f.fm,f.fk,f.fl,f.fc⟩
  have CB: CxOk n (cxB cx (kpF cx s) sc cl Cc (D::L) s₂.heap) := cxB_ok C I G₀ hkpL
  refine assign_rule (cx := cxB cx (kpF cx s) sc cl Cc (D::L) s₂.heap) CB.room.h (stores_L CB.env CB.kinds) G₄ ht rv hl' fun s₃ G₅=>?_
  have same: ∀ y,(kindN (kindsC sc.names) y=0\/kindN (kindsC sc.names) y=1)->look loc y=look l' y := fun y hy=>by
   by_cases hm: y∈cnN ns
   ·exact((hlk y).1 hm).symm
   ·obtain⟨a,b⟩ := (hlk y).2 hm
    rcases hy with hy|hy
    ·exact absurd (loc0 y hy) hm
    ·rw[a,b,look_filter (q := fun y=>!(Nat.beq (kindN (kindsC sc.names) y) 0)),hy];simp
  have G₆: Good W (cxB cx (kpF cx s) sc cl Cc (D::L) s₂.heap) g₂ ⟨loc,m⟩ s₃ := by
   refine Good.turn (kd := kindsC sc.names) G₅ (fun x d ok hlx h0=>⟨by rw[<-same _ (.inl h0)];exact hlx,h0⟩) (fun x d ok hlx h1=>?_)
   exact G₅.frm.cells x d ok (by rw[<-same _ (.inr h1)];exact hlx) h1
  have leave: ∀{g₇: Hp} {l₇: Loc} {m₇: Mt} {s₇: Shared},Good W (cxB cx (kpF cx s) sc cl Cc (D::L) s₂.heap) g₇ ⟨l₇,m₇⟩ s₇->Good W (cxH cx (kpF cx s) sc cl Cc) g₇ ⟨σ.loc,m₇⟩ s₇/\∀ b∈D::L,(g₇ b=none/\m₇ b=none)/\s₇.heap.get? b=s₂.heap.get? b := fun G=>by
   obtain⟨G',k⟩ := Good.unkeepH (cx := ({cxH cx (kpF cx s) sc cl Cc with kd := kindsC sc.names}: Cx)) hkpL hobjs G
   refine⟨?_,fun b hb=>⟨⟨(k b hb).1,(k b hb).2.1⟩,(k b hb).2.2⟩⟩
   have := Good.turn (kd := []) (l := σ.loc) G' (fun x d _ _ h0=>by cases h0) (fun x d _ _ h1=>by cases h1)
   exact this
  have guard: ∀{m₇: Mt} {acc': List DV},compW (guardL d xs) (fun x K m=>match bindC σ.loc m ns x with|some loc=>B' loc K m|none=>False) σ.loc Q (xs.drop (i+1)) acc' m₇->guardL d xs ⟨[],m₇⟩ := fun{m₇ acc'} hc=>by
   have: guardL d xs ⟨σ.loc,m₇⟩ := by
    cases hdr: xs.drop (i+1)with
    |nil=>rw[hdr]at hc;exact hc.1
    |cons a r=>rw[hdr]at hc;exact hc.1
   cases d<;>exact this
  have T := hB _ CB rfl I.cellAt loc _ m h'
  refine wpAny_mono (tests_ev (cx := cxB cx (kpF cx s) sc cl Cc (D::L) s₂.heap) ifs T G₆) (fun ok s₄ ⟨g₄,σ₄,e₄,G₇,q⟩=>?_) fun _ _ x=>(ex_no x).elim
  cases ok with
  |false=>
   simp only[Bool.false_eq_true,if_false]
   obtain⟨G₈,k₈⟩ := leave G₇
   refine⟨xs.length+1-(i+1),by omega,i+1,g₄,σ₄.mu,acc,c,vs,rfl,hi',e₁.trans e₄,G₈,fun b hb=>(k₈ b hb).1,?_,?_,racc.mono (e₂.trans e₄),by omega,q⟩
   ·exact It.back P₂ e₄ (guard q) fun b hb=>(k₈ b (.tail _ hb)).2
   ·rw[(k₈ D (.head _)).2];exact hD₂
  |true=>
   simp only[if_true]
   refine wpAny_mono (q g₄ s₄ G₇) (fun y s₅ ⟨g₅,σ₅,dy,e₅,G₈,ry,m',y',hfz,hk⟩=>?_) fun _ _ x=>(ex_no x).elim
   obtain⟨g₆,e₆,G₉,ry'⟩ := fz_sound (l := σ₅.loc) hfz G₈ ry
   obtain⟨G₁₀,k₁₀⟩ := leave G₉
   have hD₅: s₅.heap.get? D=some (listOf (List.toArray vs) c) := by rw[(k₁₀ D (.head _)).2];exact hD₂
   have e' := e₂.trans (e₄.trans (e₅.trans e₆))
   have racc' := racc.mono e'
   refine append_at hD₅ (fun h₆ hs₆ hD₆=>?_) (by
    have h1 := racc.length
    have h2 := small_line hz
    simp;omega)
   have FD6: Free (cxH cx (kpF cx s) sc cl Cc) g₆ m' D := freeD (fun b hb=>(k₁₀ b hb).1) D (.head _)
   have G₁₁ := G₁₀.upd (t := s₅.toks) FD6 fun b o hb he=>(hs₆.2 b hb).trans he
   refine⟨xs.length+1-(i+1),by omega,i+1,g₆,m',acc++[y'],c+1,vs++[y],rfl,hi',e.trans e',G₁₁,fun b hb=>(k₁₀ b hb).1,?_,?_,racc'.append (.cons ry' .nil),by simp;omega,hk⟩
   ·refine It.back P₂ (e₄.trans (e₅.trans e₆)) (guard hk) fun b hb=>?_
    have hne: b≠D := fun q=>by subst q;exact hDL hb
    exact(hs₆.2 b hne).trans (k₁₀ b (.tail _ hb)).2
   ·rw[<-List.push_toArray];exact hD₆
end
end
section
section
variable {W: Wd} {too: Addr} {T: Tb} {n: Nat} {cx: Cx} {X: DV->St->Prop} {σ: St} {g g': Hp} {m: Mt} {s s': Shared} {E: Value->Shared->Prop}
theorem it_self {d: DV} {xs: List DV} {I: Addr} {i: Nat} (it: ItAt g m d xs I i s.heap) {A: Around} {Q: Value->Shared->Prop} (q: Q (.ref I) s): wpAny W.M A (pyIter (.ref I)) Q E s := by
 cases it with
 |lst _ _ _ it=>exact wpAny_pyIter_listiter it q
 |tup r e ne it=>
  obtain⟨o,ho,hc,hd⟩ := it
  exact wpAny_pyIter_tupleiter ⟨o,ho,hc,hd⟩ q
 |rng _ _ it=>exact wpAny_pyIter_rangeiter it q
theorem iter_plain {d: DV} {xs: List DV} {t: PySem.Expr} {I: Addr}: Iter W d xs t (.ref I) [I] (fun i g m h=>ItAt g m d xs I i h) where
 item hh G F it hx k := it_item hh G (F _ (.head _)) it hx fun v s₁ G₁ it₁ rv hk=>k v s₁ fun E' Q' hq=>go_noop it₁ (hq _ s₁ Ext.rfl G₁ it₁ rv (fun b o h=>.inl h) hk)
 done hh G F it k := it_done hh G (F _ (.head _)) it fun s₁ G₁ hk=>k s₁ G₁ hk
 objs it b hb := by rw[List.mem_singleton]at hb;subst hb;exact it.obj
 back it e hg ho := it.back e hg (ho _ (.head _))
 self it q := it_self it q
theorem comp_from (C: CxOk n cx) (CA: CellAt cx.env) (WO: W.Ok) {elt t iter: PySem.Expr} {ifs: List PySem.Expr} {pos: Pos} {ns: CN} {sc: Scope} {cl: List (Str×Addr)} (ht: cTgt (cStoL (kindsC sc.names)) t=some ns) (hsc: scOk cx.kd sc (cnN ns)=true)
  (hcl1: ∀ x c,(x,c)∈cl->(x,NameKind.free)∈sc.names/\cx.env.cells.lookup x=some c) (hcl2: ∀ x,(x,NameKind.free)∈sc.names->∃ c,cl.lookup x=some c)
  {B': Loc->(Option DV->Mt->Prop)->Mt->Prop}
  (hB: ∀ cx': Cx,CxOk n cx'->cx'.kd=kindsC sc.names->CellAt cx'.env->∀ loc K m,B' loc K m->
   EvT W too cx' ifs (fun ok σ₁=>match ok with|true=>EvE W too cx' (eval elt cx'.env) (fun y σ₂=>∃ m' y',Fz σ₂.mu y m' y'/\K (some y') m') no σ₁|false=>K none σ₁.mu) no ⟨loc,m⟩)
  {Q: DV->St->Prop} {d: DV} {xs: List DV} (hz: small xs.length) {it: Value} {L: List Addr} {P: Nat->Hp->Mt->Heap->Prop} (It: Iter W d xs t it L P)
  (G: Good W cx g σ s) (hF: ∀ b∈L,Free cx g σ.mu b) (hP: P 0 g σ.mu s.heap) (hg: guardL d xs ⟨[],σ.mu⟩)
  (h: compW (guardL d xs) (fun x K m=>match bindC σ.loc m ns x with|some loc=>B' loc K m|none=>False) σ.loc Q xs [] σ.mu)
  {use: Option (Value->Sem Unit)} {Qf: Value->Shared->Prop}
  (hfin: ∀(g': Hp) (m: Mt) (acc: List DV) (s₁: Shared) (D Cc: Addr),Ext g g'->Good W cx g' ⟨σ.loc,m.set D (.lst acc)⟩ s₁->Q (.ref D) ⟨σ.loc,m.set D (.lst acc)⟩->Free cx g' (m.set D (.lst acc)) Cc->(∃ mm,s₁.heap.Ns Cc mm)->compPost W.M cx.A E use Qf (.ref D) Cc (.ok .next) s₁) :
  wpAny W.M cx.A (newList []) (fun acc s₃=>wpAny W.M cx.A (newFunctionEnv sc cx.env.globals cl [] cx.env.qual none .none (some cx.env)) (fun cenv s₄=>
   codeAny W.M cx.A (.compStart (.ListComp elt [⟨t,iter,ifs,0⟩] sc pos) 0 it acc {cenv with scope := relabel sc cx.env}) (compPost W.M cx.A E use Qf acc cenv.locals) s₄) E s₃) E s := by
 obtain⟨s1,s2,s3,s4,s5,s6⟩ := scOk_of hsc
 have I: CompIn cx sc cl (cnN ns) := ⟨s1,s2,s3,s4,s5,s6,hcl1,hcl2⟩
 have hObj: ∀ b∈L,∃ o,s.heap.get? b=some o := fun b hb=>let ⟨o,ho,_⟩ := It.objs hP b hb;⟨o,ho⟩
 refine wpAny_newObj_type (wpAny_newFunctionEnv (noCell_of s3) (by intro y hy;simp at hy) (fun h₁ hns₁ hsb₁=>?_) s2)
 dsimp only at hns₁ hsb₁ ⊢
 have hC: (s.heap.push {cls := .type "list",dict := none,data := .seq ([]: List Value).toArray}).objs.size=s.heap.objs.size+1 := Heap.size_push ..
 rw[hC]at hns₁ hsb₁ ⊢
 have old: ∀ b o,s.heap.get? b=some o->h₁.get? b=some o := fun b o e=>hsb₁.extBut b o (Nat.ne_of_lt (Nat.lt_succ_of_lt (Heap.lt_size e))) (Heap.get?_push_of_some _ (Heap.get?_push_of_some _ e))
 have hD: h₁.get? s.heap.objs.size=some (listOf #[] 0) := hsb₁.extBut _ _ (Nat.ne_of_lt (Nat.lt_succ_self _)) (Heap.get?_push_of_some _ (Heap.get?_push_size _ rfl))
 have G₄: Good W cx g σ {s with heap := h₁,toks := s.toks+([]: List (Str×Value)).length} := G.grow old
 have FD: Free cx g σ.mu s.heap.objs.size := G.freeN
 have FC: Free cx g σ.mu (s.heap.objs.size+1) := G.free (none_of_le (Nat.le_succ _))
 have hkp: ∀(b: Addr) (s₄: Shared),Free cx g σ.mu b->kpF cx s₄ b=none := fun b s₄ f=>by
  unfold kpF
  rw[if_neg (by
   rintro(q|q)
   ·exact f.fl q
   ·obtain⟨⟨x,c⟩,hc,rfl⟩ := List.mem_map.mp q;exact f.fc x hc)]
  exact f.fk
 have clm: ∀ x c,(x,c)∈cl->(x,c)∈cx.env.cells := fun x c hx=>mem_of_lookup (hcl1 x c hx).2
 have hsz := G.size
 have Gh: Good W (cxH cx (kpF cx {s with heap := h₁,toks := s.toks+([]: List (Str×Value)).length}) sc cl (s.heap.objs.size+1)) g σ {s with heap := h₁,toks := s.toks+([]: List (Str×Value)).length} := by
  refine⟨G₄.ext,G₄.simF,⟨⟨_,hns₁,fun x d _ _ h0=>by cases h0⟩,fun x d _ _ h0=>(by cases h0),⟨FC.fg,hkp _ _ FC,FC.fm⟩,fun x c hxc=>?_⟩,Nat.le_succ_of_le hsz⟩
  obtain⟨c1,c2,c3,v,c4⟩ := G₄.frm.capart x c (clm x c hxc)
  exact⟨c1,c2,fun e=>FC.fc x (by rw[<-show c=s.heap.objs.size+1 from e];exact clm x c hxc),v,c4⟩
 have hF': ∀ b∈s.heap.objs.size::L,Free (cxH cx (kpF cx {s with heap := h₁,toks := s.toks+([]: List (Str×Value)).length}) sc cl (s.heap.objs.size+1)) g σ.mu b := fun b hb=>by
  have f: Free cx g σ.mu b := by
   rcases List.mem_cons.mp hb with rfl|hb
   ·exact FD
   ·exact hF b hb
  refine⟨f.fg,f.fm,hkp _ _ f,fun e=>?_,fun x hx=>f.fc x (clm x b hx)⟩
  have e': b=s.heap.objs.size+1 := e
  rcases List.mem_cons.mp hb with rfl|hb
  ·exact absurd e' (Nat.ne_of_lt (Nat.lt_succ_self _))
  ·obtain⟨o,ho⟩ := hObj b hb
   have := Heap.lt_size ho
   rw[e']at this
   exact absurd this (Nat.not_lt.mpr (Nat.le_succ _))
 have hDL: s.heap.objs.size∉L := fun hm=>by
  obtain⟨o,ho⟩ := hObj _ hm
  exact absurd (Heap.lt_size ho) (Nat.lt_irrefl _)
 have hP₄: P 0 g σ.mu h₁ := It.back hP Ext.rfl hg fun b hb=>by
  obtain⟨o,ho⟩ := hObj b hb
  rw[ho];exact old b o ho
 have loop := comp_loop (s := {s with heap := h₁,toks := s.toks+([]: List (Str×Value)).length}) (elt := elt) (iter := iter) (pos := pos) (ifs := ifs) (B' := B') (R := compPost W.M cx.A E use Qf (.ref s.heap.objs.size) (s.heap.objs.size+1)) C WO ht I hB hz It G₄ Gh hF' hDL FD FC hsz hP₄ hD h (fun g' m acc s₁ e Go hm hn Fc hns=>hfin g' m acc s₁ _ _ e Go (hn _ hm) Fc hns)
 exact codeAny_compStart_list loop (It.self (cx := cx) hP₄ loop)
theorem guard_of {d: DV} {xs: List DV} {l: Loc} (h: guardL d xs ⟨l,m⟩): guardL d xs ⟨[],m⟩ := by cases d<;>exact h
theorem guard_comp {d: DV} {xs: List DV} {B: DV->(Option DV->Mt->Prop)->Mt->Prop} {l: Loc} {Q: DV->St->Prop} {ys acc: List DV} (h: compW (guardL d xs) B l Q ys acc m): guardL d xs ⟨[],m⟩ := by
 cases ys with
 |nil=>exact guard_of h.1
 |cons a r=>exact guard_of h.1
theorem clos_ok (CA: CellAt cx.env) (hk: KindsOk cx.env cx.kd) {sc: Scope} {xs: List Nat} (hsc: scOk cx.kd sc xs=true): ∃ cl,closureFor sc cx.env=pure cl/\(∀ x c,(x,c)∈cl->(x,NameKind.free)∈sc.names/\cx.env.cells.lookup x=some c)/\∀ x,(x,NameKind.free)∈sc.names->∃ c,cl.lookup x=some c := by
 obtain⟨s1,_,_,_,s5,_⟩ := scOk_of hsc
 exact closure_of fun x hx=>CA x ((hk x (okNames_mem s1 _ hx).1).2.1 (freeIn_of s5 x hx))
theorem ev_comp (C: CxOk n cx) (CA: CellAt cx.env) (WO: W.Ok) {elt t iter: PySem.Expr} {ifs: List PySem.Expr} {pos: Pos} {ns: CN} {sc: Scope} (ht: cTgt (cStoL (kindsC sc.names)) t=some ns) (hsc: scOk cx.kd sc (cnN ns)=true) (hp: plainIter iter=true)
  {B': Loc->(Option DV->Mt->Prop)->Mt->Prop}
  (hB: ∀ cx': Cx,CxOk n cx'->cx'.kd=kindsC sc.names->CellAt cx'.env->∀ loc K m,B' loc K m->
   EvT W too cx' ifs (fun ok σ₁=>match ok with|true=>EvE W too cx' (eval elt cx'.env) (fun y σ₂=>∃ m' y',Fz σ₂.mu y m' y'/\K (some y') m') no σ₁|false=>K none σ₁.mu) no ⟨loc,m⟩)
  {Q: DV->St->Prop}
  (h: EvE W too cx (eval iter cx.env) (fun d σ=>match iterL σ.mu d with
   |some l=>rngOk d/\small l.length/\compW (guardL d l) (fun x K m=>match bindC σ.loc m ns x with|some loc=>B' loc K m|none=>False) σ.loc Q l [] σ.mu
   |none=>False) X σ): EvE W too cx (eval (.ListComp elt [⟨t,iter,ifs,0⟩] sc pos) cx.env) Q X σ := fun g s G=>by
 obtain⟨cl,hcl,hcl1,hcl2⟩ := clos_ok CA C.kinds hsc
 obtain⟨s1,s2,s3,s4,s5,s6⟩ := scOk_of hsc
 rw[PySem.eval_ListComp]
 refine wpAny_comprehension_free (g := ⟨t,iter,ifs,0⟩) (gs := []) rfl (fun x=>plain_iter hp _ _) hcl s2 (fun x hx hl=>by rw[lookup_of_distinct s1 s4 x hx,hl]) ?_
 show wpAny _ _ (eval iter cx.env) _ _ _
 refine wpAny_mono (h g s G) (fun v s' ⟨g',σ',d,e,G',rd,hd⟩=>?_) fun _ _ x=>x
 dsimp only at hd
 split at hd
 case h_2=>exact hd.elim
 rename_i xs hxs
 obtain⟨hr,hz,hd⟩ := hd
 refine it_start C.room.h G' rd hxs hr fun s₁ G₁ _ F it=>?_
 refine comp_from C CA WO ht hsc hcl1 hcl2 hB hz iter_plain G₁ (fun b hb=>by rw[List.mem_singleton]at hb;subst hb;exact F) it (guard_comp hd) hd fun g₂ m acc s₂ D Cc e₂ G₂ q FC hns=>?_
 obtain⟨mm,hns⟩ := hns
 refine⟨mm,hns,fun h' hs'=>?_⟩
 exact⟨g₂,_,_,e.trans e₂,G₂.upd (t := s₂.toks) FC fun b o hb he=>(hs'.2 b hb).trans he,.ref D,q⟩
theorem notOwn_of {sc: Scope} (ok: okNames sc.names=true) {x: Str} (hx: okc x=true) (h: (kinds sc.names).all (fun q=>!(Nat.beq q.1 (enc x))||Nat.beq q.2 2||Nat.beq q.2 8)=true): (sc.names.any fun(n,k)=>n==x&&(k==.local||k==.cell))=false := by
 rw[List.any_eq_false]
 rintro⟨y,k⟩ hy
 have: ∀{l: List (Str×NameKind)},(y,k)∈l->(enc y,codeK k)∈kinds l := by
  intro l
  induction l with
  |nil=>intro h;cases h
  |cons z r ih=>
   intro h
   obtain⟨z1,z2⟩ := z
   rw[kinds_cons]
   rcases List.mem_cons.mp h with e|h
   ·cases e;exact .head _
   ·exact .tail _ (ih h)
 have h1 := List.all_eq_true.mp h _ (this hy)
 simp only[Bool.not_eq_true]
 by_cases e: y=x
 ·subst e
  simp only[beq_self,Bool.not_true,Bool.false_or]at h1
  cases k<;>first|(simp[codeK]at h1;done)|(simp;done)|rfl
 ·have: (y==x)=false := by rw[beq_eq_false_iff_ne];exact e
  rw[this];rfl
theorem s_comp (C: CxOk n cx) (CA: CellAt cx.env) (WO: W.Ok) {elt t iter: PySem.Expr} {ifs: List PySem.Expr} {pos vp p: Pos} {x: Str} {ns: CN} {sc: Scope} (ht: cTgt (cStoL (kindsC sc.names)) t=some ns) (hsc: scOk cx.kd sc (cnN ns)=true) (hp: plainIter iter=true)
  (hx: cStoL cx.kd x=some (enc x)) (hl: (p.line==vp.line)=true) (hno: (kinds sc.names).all (fun q=>!(Nat.beq q.1 (enc x))||Nat.beq q.2 2||Nat.beq q.2 8)=true)
  {B': Loc->(Option DV->Mt->Prop)->Mt->Prop}
  (hB: ∀ cx': Cx,CxOk n cx'->cx'.kd=kindsC sc.names->CellAt cx'.env->∀ loc K m,B' loc K m->
   EvT W too cx' ifs (fun ok σ₁=>match ok with|true=>EvE W too cx' (eval elt cx'.env) (fun y σ₂=>∃ m' y',Fz σ₂.mu y m' y'/\K (some y') m') no σ₁|false=>K none σ₁.mu) no ⟨loc,m⟩)
  {Q: Option DV->St->Prop}
  (h: EvE W too cx (eval iter cx.env) (fun d σ=>match iterL σ.mu d with
   |some l=>rngOk d/\small l.length/\compW (guardL d l) (fun x K m=>match bindC σ.loc m ns x with|some loc=>B' loc K m|none=>False) σ.loc (fun d σ=>Q none ⟨put σ.loc (enc x) d,σ.mu⟩) l [] σ.mu
   |none=>False) X σ): EvS W too cx (exec (.Assign [.Name x p] (.ListComp elt [⟨t,iter,ifs,0⟩] sc vp) pos) cx.env) Q X σ := fun g s G=>by
 obtain⟨cl,hcl,hcl1,hcl2⟩ := clos_ok CA C.kinds hsc
 obtain⟨s1,s2,s3,s4,s5,s6⟩ := scOk_of hsc
 obtain⟨okx,_,h0⟩ := cStoL_of hx
 have hkx := (C.kinds x okx).1 h0
 rw[arm_exec_Assign]
 refine wpAny_bind (wpAny_standAt ?_)
 have hsw: swapsWithSole [.Name x p] (.ListComp elt [⟨t,iter,ifs,0⟩] sc vp) pos.line cx.env=pure true := by
  show(pure (cx.env.blockKind==.function&&cx.env.kindOf x==some .local&&p.line==vp.line&&!(sc.names.any fun(n,k)=>n==x&&(k==.local||k==.cell))): Sem Bool)=_
  rw[blockFn C.env.kind,hkx,hl,notOwn_of s1 okx hno]
  rfl
 rw[hsw,pure_bind]
 simp only[if_true]
 show wpAny _ _ ((comprehension (.ListComp elt [⟨t,iter,ifs,0⟩] sc vp) sc cx.env (firstIterPos [⟨t,iter,ifs,0⟩] vp) (newList []) (firstAsync [⟨t,iter,ifs,0⟩]) (firstIter [⟨t,iter,ifs,0⟩] cx.env) (some fun v=>assign (.Name x p) cx.env v) >>= fun _=>pure ()) >>= fun _=>pure Flow.next) _ _ _
 refine wpAny_bind (wpAny_bind ?_)
 refine wpAny_comprehension_free (g := ⟨t,iter,ifs,0⟩) (gs := []) rfl (fun x=>plain_iter hp _ _) hcl s2 (fun x hx hl=>by rw[lookup_of_distinct s1 s4 x hx,hl]) ?_
 show wpAny _ _ (eval iter cx.env) _ _ _
 refine wpAny_mono (h g s G) (fun v s' ⟨g',σ',d,e,G',rd,hd⟩=>?_) fun _ _ x=>x
 dsimp only at hd
 split at hd
 case h_2=>exact hd.elim
 rename_i xs hxs
 obtain⟨hr,hz,hd⟩ := hd
 refine it_start C.room.h G' rd hxs hr fun s₁ G₁ _ F it=>?_
 refine comp_from C CA WO ht hsc hcl1 hcl2 hB hz iter_plain G₁ (fun b hb=>by rw[List.mem_singleton]at hb;subst hb;exact F) it (guard_comp hd) hd fun g₂ m acc s₂ D Cc e₂ G₂ q FC hns=>?_
 obtain⟨mm,oC,es,ep,hoC,hdC,hrC⟩ := hns
 show wpAny _ _ (do standAt p;bindName cx.env x _) _ _ _
 have G₃ := G₂.keep FC hoC
 have CK := C.keep (I := Cc) (o := oC) FC.fk
 refine wpAny_bind (wpAny_standAt (store_local (cx := cx.keep Cc oC) CK.env CK.kinds G₃ okx h0 (.ref D) fun s₃ G₄=>?_))
 obtain⟨G₅,k1,k2,k3⟩ := G₄.unkeep FC.fk
 obtain⟨oC',hC',hd',_⟩ := k3.ns
 refine⟨mm,⟨oC',es,ep,hC',hd'.trans hdC,hrC⟩,fun h' hs'=>?_⟩
 refine wpAny_pure (wpAny_pure ⟨g₂,_,e.trans e₂,G₅.upd (I := Cc) (t := s₃.toks) ⟨k1,k2,FC.fk,FC.fl,FC.fc⟩ fun b o hb he=>(hs'.2 b hb).trans he,q⟩)
end
end
section
open PySem.Builtin.ObjectAttr
theorem refuse_exc (x: Value): refuseLoop x "__setattr__" [.type "Exception",.type "BaseException",.type "object"]=pure () := by kernel_rfl
structure ExcF (K: Frag) (too rb fI: Addr): Prop where
 cls: ∃ nm q N hdct sn sub col dd k0 k1 k2 k3 k5,K.lookup too=some (excClassObj nm q too N [.ref rb] [.ref rb,.type "Exception",.type "BaseException",.type "object"] hdct sn sub false col dd k0 k1 k2 k3 k5 "Exception.__new__")
 mro: ∃ cd,clsIn K too=some cd/\cd.mro=[.ref too,.ref rb,.type "Exception",.type "BaseException",.type "object"]/\cd.hasDict=true
 seta: findIn K (.ref too) "__setattr__"=some (some (.builtin "object.__setattr__"))
 geta: findIn K (.ref too) "__getattribute__"=some (some (.builtin "BaseException.__getattribute__"))
 getr: findIn K (.ref too) "__getattr__"=some none
 told: findIn K (.ref too) "told"=some none
 init: findIn K (.ref too) "__init__"=some (some (.ref fI))
 fn: typeIn K (.ref fI)=some (.type "function")
 keep: keepIn K (.ref too)=true
section
variable {prog: Program} {w: World} {A: Around} {E: Value->Shared->Prop} {R: Result->Shared->Prop} {s: Shared} {K: Frag} {too rb fI x: Addr}
theorem ExcF.has (F: ExcF K too rb fI) (X: K.In s.heap) {M: Model} {b: Value} (h: ([Value.ref too,.ref rb,.type "Exception",.type "BaseException",.type "object"]: List Value).contains b=true): Looks M s.heap (isSubtype (.ref too) b) true := by
 obtain⟨cd,hc,hm,_⟩ := F.mro
 exact looks_mroIn X (by unfold mroIn;rw[hc,Option.bind_some,if_neg (by rw[hm];simp),hm,h])
theorem exc_set (F: ExcF K too rb fI) (X: K.In s.heap) {vs: Array Value} {v: Value} {Q: Unit->Shared->Prop} (hx: s.heap.get? x=some {cls := .ref too,data := .fields vs})
  (h: ∀ h' dx tk n,h'.get? x=some {cls := .ref too,dict := some dx,data := .fields vs}->h'.get? dx=some (dictOf [⟨PyData.keyHash w.params "told",.str "told" tk,v⟩] n)->s.heap.get? dx=none->(∀ b o,b≠x->s.heap.get? b=some o->h'.get? b=some o)->Q () {s with heap := h',toks := s.toks+2}) :
  wpAny (model prog w) A (setAttr (.ref x) "told" v) Q E s := by
 obtain⟨hh,g,d,tk,os⟩ := s
 have X: K.In hh := X
 have hx: hh.get? x=_ := hx
 obtain⟨cd,hc,hm,hdct⟩ := F.mro
 have I: InstAt hh x {cls := .ref too,data := .fields vs} too none := ⟨hx,rfl,rfl,trivial⟩
 refine set_plain X I F.seta ?_
 have SF := PySem.F.store_object
 have T: Looks (model prog w) hh (typeOf (.ref x)) (.ref too) := I.type
 have sub: Looks (model prog w) hh (isInstance (.ref x) (.type "object")) true := T.andThen (F.has (s := ⟨hh,g,d,tk,os⟩) (b := .type "object") X (by simp))
 refine codeAny_call_builtin SF.slot.plain SF.entry (@check_slot (model prog w) _ _ ⟨hh,g,d,tk+1,os⟩ "object.__setattr__" "object" "__setattr__" (.ref x) [.str "told" tk,v] [] _ SF.kind SF.split sub (SF.args (.ref x) (.str "told" tk) v) ?_)
 have hmr: Looks (model prog w) hh (mroOf (.ref too)) cd.mro := (looks_clsIn X hc).andThen .now
 have L3: Looks (model prog w) hh (storeTaker? none) none := .now
 rw[osa_eq,refuse_eq]
 refine wpAny_bind (wpAny_bind (T.here (wpAny_bind (hmr.here ?_))))
 rw[hm,refuseLoop_ref,refuseLoop_ref,refuse_exc]
 refine wpAny_pure (wpAny_bind (T.here (wpAny_bind ((looks_findIn X F.told).here (wpAny_bind (L3.here ?_))))))
 show wpAny _ _ (storeInOwnDict (.ref x) (.ref too) (.str "told" tk) "told" v false) _ _ _
 unfold storeInOwnDict
 refine wpAny_bind (wpAny_pure (wpAny_bind ?_))
 show wpAny _ _ (instanceDict x true) _ _ _
 unfold instanceDict
 refine wpAny_bind (wpAny_loadPart hx (wpAny_bind ((looks_clsIn X hc).here ?_)))
 rw[hdct]
 simp only[Bool.not_true,Bool.false_eq_true,if_false]
 rw[if_neg (show ¬ ((false||!typeHasDict (Value.ref too))=true) from Bool.false_ne_true)]
 refine wpAny_bind (wpAny_alloc ?_)
 have hx₁: (hh.push {cls := .type "dict",data := .dict #[]}).get? x=some {cls := .ref too,data := .fields vs} := Heap.get?_push_of_some _ hx
 refine wpAny_bind (wpAny_update hx₁ (wpAny_pure ?_))
 have hne: x≠hh.objs.size := Nat.ne_of_lt (Heap.lt_size hx)
 have hx₂ := Heap.get?_update_self (fun o=>({o with dict := some hh.objs.size}: Obj)) hx₁ rfl
 have D: ((hh.push {cls := .type "dict",data := .dict #[]}).update x fun o=>{o with dict := some hh.objs.size}).get? hh.objs.size=some {cls := .type "dict",data := .dict #[]} := by
  rw[Heap.get?_update_other _ _ hne];exact Heap.get?_push_size _ rfl
 have keep: ∀ b o,b≠x->hh.get? b=some o->((hh.push {cls := .type "dict",data := .dict #[]}).update x fun o=>{o with dict := some hh.objs.size}).get? b=some o := fun b o hb e=>by
  rw[Heap.get?_update_other _ _ (Ne.symm hb)];exact Heap.get?_push_of_some _ e
 show wpAny _ _ (storeInDict hh.objs.size (.str "told" tk) "told" v) _ _ ⟨(hh.push {cls := .type "dict",data := .dict #[]}).update x fun o=>{o with dict := some hh.objs.size},g,d,tk+1,os⟩
 generalize ((hh.push {cls := .type "dict",data := .dict #[]}).update x fun o=>{o with dict := some hh.objs.size})=H at hx₂ D keep ⊢
 unfold storeInDict
 refine wpAny_bind (wpAny_pure (wpAny_bind ?_))
 unfold nsSet
 refine wpAny_bind (wpAny_bind (wpAny_askSetting (wpAny_pure (wpAny_bind (wpAny_mkText (wpAny_bind (wpAny_loadPart D ?_)))))))
 dsimp only
 have c0: (!(#[]: Array DictEntry).any (·.key.isStr "told")&&(#[]: Array DictEntry).any (·.refKey))=false := by simp
 rw[aRefKeyMayBeTheName_at,c0]
 have D' := Heap.get?_update_self (Obj.putName "told" (PyData.keyHash w.params "told") (.str "told" (tk+1)) v) D (by rfl)
 have e': Obj.putName "told" (PyData.keyHash w.params "told") (.str "told" (tk+1)) v {cls := .type "dict",data := .dict #[]}=dictOf [⟨PyData.keyHash w.params "told",.str "told" (tk+1),v⟩] 1 := rfl
 rw[e']at D'
 refine wpAny_updatePart D ?_
 refine wpAny_bind (wpAny_lookBehind D' (pastItsLine_dict (by rw[sizeLine_eq];simp)) ?_)
 refine wpAny_pure (h _ hh.objs.size (tk+1) 1 ?_ D' (fresh_none hh) fun b o hb e=>?_)
 ·rw[Heap.get?_update_other _ _ (Ne.symm hne)];exact hx₂
 ·rw[Heap.get?_update_other _ _ (fun q=>by subst q;rw[fresh_none]at e;cases e)];exact keep b o hb e
theorem exc_get (F: ExcF K too rb fI) (X: K.In s.heap) {vs: Array Value} {sl: Array (Option Value)} {dx: Addr} {es: List DictEntry} {n: Nat} {v: Value} {Q: Value->Shared->Prop} (hx: s.heap.get? x=some ⟨.ref too,some dx,.fields vs,sl⟩) (hd: s.heap.get? dx=some (dictOf es n))
  (hl: getL "told" es=some (some v)) (hv: handedIn v=true) (h: Q v {s with toks := s.toks+1}): wpAny (model prog w) A (getAttr (.ref x) "told" true) Q E s := by
 obtain⟨hh,g,d,tk,os⟩ := s
 have X: K.In hh := X
 have hx: hh.get? x=_ := hx
 obtain⟨cd,hc,hm,hdct⟩ := F.mro
 have I: InstAt hh x ⟨.ref too,some dx,.fields vs,sl⟩ too (some (dictOf es n)) := ⟨hx,rfl,rfl,hd⟩
 have T: Looks (model prog w) hh (typeOf (.ref x)) (.ref too) := I.type
 have L1 := looks_findIn (M := model prog w) X F.geta
 have L2 := looks_findIn (M := model prog w) X F.getr
 have L3 := looks_find (M := model prog w) X I (findObj_own (K := K) (by unfold hasDictIn;rw[hc];exact hdct) F.told rfl (v := v) (by rw[lookIn_dict];exact hl))
 have sub: Looks (model prog w) hh (isInstance (.ref x) (.type "BaseException")) true := T.andThen (F.has (s := ⟨hh,g,d,tk,os⟩) (b := .type "BaseException") X (by simp))
 have FB := PySem.F.attr_Exception
 unfold getAttr getAttrBy
 refine wpAny_bind (wpAny_mkText (wpAny_holding (wpAny_bind (T.here (wpAny_bind (L1.here ?_))))))
 show wpAny _ _ (getAttrByItsOwn (.ref x) (.str "told" tk) (.ref too) (.builtin "BaseException.__getattribute__") true true) _ _ _
 unfold getAttrByItsOwn hookBefore
 rw[if_pos (show onTheHeap (Value.ref too)=true from rfl)]
 refine wpAny_bind (L2.here (wpAny_bind (wpAny_attempt (wpAny_holding ?_))))
 show wpAny _ _ (boundAndCalled (.builtin "BaseException.__getattribute__") (.ref x) (.str "told" tk)) _ _ _
 unfold boundAndCalled
 rw[FB.ga.bind]
 refine wpAny_bind (wpAny_pure ?_)
 show wpAny _ _ (call (.builtin "BaseException.__getattribute__") [.ref x,.str "told" tk]) _ _ _
 have hk: builtinKind "BaseException.__getattribute__"=some .slot := by decide +kernel
 have hsplit: splitId "BaseException.__getattribute__"=some ("BaseException","__getattribute__") := by decide +kernel
 refine wpAny_call (codeAny_call_builtin FB.ga.plain PySem.F.entry_bexc_ga (@check_slot (model prog w) _ _ ⟨hh,g,d,tk+1,os⟩ "BaseException.__getattribute__" "BaseException" "__getattribute__" (.ref x) [.str "told" tk] [] _ hk hsplit sub (PySem.F.args_bexc_ga _ _) ?_))
 unfold Builtin.«object.__getattribute__»
 have e1: slotArgs "__getattribute__" 1 ⟨[.ref x,.str "told" tk],[]⟩=pure (Value.ref x,[Value.str "told" tk]) := rfl
 rw[e1,pure_bind]
 dsimp only
 have e2: attrName (.str "told" tk)=pure ("told": Str) := rfl
 rw[e2,pure_bind]
 refine wpAny_bind (T.here (wpAny_bind (L3.here ?_)))
 refine wpAny_pure ?_
 show wpAny _ _ (handedOut v) _ _ _
 rw[handedOut_of hv]
 exact wpAny_pure h
end
end
section
section
variable {prog: Program} {w: World} {A: Around} {E: Value->Shared->Prop} {R: Result->Shared->Prop} {h: Heap} {g: Array GenState} {d: Drawn} {t: Nat} {os: OsState}
variable {nm q: Str} {C N rb fI: Addr} {hdct: Bool} {sn: List Str} {sub: List Value} {col: Option Bool} {dd: Option Addr} {k0 k1 k2 k3 k5: Option Value}
abbrev tailE (rb: Addr): List Value := [.ref rb,.type "Exception",.type "BaseException",.type "object"]
theorem exc_check {M: Model} {rest: List Value} {Q: Unit->Shared->Prop} (hC: h.get? C=some (excClassObj nm q C N [.ref rb] (tailE rb) hdct sn sub false col dd k0 k1 k2 k3 k5 "Exception.__new__"))
  (hq: Q () ⟨h,g,d,t,os⟩): wpAny M A (checkBuiltinCall "Exception.__new__" ⟨.ref C::rest,[]⟩) Q E ⟨h,g,d,t,os⟩ := by
 have Fn := PySem.F.excBase_Exception
 have hcont: (Value.ref C::tailE rb).contains (.type "Exception")=true := by simp
 have hstar := Fn.noStar
 simp only[checkBuiltinCall,Fn.newKind,Fn.newSplit,Fn.newRow]
 repeat (first|refine wpAny_loadPart_at hC ?_|(refine wpAny_isSubtype_exc hC ?_;rw[hcont])|refine wpAny_staticBase_exc hC ?_|refine wpAny_madeBy_exc hC ?_|simp only[bne_self_eq_false,Bool.false_eq_true,if_false]|wp_step)
 exact hq
theorem exc_new {rest: List Value} (hC: h.get? C=some (excClassObj nm q C N [.ref rb] (tailE rb) hdct sn sub false col dd k0 k1 k2 k3 k5 "Exception.__new__"))
  (hq: R (.ok (.ret (.ref (h.objs.size+1)))) ⟨(h.push {cls := .type "tuple",data := .seq rest.toArray}).push
   {cls := .ref C,data := .fields #[.ref h.objs.size,.none,.none,.none,.bool false,.none]},g,d,t,os⟩) (hrest: rest.length<=sizeLine) :
  codeAny (model prog w) A (.builtin "Exception.__new__" ⟨.ref C::rest,[]⟩) R ⟨h,g,d,t,os⟩ := by
 have Fn := PySem.F.excBase_Exception
 have hends := Fn.ends
 have hcB: (Value.ref C::tailE rb).contains (.type "Exception")=true := by simp
 have hcA: (Value.ref C::tailE rb).contains (.type "AttributeError")=false := by simp
 have hcN: (Value.ref C::tailE rb).contains (.type "NameError")=false := by simp
 refine codeAny_builtinAt Fn.entry ?_
 unfold Builtin.«BaseException.__new__»
 refine PySem.wpAt_bind ?_
 show PySem.wpAt _ _ _ (stack >>= _) _ _ _
 refine PySem.wpAt_bind (PySem.wpAt_stack fun p below=>PySem.wpAt_of_wpAny ?_)
 wp_walk
 refine PySem.wpAt_of_wpAny ?_
 rw[Fn.owner]
 repeat (first|with_reducible refine wpAny_madeHere_exc Fn.canon hC ?_|with_reducible refine wpAny_loadPart_at hC ?_|(with_reducible refine wpAny_isSubtype_exc hC ?_;first|rw[hcB]|rw[hcA]|rw[hcN])|wp_step)
 show R _ _
 rw[Heap.size_push]
 exact hq
variable {K: Frag} {too: Addr}
theorem exc_type_call {rest: List Value} {Q: Fin->Shared->Prop} (F: ExcF K too rb fI) (X: K.In h)
  (hq: ∀ h' e,Heap.MadeExcOf h h' e (.ref too) rest->
   wpAny (model prog w) A (call (.ref fI) (.ref e::rest)) (fun r s'=>r=.none/\Q (.done (.ret (.ref e))) s') E ⟨h',g,d,t,os⟩) (hrest: rest.length<=sizeLine) :
  wpAny (model prog w) A (Builtin.«type.__call__» ⟨.ref too::rest,[]⟩) Q E ⟨h,g,d,t,os⟩ := by
 obtain⟨nm,q,N,hdct,sn,sub,col,dd,k0,k1,k2,k3,k5,hK⟩ := F.cls
 have hC := X _ _ hK
 have Fn := PySem.F.excBase_Exception
 repeat (first|with_reducible refine wpAny_loadPart_at hC ?_|with_reducible refine wpAny_madeBy_exc hC ?_|wp_step)
 refine codeAny_call_builtin_code (Code.quiet_builtin _ Fn.quiet) (exc_check hC ?_)
 refine exc_new hC ?_ hrest
 show wpAny _ _ _ _ _ _
 have keep: ∀ b o,h.get? b=some o->((h.push {cls := .type "tuple",data := .seq rest.toArray}).push {cls := .ref too,data := .fields #[.ref h.objs.size,.none,.none,.none,.bool false,.none]}).get? b=some o := fun b o e=>Heap.get?_push_of_some _ (Heap.get?_push_of_some _ e)
 have hC₁ := keep _ _ hC
 have X₁: K.In ((h.push {cls := .type "tuple",data := .seq rest.toArray}).push {cls := .ref too,data := .fields #[.ref h.objs.size,.none,.none,.none,.bool false,.none]}) := X.keeps keep
 have hget: ((h.push {cls := .type "tuple",data := .seq rest.toArray}).push
   {cls := .ref too,data := .fields #[.ref h.objs.size,.none,.none,.none,.bool false,.none]}).get? (h.objs.size+1)=some
   {cls := .ref too,data := .fields #[.ref h.objs.size,.none,.none,.none,.bool false,.none]} := by heap_get
 have hcC: (Value.ref too::tailE rb).contains (.ref too)=true := by simp
 unfold isInstance
 repeat (first|with_reducible refine wpAny_loadPart_at hget ?_|(with_reducible refine wpAny_isSubtype_exc hC₁ ?_;rw[hcC])|wp_step)
 show wpAny _ _ (typeLookup (.ref too) _) _ _ _
 refine(looks_findIn (M := model prog w) X₁ F.init).here ?_
 refine wpAny_holding (wpAny_bind ?_)
 refine(bind_fn (M := model prog w) X₁ (.ref (h.objs.size+1)) F.fn).here ?_
 refine wpAny_bind (wpAny_mono (hq _ (h.objs.size+1) ⟨keep,Heap.get?_none_of_le (Nat.le_succ _),h.objs.size,hget,Heap.get?_none_of_le (Nat.le_refl _),?_⟩) (fun r s' hr=>?_) fun _ _ x=>x)
 ·exact Heap.get?_push_of_some _ (Heap.get?_push_at rfl rfl)
 ·obtain⟨rfl,hQ⟩ := hr
  wp_walk
  exact hQ
theorem exc_call {rest: List Value} {Q: Value->Shared->Prop} (F: ExcF K too rb fI) (X: K.In h)
  (hq: ∀ h' e,Heap.MadeExcOf h h' e (.ref too) rest->
   wpAny (model prog w) (A.under (.builtin "type.__call__" ⟨.ref too::rest,[]⟩)) (call (.ref fI) (.ref e::rest)) (fun r s'=>r=.none/\Q (.ref e) s') E ⟨h',g,d,t,os⟩) (hrest: rest.length<=sizeLine) :
  wpAny (model prog w) A (call (.ref too) rest) Q E ⟨h,g,d,t,os⟩ := by
 obtain⟨nm,q,N,hdct,sn,sub,col,dd,k0,k1,k2,k3,k5,hK⟩ := F.cls
 have hC := X _ _ hK
 have f1 := tc_lookup
 have f2 := tc_bind (.ref too)
 have hT: (⟨h,g,d,t,os⟩: Shared).TypeIs (.ref too) "type" := ⟨_,hC,rfl⟩
 refine wpAny_call (codeAny_of_tree ?_)
 show wpAny _ _ (callAny (.ref too) _) _ _ _
 repeat (any_goals (first|assumption|with_reducible refine wpAny_loadPart_at hC ?_|wp_step))
 refine⟨rfl,?_⟩
 refine codeAny_call_builtin_at (Code.quiet_builtin _ (by decide +kernel)) entry_typeCall (wpAny_check_type_call_sub hC (exc_type_call F X (fun h' e hm=>?_) hrest))
 exact hq h' e hm
end
end
section
section
variable {W: Wd} {too: Addr} {g kp: Hp} {m: Mt} {s: Shared} {A: Around} {E: Value->Shared->Prop}
def FrK (kp: Hp) (l: List Env): Prop := ∀ env∈l,env.scope.kind≠.module/\∃ L o,env.frame=some L/\kp L=some o/\isD o=true
theorem FrK.funs (S: Sim W g kp m s): ∀{l: List Env},FrK kp l->s.heap.FunFrames {s.heap with objs := #[]} l
 |[],_=>trivial
 |env::r,h=>by
  obtain⟨h1,L,o,h2,h3,h4⟩ := h env (.head _)
  obtain⟨o',ho',hd,_⟩ := (S.kept L o h3).2.ns
  refine⟨h1,⟨L,o',h2,?_,ho',fun vs q=>?_⟩,FrK.funs S fun e he=>h e (.tail _ he)⟩
  ·cases e: Heap.get? {s.heap with objs := #[]} L with
   |none=>rfl
   |some o=>exact absurd (Heap.lt_size e) (Nat.not_lt_zero _)
  ·rw[hd]at q;unfold isD at h4;rw[q]at h4;cases h4
theorem FrK.mem {l: List Env} (h: FrK kp l) {b: Addr} (hb: b∈l.filterMap (·.frame)): ∃ o,kp b=some o/\isD o=true := by
 obtain⟨env,he,hf⟩ := List.mem_filterMap.mp hb
 obtain⟨_,L,o,h2,h3,h4⟩ := h env he
 rw[h2]at hf;cases hf
 exact⟨o,h3,h4⟩
theorem entry_rule {env: Env} {outer: List Env} {L ea dx: Addr} {vs: Array Value} {sl: Array (Option Value)} {head: Value} {hn: Bool} {Q: Unit->Shared->Prop} (hfr: A.frames=some (env::outer)) (K: FrK kp (env::outer)) (hf: env.frame=some L) (S: Sim W g kp m s)
  (he: s.heap.get? ea=some ⟨.ref too,some dx,.fields vs,sl⟩) (off: g ea=none/\kp ea=none/\m ea=none) (offd: g dx=none/\kp dx=none/\m dx=none) (hne: dx≠ea) {od: Obj} (hdx: s.heap.get? dx=some od) (hsz: 1<vs.size)
  (h: ∀ h' T ts,Sim W g kp m {s with heap := h'}->h'.get? ea=some ⟨.ref too,some dx,.fields (vs.setIfInBounds 1 (.ref T)),sl⟩->h'.get? dx=some od->(g T=none/\kp T=none/\m T=none)->T≠ea->T≠dx->
   (∃ oT,h'.get? T=some oT/\oT.data=.fields ts/\ts[3]?=some .none)->Q () {s with heap := h'}) :
  wpAny W.M A (do let a <-frameOf env;let pl <-entryPlaceOf L hn;let b <-EntryCells.newEntry head a .none (rawInt L) .none pl;setField (.ref ea) 1 b) (fun _ s'=>wpAny W.M A (setFlight (.ref ea) none) Q E s') E s := by
 have hFn: ∀ b∈(env::outer).filterMap (·.frame),∃ o,kp b=some o/\isD o=true := fun b hb=>K.mem hb
 have notF: ∀ b,kp b=none->b∉(env::outer).filterMap (·.frame) := fun b hb hm=>by obtain⟨o,ho,_⟩ := hFn b hm;rw[hb]at ho;cases ho
 refine wpAny_bind (wpAny_frameOf_fun hfr (K.funs S) hf fun h₁ hs₁=>?_)
 refine wpAny_bind (wpAny_entryPlaceOf fun pl hpl=>?_)
 unfold EntryCells.newEntry newFields
 refine wpAny_bind (wpAny_newObj_type ?_ (hpl.sizeOk5 _ _ _ _ _))
 have he₁: h₁.get? ea=some ⟨.ref too,some dx,.fields vs,sl⟩ := (hs₁.2.1 ea (notF ea off.2.1)).trans he
 have hd₁: h₁.get? dx=some od := (hs₁.2.1 dx (notF dx offd.2.1)).trans hdx
 generalize hTo: ({cls := .type "traceback",dict := none,data := .fields ([head,.ref L,.none,rawInt L,.none]++(if pl.isEmpty then List.replicate 6 Value.none else pl)).toArray}: Obj)=oT
 have hTd: oT.data=.fields ([head,.ref L,.none,rawInt L,.none]++(if pl.isEmpty then List.replicate 6 Value.none else pl)).toArray := by rw[<-hTo]
 have hTf: oT.isFreed=false := by rw[<-hTo];rfl
 have hTs: oT={cls := oT.cls,dict := oT.dict,data := oT.data,slots := oT.slots} := rfl
 have he₂ := Heap.get?_push_of_some (h := h₁) oT he₁
 have hd₂ := Heap.get?_push_of_some (h := h₁) oT hd₁
 have hT₂: (h₁.push oT).get? h₁.objs.size=some oT := Heap.get?_push_size h₁ hTf
 have hszs: h₁.objs.size=s.heap.objs.size := hs₁.1
 have hTe: h₁.objs.size≠ea := Nat.ne_of_gt (Heap.lt_size he₁)
 have hTdx: h₁.objs.size≠dx := Nat.ne_of_gt (Heap.lt_size hd₁)
 refine wpAny_setField he₂ rfl hsz ?_
 have he₃ := Heap.get?_update_self (Obj.mapFields (·.setIfInBounds 1 (Value.ref h₁.objs.size))) he₂ rfl
 have hd₃ := (Heap.get?_update_other (h₁.push oT) (Obj.mapFields (·.setIfInBounds 1 (Value.ref h₁.objs.size))) (Ne.symm hne)).trans hd₂
 have hT₃ := (Heap.get?_update_other (h₁.push oT) (Obj.mapFields (·.setIfInBounds 1 (Value.ref h₁.objs.size))) (Ne.symm hTe)).trans hT₂
 unfold setFlight
 refine wpAny_bind (wpAny_field he₃ rfl (x := .ref h₁.objs.size) (by simp[hsz]) ?_)
 rw[if_pos (show(Value.ref h₁.objs.size != Value.none)=true from by simp)]
 refine wpAny_setField hT₃ hTd (by simp only[List.size_toArray,List.length_append,List.length_cons,List.length_nil]<;>omega) ?_
 have keep: ∀ b o,b≠ea->h₁.get? b=some o->(((h₁.push oT).update ea (Obj.mapFields (·.setIfInBounds 1 (Value.ref h₁.objs.size)))).update h₁.objs.size (Obj.mapFields (·.setIfInBounds 3 ((none: Option Addr).elim Value.none fun f=>rawInt f)))).get? b=some o := fun b o hbe hb=>by
  have hbT: h₁.objs.size≠b := Nat.ne_of_gt (Heap.lt_size hb)
  rw[Heap.get?_update_other _ _ hbT,Heap.get?_update_other _ _ (Ne.symm hbe)]
  exact Heap.get?_push_of_some _ hb
 have keepS: ∀ b o,b≠ea->kp b=none->s.heap.get? b=some o->h₁.get? b=some o := fun b o hbe hk hb=>(hs₁.2.1 b (notF b hk)).trans hb
 have hTn: s.heap.get? h₁.objs.size=none := by rw[hszs];exact fresh_none _
 refine h _ h₁.objs.size _ ⟨S.base,fun b o hb=>?_,fun b o hb=>?_,fun b o hb=>?_,S.mabove,S.gens,S.os⟩ ?_ (keep dx od hne hd₁) ⟨S.gnone hTn,S.knone hTn,S.mnone hTn⟩ hTe hTdx ⟨_,Heap.get?_update_self _ hT₃ (Obj.isFreed_of_fields (Obj.data_mapFields hTd _)),Obj.data_mapFields hTd _,?_⟩
 ·have hbe: b≠ea := fun q=>by subst q;rw[off.1]at hb;cases hb
  refine keep b o hbe ?_
  have hbk: kp b=none := by
   cases q: kp b with
   |none=>rfl
   |some o'=>have := (S.kept b o' q).1;rw[hb]at this;cases this
  exact keepS b o hbe hbk (S.frz b o hb)
 ·have hbe: b≠ea := fun q=>by subst q;rw[off.2.1]at hb;cases hb
  obtain⟨k1,k2⟩ := S.kept b o hb
  refine⟨k1,?_⟩
  by_cases hm: b∈(env::outer).filterMap (·.frame)
  ·obtain⟨o₂,ho₂,hdd⟩ := hFn b hm
   rw[hb]at ho₂;cases ho₂
   rcases k2 with q|⟨_,sl',q⟩
   ·obtain⟨sl₂,q₂⟩ := hs₁.2.2 b _ q
    exact .inr ⟨hdd,sl₂,keep b _ hbe q₂⟩
   ·obtain⟨sl₂,q₂⟩ := hs₁.2.2 b _ q
    exact .inr ⟨hdd,sl₂,keep b _ hbe q₂⟩
  ·rcases k2 with q|⟨hdd,sl',q⟩
   ·exact .inl (keep b _ hbe ((hs₁.2.1 b hm).trans q))
   ·exact .inr ⟨hdd,sl',keep b _ hbe ((hs₁.2.1 b hm).trans q)⟩
 ·obtain⟨k1,k2,ob,k3,k4⟩ := S.muts b o hb
  have hbe: b≠ea := fun q=>by subst q;rw[off.2.2]at hb;cases hb
  exact⟨k1,k2,ob,keep b ob hbe (keepS b ob hbe k2 k3),k4⟩
 ·rw[Heap.get?_update_other _ _ hTe];exact he₃
 ·first|(simp;done)|(rcases hpl with rfl|⟨_,_,_,_,_,_,_,rfl⟩<;>simp)
theorem note_rule {env: Env} {outer: List Env} {L ea: Addr} {d: DV} {Q: Unit->Shared->Prop} (hfr: A.frames=some (env::outer)) (K: FrK kp (env::outer)) (hf: env.frame=some L) (S: Sim W g kp m s) (x: Exc g kp m too ea d s)
  (h: ∀ s',Sim W g kp m s'->Exc g kp m too ea d s'->Q () s'): wpAny W.M A (noteFrame (.ref ea) env) (fun _ s₂=>wpAny W.M A (setFlight (.ref ea) none) Q E s₂) E s := by
 obtain⟨off,dx,vs,sl,es,n,o1,o2,o3,o4,o5,o6,o7⟩ := x
 have fin: ∀(s₀: Shared) (head: Value) (hn: Bool),Sim W g kp m s₀->s₀.heap.get? ea=some ⟨.ref too,some dx,.fields vs,sl⟩->s₀.heap.get? dx=some (dictOf es n)->
   wpAny W.M A (do let a <-frameOf env;let pl <-entryPlaceOf L hn;let b <-EntryCells.newEntry head a .none (rawInt L) .none pl;setField (.ref ea) 1 b) (fun _ s'=>wpAny W.M A (setFlight (.ref ea) none) Q E s') E s₀ := fun s₀ head hn S₀ p1 p2=>
  entry_rule hfr K hf S₀ p1 off o4 o5 p2 o6 fun h' T ts S' q1 q2 q3 q4 q5 ⟨oT,q6,q7,q8⟩=>h _ S' ⟨off,dx,_,sl,es,n,q1,q2,o3,o4,o5,by simpa using o6,.inr ⟨T,oT,ts,by simp[o6],q3,q4,q5,q6,q7,q8⟩⟩
 unfold noteFrame
 simp only[hf]
 rcases o7 with o7|⟨T,oT,ts,t1,⟨t2,t3,t4⟩,t5,t6,t7,t8,t9⟩
 ·refine wpAny_bind (wpAny_field o1 rfl o7 ?_)
  rw[if_neg (by decide)]
  exact fin s _ _ S o1 o2
 ·refine wpAny_bind (wpAny_field o1 rfl t1 ?_)
  rw[if_pos (show(Value.ref T != Value.none)=true from by simp)]
  refine wpAny_bind (wpAny_field t7 t8 t9 ?_)
  rw[if_neg (show ¬ ((Value.none==rawInt L)=true) from by simp[rawInt])]
  refine wpAny_bind (wpAny_setField t7 t8 (Array.getElem?_eq_some_iff.mp t9).1 ?_)
  have other: ∀ b o,b≠T->s.heap.get? b=some o->(s.heap.update T (Obj.mapFields (·.setIfInBounds 3 Value.none))).get? b=some o := fun b o hb e=>(Heap.get?_update_other _ _ (Ne.symm hb)).trans e
  refine fin _ _ _ ⟨S.base,fun b o hb=>other b o (fun q=>by subst q;rw[t2]at hb;cases hb) (S.frz b o hb),fun b o hb=>?_,fun b o hb=>?_,S.mabove,S.gens,S.os⟩ (other _ _ (Ne.symm t5) o1) (other _ _ (Ne.symm t6) o2)
  ·obtain⟨k1,k2⟩ := S.kept b o hb
   exact⟨k1,k2.other fun o' e=>other b o' (fun q=>by subst q;rw[t3]at hb;cases hb) e⟩
  ·obtain⟨k1,k2,ob,k3,k4⟩ := S.muts b o hb
   exact⟨k1,k2,ob,other b ob (fun q=>by subst q;rw[t4]at hb;cases hb) k3,k4⟩
theorem leave_rule {env: Env} {outer: List Env} {L ea: Addr} {d: DV} {Q: Unit->Shared->Prop} (hfr: A.frames=some (env::outer)) (K: FrK kp (env::outer)) (hf: env.frame=some L) (S: Sim W g kp m s) (x: Exc g kp m too ea d s)
  (h: ∀ s',Sim W g kp m s'->Exc g kp m too ea d s'->Q () s'): wpAny W.M A (leaving env (.ref ea)) Q E s := by
 unfold leaving
 exact wpAny_bind (note_rule hfr K hf S x h)
theorem flight_rule {ea: Addr} {d: DV} {Q: Unit->Shared->Prop} (S: Sim W g kp m s) (x: Exc g kp m too ea d s) (h: ∀ s',Sim W g kp m s'->Exc g kp m too ea d s'->Q () s'): wpAny W.M A (setFlight (.ref ea) none) Q E s := by
 obtain⟨off,dx,vs,sl,es,n,o1,o2,o3,o4,o5,o6,o7⟩ := x
 unfold setFlight
 rcases o7 with o7|⟨T,oT,ts,t1,⟨t2,t3,t4⟩,t5,t6,t7,t8,t9⟩
 ·refine wpAny_bind (wpAny_field o1 rfl o7 ?_)
  rw[if_neg (by decide)]
  exact wpAny_pure (h s S ⟨off,dx,vs,sl,es,n,o1,o2,o3,o4,o5,o6,.inl o7⟩)
 ·refine wpAny_bind (wpAny_field o1 rfl t1 ?_)
  rw[if_pos (show(Value.ref T != Value.none)=true from by simp)]
  have hsz := (Array.getElem?_eq_some_iff.mp t9).1
  refine wpAny_setField t7 t8 hsz ?_
  have other: ∀ b o,b≠T->s.heap.get? b=some o->(s.heap.update T (Obj.mapFields (·.setIfInBounds 3 Value.none))).get? b=some o := fun b o hb e=>(Heap.get?_update_other _ _ (Ne.symm hb)).trans e
  have hT := Heap.get?_update_self (Obj.mapFields (·.setIfInBounds 3 Value.none)) t7 (Obj.isFreed_of_fields (Obj.data_mapFields t8 _))
  refine h _ ⟨S.base,fun b o hb=>other b o (fun q=>by subst q;rw[t2]at hb;cases hb) (S.frz b o hb),fun b o hb=>?_,fun b o hb=>?_,S.mabove,S.gens,S.os⟩ ⟨off,dx,vs,sl,es,n,other _ _ (Ne.symm t5) o1,other _ _ (Ne.symm t6) o2,o3,o4,o5,o6,.inr ⟨T,_,_,t1,⟨t2,t3,t4⟩,t5,t6,hT,Obj.data_mapFields t8 _,by simp[hsz]⟩⟩
  ·obtain⟨k1,k2⟩ := S.kept b o hb
   exact⟨k1,k2.other fun o' e=>other b o' (fun q=>by subst q;rw[t3]at hb;cases hb) e⟩
  ·obtain⟨k1,k2,ob,k3,k4⟩ := S.muts b o hb
   exact⟨k1,k2,ob,other b ob (fun q=>by subst q;rw[t4]at hb;cases hb) k3,k4⟩
end
end
section
structure FnK (W: Wd) (f: Addr) (fd: FuncData) (body: List Stmt): Prop where
 at_: ∃ o,W.K.lookup f=some o/\o.data=.func fd
 body: fd.body=.stmts body
 code: codeIn W.K fd.code fd.qualname=true
 clo: fd.closure=[]
 co: fd.scope.isCoroutine=false
 gen: fd.scope.isGenerator=false
 kind: fd.scope.kind=.function
 gl: fd.globals=mainGlobals
 bi: fd.builtins=builtinsNs
 names: okNames fd.scope.names=true
 dis: distinct ((kinds fd.scope.names).map (·.1))=true
 nofree: ∀ x∈fd.scope.names,x.2≠.free
theorem cells_keys: ∀(l: List (Str×NameKind)) (n: Nat) (acc: List (Str×Addr)),(cellsFrom n l acc).map (·.1)=((l.filter fun x=>x.2==.cell).map (·.1)).reverse++acc.map (·.1)
 |[],n,acc=>by simp[cellsFrom]
 |(x,k)::r,n,acc=>by
  unfold cellsFrom
  rw[List.filter_cons]
  cases h: k==NameKind.cell with
  |true=>simp only[if_true];rw[cells_keys r];simp
  |false=>simp only[Bool.false_eq_true,if_false];rw[cells_keys r]
theorem keys_nodup: ∀{l: List (Str×NameKind)},okNames l=true->distinct ((kinds l).map (·.1))=true->(l.map (·.1)).Nodup := by
 intro l ok hd
 have nd := distinct_nodup hd
 have e: (kinds l).map (·.1)=(l.map (·.1)).map enc := by
  clear ok hd nd
  induction l with
  |nil=>rfl
  |cons x r ih=>obtain⟨a,b⟩ := x;rw[kinds_cons,List.map_cons,ih];rfl
 rw[e]at nd
 exact List.Pairwise.of_map enc (fun a b hab e=>hab (by rw[e])) nd
theorem lookup_of_mem {α: Type}: ∀{l: List (Str×α)} {x: Str} {c: α},(l.map (·.1)).Nodup->(x,c)∈l->l.lookup x=some c
 |[],_,_,_,h=>by cases h
 |(y,d)::r,x,c,nd,h=>by
  rw[List.map_cons,List.nodup_cons]at nd
  rw[List.lookup_cons]
  rcases List.mem_cons.mp h with e|h'
  ·cases e;simp
  ·have: (x==y)=false := by
    rw[beq_eq_false_iff_ne];intro e;subst e
    exact nd.1 (List.mem_map.mpr ⟨_,h',rfl⟩)
   rw[this];exact lookup_of_mem nd.2 h'
theorem lookup_some_of_key {α: Type}: ∀{l: List (Str×α)} {x: Str},x∈l.map (·.1)->∃ c,l.lookup x=some c
 |[],_,h=>by cases h
 |(y,d)::r,x,h=>by
  rw[List.lookup_cons]
  cases e: x==y with
  |true=>exact⟨d,rfl⟩
  |false=>
   rw[List.map_cons]at h
   rcases List.mem_cons.mp h with q|h
   ·rw[beq_eq_false_iff_ne]at e;exact absurd q e
   ·exact lookup_some_of_key h
theorem bindL_at {kindOf: Str->Option NameKind}: ∀{ns: List Str} {vs: List Value} {m: Str->Option Value} {x: Str} {v: Value},ns.Nodup->(x,v)∈ns.zip vs->kindOf x=some .local->bindL kindOf (ns.zip vs) m x=some v := by
 have other: ∀(ns: List Str) (vs: List Value) (m: Str->Option Value) (x: Str),x∉ns->bindL kindOf (ns.zip vs) m x=m x := by
  intro ns
  induction ns with
  |nil=>intro vs m x _;simp[bindL]
  |cons n ns ih=>
   intro vs m x hx
   cases vs with
   |nil=>simp[bindL]
   |cons v vs=>
    simp only[List.zip_cons_cons,bindL]
    rw[ih vs _ x (fun h=>hx (.tail _ h))]
    split
    ·show(if x=n then some v else m x)=m x;rw[if_neg (fun e=>hx (by rw[e];exact .head _))]
    ·rfl
 intro ns
 induction ns with
 |nil=>intro vs m x v _ h;simp at h
 |cons n ns ih=>
  intro vs m x v nd h hk
  rw[List.nodup_cons]at nd
  cases vs with
  |nil=>simp at h
  |cons w vs=>
   simp only[List.zip_cons_cons]at h ⊢
   simp only[bindL]
   rcases List.mem_cons.mp h with e|h
   ·cases e
    rw[other _ _ _ _ nd.1,if_pos hk];simp
   ·exact ih nd.2 h hk
theorem bindC_at {kindOf: Str->Option NameKind}: ∀{ns: List Str} {vs: List Value} {m: Str->Option Value} {x: Str} {v: Value},ns.Nodup->(x,v)∈ns.zip vs->kindOf x≠some .local->PySem.bindC kindOf (ns.zip vs) m x=some v := by
 have other: ∀(ns: List Str) (vs: List Value) (m: Str->Option Value) (x: Str),x∉ns->PySem.bindC kindOf (ns.zip vs) m x=m x := by
  intro ns
  induction ns with
  |nil=>intro vs m x _;simp[PySem.bindC]
  |cons n ns ih=>
   intro vs m x hx
   cases vs with
   |nil=>simp[PySem.bindC]
   |cons v vs=>
    simp only[List.zip_cons_cons,PySem.bindC]
    rw[ih vs _ x (fun h=>hx (.tail _ h))]
    split
    ·rfl
    ·show(if x=n then some v else m x)=m x;rw[if_neg (fun e=>hx (by rw[e];exact .head _))]
 intro ns
 induction ns with
 |nil=>intro vs m x v _ h;simp at h
 |cons n ns ih=>
  intro vs m x v nd h hk
  rw[List.nodup_cons]at nd
  cases vs with
  |nil=>simp at h
  |cons w vs=>
   simp only[List.zip_cons_cons]at h ⊢
   simp only[PySem.bindC]
   rcases List.mem_cons.mp h with e|h
   ·cases e
    rw[other _ _ _ _ nd.1,if_neg hk];simp
   ·exact ih nd.2 h hk
theorem zip_rep {g: Hp}: ∀{ns: List Str} {ds: List DV} {vs: List Value} {x: Str} {d: DV},(∀ y∈ns,okc y=true)->okc x=true->RepL g ds vs->look ((ns.map enc).zip ds) (enc x)=some d->∃ v,(x,v)∈ns.zip vs/\Rep g d v
 |[],_,_,_,_,_,_,_,h=>by simp[look]at h
 |_::_,_,_,_,_,_,_,.nil,h=>by simp[look]at h
 |n::ns,d'::ds,v::vs,x,d,hn,hx,.cons h1 r,h=>by
  simp only[List.map_cons,List.zip_cons_cons,look]at h
  by_cases e: enc n=enc x
  ·rw[e,beq_self]at h
   cases h
   have: n=x := enc_inj (hn n (.head _)) hx e
   subst this
   exact⟨v,.head _,h1⟩
  ·rw[beq_false e]at h
   obtain⟨w,a,b⟩ := zip_rep (fun y hy=>hn y (.tail _ hy)) hx r h
   exact⟨w,.tail _ a,b⟩
section
variable {W: Wd} {too: Addr} {n: Nat} {X: DV->Mt->Prop} {Q: DV->Mt->Prop}
theorem Sim.grow {g kp: Hp} {m: Mt} {s: Shared} (S: Sim W g kp m s) {h': Heap} {tk: Nat} (k: ∀ b o,s.heap.get? b=some o->h'.get? b=some o): Sim W g kp m {s with heap := h',toks := tk} where
 base := S.base
 frz b o h := k b o (S.frz b o h)
 kept b o h := ⟨(S.kept b o h).1,(S.kept b o h).2.other fun o' e=>k b o' e⟩
 muts b o h := let ⟨a,b',ob,c,d⟩ := S.muts b o h;⟨a,b',ob,k _ _ c,d⟩
 mabove := S.mabove
 gens := S.gens
 os := S.os
theorem call_of {f: Addr} {fd: FuncData} {body: List Stmt} (WO: W.Ok) (FK: FnK W f fd body) {ns: List Str} {ds dfl: List DV} {dvs: List Value} {m: Mt} (hns: ns.length=ds.length+dfl.length) (hin: ∀ x∈ns,okc x=true/\∃ k,fd.scope.names.lookup x=some k/\(k=.local\/k=.cell)) (nd: ns.Nodup)
  (hd: RepL W.h₀.get? dfl dvs)
  (hb: ∀(s: Shared) (vs: List Value),W.K.In s.heap->vs.length=ds.length->BindsTo s fd ⟨vs,[]⟩ (ns.zip (vs++dvs)))
  (hbody: ∀ cx: Cx,CxOk n cx->StOk cx->CellAt cx.env->cx.kd=kinds fd.scope.names->
   EvS W too cx (execs body cx.env) (fun r σ=>∃ m' d',Fz σ.mu (r.getD .none) m' d'/\Q d' m') (fun d σ=>X d σ.mu) ⟨(ns.map enc).zip (ds++dfl),m⟩): CallOk W too (n+1) f ds m Q X := by
 intro A g kp s vs room frames hsize S r
 have hK: W.K.In s.heap := WO.kin.keeps S.ext
 obtain⟨o,ho,hdata⟩ := FK.at_
 have r2: RepL g (ds++dfl) (vs++dvs) := r.append (hd.mono S.base)
 have knodup := keys_nodup FK.names FK.dis
 obtain⟨room1,room2,room3⟩ := room
 refine codeAny_call_function (by omega) (hK _ _ ho) hdata FK.co FK.gen FK.body (codeRec_of hK FK.code) (hb s vs hK r.length.symm _ _ _ _ ?_)
 rw[FK.clo]
 refine wpAny_newFunctionEnv_cells FK.kind (fun x hx=>?_) fun env he s' x=>?_
 ·obtain⟨hxok,k,hk,hkk⟩ := hin x.1 (List.of_mem_zip (by exact hx)).1
  rcases hkk with rfl|rfl
  ·exact .inl hk
  ·refine .inr ⟨hk,?_⟩
   have: x.1∈(cellsFrom (s.heap.objs.size+1) fd.scope.names []).map (·.1) := by
    rw[cells_keys]
    simp only[List.map_nil,List.append_nil,List.mem_reverse,List.mem_map,List.mem_filter]
    exact⟨(x.1,.cell),⟨lookup_mem' hk,rfl⟩,rfl⟩
   obtain⟨c,hc⟩ := lookup_some_of_key this
   rw[hc];rfl
 have hkind: ∀ y,env.kindOf y=fd.scope.names.lookup y := fun y=>by rw[he];rfl
 have hloc: env.locals=s.heap.objs.size := by rw[he];rfl
 have hframe: env.frame=some env.locals := by rw[he];rfl
 have hcells: env.cells=cellsFrom (s.heap.objs.size+1) fd.scope.names [] := by rw[he];rfl
 have hskind: env.scope.kind=.function := by rw[he];exact FK.kind
 obtain⟨h',tk,hs',keep⟩ := x.done
 subst hs'
 have hnoL: s.heap.get? env.locals=none := by rw[hloc];exact fresh_none _
 have hcK: (env.cells.map (·.1)).Nodup := by
  rw[hcells,cells_keys]
  simp only[List.map_nil,List.append_nil]
  rw[List.Nodup,List.pairwise_reverse]
  exact(knodup.sublist (List.Sublist.map _ List.filter_sublist)).imp fun h e=>h e.symm
 have hcN: ∀ y c,(y,c)∈env.cells->s.heap.get? c=none := fun y c hyc=>none_of_le (by have := x.above y c hyc;rw[hloc]at this;exact Nat.le_of_lt this)
 have cellAt: CellAt env := fun y hy=>by
  have hy': fd.scope.names.lookup y=some .cell := by
   rw[hkind]at hy
   rcases hy with q|q
   ·exact q
   ·exact absurd rfl (FK.nofree _ (lookup_mem' q))
  refine lookup_some_of_key ?_
  rw[hcells,cells_keys]
  simp only[List.map_nil,List.append_nil,List.mem_reverse,List.mem_map,List.mem_filter]
  exact⟨(y,.cell),⟨lookup_mem' hy',rfl⟩,rfl⟩
 have hkds: KindsOk env (kinds fd.scope.names) := fun y ok=>by
  have lk := kinds_look ok FK.names
  rw[hkind]
  refine⟨fun e=>?_,fun e=>?_,fun e=>?_⟩
  all_goals
   rw[lk]at e
   cases hl: fd.scope.names.lookup y with
   |none=>rw[hl]at e;cases e
   |some k=>rw[hl]at e;cases k<;>first|rfl|(cases e;done)|exact .inl rfl|exact .inr rfl
 have hndc: ∀ y c,(y,c)∈env.cells->env.cells.lookup y=some c := fun y c h=>lookup_of_mem hcK h
 refine⟨WO.nolim.keeps fun b o e=>keep b o (S.ext b o e),codeAny_func ?_⟩
 generalize hcx: ({A := A.deeper env,env := env,kd := kinds fd.scope.names,kp := kp,g₀ := g}: Cx)=cx
 have c1: cx.A=A.deeper env := by rw[<-hcx]
 have c2: cx.env=env := by rw[<-hcx]
 have c3: cx.kd=kinds fd.scope.names := by rw[<-hcx]
 have c4: cx.kp=kp := by rw[<-hcx]
 have c5: cx.g₀=g := by rw[<-hcx]
 have Sg: Sim W g kp m {s with heap := h',toks := tk} := S.grow keep
 have G: Good W cx g ⟨(ns.map enc).zip (ds++dfl),m⟩ {s with heap := h',toks := tk} := by
  refine⟨by rw[c5];exact Ext.rfl,by rw[c4];exact Sg,⟨⟨_,by rw[c2];exact x.toInCall.ns,fun y d ok hl h0=>?_⟩,fun y d ok hl h1=>?_,⟨by rw[c2];exact S.gnone hnoL,by rw[c2,c4];exact S.knone hnoL,by rw[c2];exact S.mnone hnoL⟩,fun y c hyc=>?_⟩,by rw[c2,hloc];exact hsize⟩
  ·rw[c3]at h0
   obtain⟨v,hv,rv⟩ := zip_rep (fun z hz=>(hin z hz).1) ok r2 hl
   exact⟨v,bindL_at nd hv ((hkds y ok).1 h0),rv⟩
  ·rw[c3]at h1
   obtain⟨v,hv,rv⟩ := zip_rep (fun z hz=>(hin z hz).1) ok r2 hl
   have hkc := (hkds y ok).2.1 h1
   obtain⟨c,hc⟩ := cellAt y hkc
   refine⟨c,v,by rw[c2];exact hc,?_,rv⟩
   have := x.cell y c hc
   rwa [bindC_at nd hv (by rcases hkc with q|q<;>rw[q]<;>simp)]at this
  ·rw[c2]at hyc
   have hn := hcN y c hyc
   refine⟨S.gnone hn,S.mnone hn,?_,_,x.cell y c (hndc y c hyc)⟩
   rw[c2];have := x.above y c hyc;exact Nat.ne_of_gt this
 obtain⟨l,hl,hfr⟩ := frames
 have hA: cx.A.frames=some (env::l) := by rw[c1];show A.frames.map _=_;rw[hl];rfl
 have C: CxOk n cx := by
  refine⟨?_,?_,by rw[c2,c3];exact hkds,⟨env::l,hA,fun e he=>?_⟩⟩
  ·rw[c2]
   refine⟨fun q=>?_,hskind,?_,?_⟩
   ·rw[hkind]at q
    exact(okNames_mem FK.names _ (lookup_mem' q)).2 rfl
   ·have: env.globals=fd.globals := by rw[he];rfl
    rw[this,FK.gl]
   ·have: env.builtins=fd.builtins := by rw[he];rfl
    rw[this,FK.bi]
  ·rw[c1]
   refine⟨room1,?_,?_⟩
   ·show A.depth+1+2 * n+4<=recursionLimit;omega
   ·show A.units+3+8 * n+80<=cLine;omega
  ·rcases List.mem_cons.mp he with rfl|he
   ·exact⟨by rw[hskind];simp,_,hframe,.inl (by rw[c2])⟩
   ·obtain⟨h1,L,o,h2,h3,h4⟩ := hfr e he
    exact⟨h1,L,h2,.inr ⟨o,by rw[c4];exact h3,h4⟩⟩
 have SO: StOk cx := by
  refine⟨fun y q=>?_,fun y q=>?_,fun y c hyc=>?_,⟨l,by rw[c2];exact hA,by rw[c2];exact hframe⟩,by rw[c2];exact x.apart⟩
  ·rw[c2,hkind]at q;exact FK.nofree _ (lookup_mem' q) rfl
  ·rw[c2]at q ⊢;exact cellAt y (.inl q)
  ·rw[c2]at hyc;rw[c4];exact S.knone (hcN y c hyc)
 have main := hbody cx C SO (by rw[c2];exact cellAt) c3 g _ G
 rw[c1,c2]at main
 refine wpAny_mono main (fun fl s'' p=>?_) fun e s'' hx=>?_
 ·cases fl with
  |next=>
   obtain⟨g',σ',e,G',m',d',hf,q⟩ := p
   obtain⟨g'',e',G'',rd⟩ := fz_sound (l := σ'.loc) hf G' (.none: Rep g' .none Value.none)
   exact⟨g'',m',d',e.trans e',by rw[<-c4];exact G''.sim,rd,q⟩
  |ret v=>
   obtain⟨g',σ',d,e,G',r,m',d',hf,q⟩ := p
   obtain⟨g'',e',G'',rd⟩ := fz_sound (l := σ'.loc) hf G' r
   exact⟨g'',m',d',e.trans e',by rw[<-c4];exact G''.sim,rd,q⟩
  |brk=>exact p.elim
  |cont=>exact p.elim
 ·obtain⟨ea,g',σ',d,rfl,G',xx,q⟩ := hx
  obtain⟨l',hl',hfr'⟩ := G'.frames C
  rw[hA]at hl'
  cases hl'
  have K: FrK (kpF cx s'') (env::l) := hfr'
  refine leave_rule (too := too) (d := d) (by rw[<-c1];exact hA) K hframe G'.simF xx fun s₃ S₃ x₃=>?_
  have Gb := G'.back Ext.rfl S₃
  refine⟨ea,g',σ'.mu,d,rfl,?_,by rw[<-c4];exact Gb.sim,x₃.off' fun b hb=>?_,q⟩
  ·have := G'.ext;rw[c5]at this;exact this
  ·cases hq: kp b with
   |none=>rfl
   |some o=>
    obtain⟨o',ho',_⟩ := kpF_old G' (by rw[c4];exact hq)
    rw[ho']at hb;cases hb
end
end
section
section
variable {W: Wd} {too rb fI: Addr} {n: Nat} {cx: Cx} {X: DV->St->Prop} {σ: St} {g: Hp} {m: Mt} {s: Shared} {A: Around} {E: Value->Shared->Prop}
structure InitF (W: Wd) (fI: Addr) (fd: FuncData): Prop where
 fn: ∃ p1 p2 p3 p4,FnK W fI fd [.Assign [.Attribute (.Name "self" p1) "told" p2] (.Name "told" p3) p4]
 nocell: noCell fd.scope.names=true
 l1: fd.scope.names.lookup ("self": Str)=some .local
 l2: fd.scope.names.lookup ("told": Str)=some .local
 binds: ∀(s: Shared) (a b: Value),W.K.In s.heap->BindsTo s fd ⟨[a,b],[]⟩ [("self",a),("told",b)]
theorem exc_made {fd: FuncData} (WO: W.Ok) (F: ExcF W.K too rb fI) (FI: InitF W fI fd) (hK: ∀ b o,W.h₀.get? b=some o->s.heap.get? b=some o) (hroom: A.depth+1<recursionLimit) {v: Value} {Q: Value->Shared->Prop}
  (hq: ∀ h' tk ea t dx n tk',(∀ b o,s.heap.get? b=some o->h'.get? b=some o)->s.heap.get? ea=none->s.heap.get? dx=none->ea≠dx->h'.get? ea=some ⟨.ref too,some dx,.fields #[.ref t,.none,.none,.none,.bool false,.none],#[]⟩->
   h'.get? dx=some (dictOf [⟨PyData.keyHash W.w.params "told",.str "told" tk',v⟩] n)->Q (.ref ea) {s with heap := h',toks := tk}) :
  wpAny W.M A (call (.ref too) [v]) Q E s := by
 obtain⟨hh,gg,dd,tk,os⟩ := s
 obtain⟨p1,p2,p3,p4,FK⟩ := FI.fn
 have X: W.K.In hh := WO.kin.keeps hK
 refine exc_call F X (fun h₁ ea Mk=>?_) (by rw[sizeLine_eq];simp)
 obtain⟨t,hea,htn,ht⟩ := Mk.there
 have X₁: W.K.In h₁ := X.keeps Mk.keeps
 obtain⟨o,ho,hdata⟩ := FK.at_
 refine wpAny_call (codeAny_call_def (binds := [("self",.ref ea),("told",v)]) hroom (X₁ _ _ ho) hdata (WO.nolim.keeps fun b o e=>Mk.keeps b o (hK b o e)) (codeRec_of X₁ FK.code) FK.body (FI.binds _ _ _ X₁) (noCell_of FI.nocell) (fun x hx=>?_) (fun h₂ hns hk₂=>?_) FK.co FK.gen FK.kind)
 ·simp only[List.mem_cons,List.not_mem_nil,or_false]at hx
  rcases hx with rfl|rfl
  ·exact FI.l1
  ·exact FI.l2
 ·generalize henv: callEnv fd h₁.objs.size fI=env at hns ⊢
  have hsk: env.scope.kind=.function := by rw[<-henv];exact FK.kind
  have hloc: env.locals=h₁.objs.size := by rw[<-henv];rfl
  have k1: env.kindOf "self"=some .local := by rw[<-henv];exact FI.l1
  have k2: env.kindOf "told"=some .local := by rw[<-henv];exact FI.l2
  have hns': h₂.Ns env.locals (fun x=>[(("self": Str),Value.ref ea),(("told": Str),v)].reverse.lookup x) := by rw[hloc];exact hns
  refine wpAny_execs_cons ?_
  rw[arm_exec_Assign]
  refine wpAny_bind (wpAny_standAt ?_)
  have hsw: swapsWithSole [.Attribute (.Name "self" p1) "told" p2] (.Name "told" p3) p4.line env=pure false := rfl
  have hst: swappedStores [.Attribute (.Name "self" p1) "told" p2] (.Name "told" p3) env=pure none := swapped_other (.inr fun _ _ _ e=>by cases e) env
  rw[hsw,pure_bind]
  simp only[Bool.false_eq_true,if_false]
  refine wpAny_bind (wpAny_Name (wpAny_loadName_local hsk k2 hns' (v := v) rfl ?_) (by decide))
  rw[hst,pure_bind]
  refine wpAny_bind ?_
  show wpAny _ _ (do
   let ov <-holding [v] (eval (.Name "self" p1) env)
   standAt p2.atName
   holding [v,ov] (setAttr ov "told" v)
   release [v,ov] []) _ _ _
  refine wpAny_bind (wpAny_holding (wpAny_Name (wpAny_loadName_local hsk k1 hns' (v := .ref ea) rfl ?_) (by decide)))
  have hea₂ := hk₂ _ _ hea
  refine wpAny_bind (wpAny_standAt (wpAny_bind (wpAny_holding (exc_set F (X₁.keeps hk₂) hea₂ fun h₃ dx tk' n' a1 a2 a3 a4=>release_ (wpAny_pure (wpAny_execs_nil ?_))))))
  refine⟨rfl,?_⟩
  have hold: ∀ b o,hh.get? b=some o->h₃.get? b=some o := fun b o e=>a4 b o (fun q=>by subst q;rw[Mk.new]at e;cases e) (hk₂ b o (Mk.keeps b o e))
  have hdxn: hh.get? dx=none := by
   cases q: hh.get? dx with
   |none=>rfl
   |some o'=>have := hk₂ _ _ (Mk.keeps _ _ q);rw[a3]at this;cases this
  exact hq h₃ _ ea t dx n' tk' hold Mk.new hdxn (fun q=>by subst q;rw[hea₂]at a3;cases a3) a1 a2
theorem s_raise {fd: FuncData} (WO: W.Ok) (F: ExcF W.K too rb fI) (FI: InitF W fI fd) (C: CxOk n cx) {c: Str} {e: PySem.Expr} {cp pos np: Pos} (he: noStar [e]=true) (hc: ∀ Q: DV->St->Prop,Q (.cls too) σ->EvE W too cx (eval (.Name c np) cx.env) Q X σ)
  {Q: Option DV->St->Prop} (h: EvE W too cx (eval e cx.env) (fun d σ=>X d σ) no σ): EvS W too cx (exec (.Raise (some (.Call (.Name c np) [e] [] cp)) none pos) cx.env) Q X σ := fun g s G=>by
 obtain⟨nm,q,N,hdct,sn,sub,col,dd,k0,k1,k2,k3,k5,hK⟩ := F.cls
 have hcB: (Value.ref too::tailE rb).contains (.type "BaseException")=true := by simp
 rw[arm_exec_Raise]
 refine wpAny_bind (wpAny_standAt ?_)
 show wpAny _ _ (raiseStmt cx.env (some (do let v <-eval (.Call (.Name c np) [e] [] cp) cx.env;standAt pos;pure v)) none) _ _ _
 unfold raiseStmt
 have hcall: eval (.Call (.Name c np) [e] [] cp) cx.env=(do callWith cp (<-eval (.Name c np) cx.env) [] (backTo cp (starEach [e] cx.env)) (backToKw cp (keywordEach [] cx.env))) := rfl
 rw[hcall]
 refine wpAny_bind (wpAny_bind (wpAny_bind (wpAny_mono (hc (fun d σ'=>d=.cls too/\σ'=σ) ⟨rfl,rfl⟩ g s G) (fun v s₁ ⟨g₁,σ₁,d₁,e₁,G₁,r₁,hd₁,hσ⟩=>?_) fun _ _ x=>x)))
 subst hd₁;subst hσ
 obtain rfl: v=.ref too := by cases r₁;rfl
 refine callWith_of (P := fun h=>W.K.In h) (by rw[noStar_any he];rfl) (keeps_K F.keep) ?_
 refine args_plain (noStar_any he) ?_
 rw[(noStar_cons he).1]
 show wpAny _ _ (spliced [(false,eval e cx.env)]) _ _ _
 unfold spliced
 refine wpAny_bind (wpAny_mono (h g₁ s₁ G₁) (fun w s₂ ⟨g₂,σ₂,d,e₂,G₂,r₂,hd⟩=>?_) fun _ _ x=>(ex_no x).elim)
 refine wpAny_bind (wpAny_pure (wpAny_bind (wpAny_holding (wpAny_pure (wpAny_pure ?_)))))
 refine⟨WO.kin.keeps G₂.sim.ext,?_⟩
 have hroom: cx.A.depth+1<recursionLimit := by have := C.room.2.1;omega
 refine exc_made WO F FI G₂.sim.ext hroom (fun h' tk ea t dx n' tk' hold hea hdx hne a1 a2=>?_)
 refine wpAny_bind (wpAny_standAt (wpAny_pure ?_))
 have G₃: Good W cx g₂ σ₂ {s₂ with heap := h',toks := tk} := G₂.grow hold
 have hC: h'.get? too=_ := (WO.kin.keeps G₃.sim.ext) _ _ hK
 have f1 := G₂.free hea
 have f2 := G₂.free hdx
 have kpn: ∀ b (s₄: Shared),Free cx g₂ σ₂.mu b->kpF cx s₄ b=none := fun b s₄ f=>by
  unfold kpF
  rw[if_neg (by
   rintro(q|q)
   ·exact f.fl q
   ·obtain⟨⟨x,c⟩,hc,rfl⟩ := List.mem_map.mp q;exact f.fc x hc)]
  exact f.fk
 have hE: EX W too cx X (.ref ea) {s₂ with heap := h',toks := tk} := by
  refine⟨ea,g₂,σ₂,d,rfl,G₃,⟨⟨f1.fg,kpn _ _ f1,f1.fm⟩,dx,_,_,_,_,a1,a2,?_,⟨f2.fg,kpn _ _ f2,f2.fm⟩,Ne.symm hne,by simp,.inl rfl⟩,hd⟩
  exact .cons (by decide) r₂ .nil
 have hC': h'.get? too=some (excClassObj nm q too N [.ref rb] (tailE rb) hdct sn sub false col dd k0 k1 k2 k3 k5 "Exception.__new__") := hC
 obtain⟨hp,gg,dd',tk₂,os⟩ := s₂
 show wpAny _ _ _ _ _ ⟨h',gg,dd',tk,os⟩
 repeat (first|with_reducible refine wpAny_loadPart_at a1 ?_|with_reducible refine wpAny_loadPart_at hC' ?_|(with_reducible refine wpAny_isSubtype_exc hC' ?_;rw[hcB])|wp_step)
 exact wpAny_raiseNew_none C.room.h hE
end
end
section
section
variable {W: Wd} {too rb fI: Addr} {n: Nat} {cx: Cx} {X: DV->St->Prop} {σ: St} {g: Hp} {m: Mt} {s: Shared} {A: Around} {E: Value->Shared->Prop}
theorem exc_matches {K: Frag} {prog: Program} {w: World} (F: ExcF K too rb fI) (X: K.In s.heap) {ea: Addr} {od: Option Addr} {dt: Data} {sl: Array (Option Value)} (he: s.heap.get? ea=some ⟨.ref too,od,dt,sl⟩) {Q: Bool->Shared->Prop} (q: Q true s): wpAny (model prog w) A (excMatches (.ref ea) (.ref too)) Q E s := by
 obtain⟨nm,qn,N,hdct,sn,sub,col,dd,k0,k1,k2,k3,k5,hK⟩ := F.cls
 obtain⟨hh,gg,dd',tk,os⟩ := s
 have hC: hh.get? too=some (excClassObj nm qn too N [.ref rb] (tailE rb) hdct sn sub false col dd k0 k1 k2 k3 k5 "Exception.__new__") := X _ _ hK
 have he: hh.get? ea=_ := he
 have hcB: (Value.ref too::tailE rb).contains (.type "BaseException")=true := by simp
 have hcC: (Value.ref too::tailE rb).contains (.ref too)=true := by simp
 have f0 := tc_notTuple
 unfold excMatches
 repeat (any_goals (first|assumption|with_reducible refine wpAny_loadPart_at he ?_|with_reducible refine wpAny_loadPart_at hC ?_|(with_reducible refine wpAny_isSubtype_exc hC ?_;first|rw[hcB]|rw[hcC])|wp_step))
theorem Good.forget (G: Good W cx g σ s) {s': Shared} {x: Str} {u: Option Value} {mm: Str->Option Value} (hx: okc x=true) (hl: look σ.loc (enc x)=none) (hmm: s.heap.Ns cx.env.locals mm) (hn: s'.heap.Ns cx.env.locals (fun y=>if y=x then u else mm y))
  (hs: Heap.SameBut cx.env.locals s.heap s'.heap) (hg: s'.gens=s.gens) (ho: s'.os=s.os): Good W cx g σ s' := by
 obtain⟨⟨m₀,hns,hv⟩,hc,⟨a1,a2,a3⟩,ca⟩ := G.frm
 have hmm' := Ns_unique hns hmm
 subst hmm'
 refine⟨G.ext,?_,⟨⟨_,hn,fun y d' oky hy h0y=>?_⟩,fun y d' oky hy h1y=>?_,⟨a1,a2,a3⟩,fun y c hyc=>?_⟩,G.above⟩
 ·refine G.sim.step Ext.rfl (fun _ _ h=>.inl h) (fun b o h hgk _=>(hs.2 b (fun e=>by subst e;rcases hgk with q|q;exact q a1;exact q a2)).trans h) (fun b o h=>?_) hg ho G.size
  obtain⟨h1,_,ob,h3,h4⟩ := G.sim.muts b o h
  exact⟨h1,.inr (by rw[h];simp),ob,(hs.2 b (fun e=>by subst e;rw[a3]at h;cases h)).trans h3,h4⟩
 ·obtain⟨w,h1,h2⟩ := hv y d' oky hy h0y
  refine⟨w,?_,h2⟩
  have: y≠x := fun e=>by subst e;rw[hl]at hy;cases hy
  simp only[if_neg this];exact h1
 ·obtain⟨c,w,h1,h2,h3⟩ := hc y d' oky hy h1y
  exact⟨c,w,h1,h2.sameBut hs (ca y c (mem_of_lookup h1)).2.2.1,h3⟩
 ·obtain⟨c1,c2,c3,w,c4⟩ := ca y c hyc
  exact⟨c1,c2,c3,w,c4.sameBut hs c3⟩
theorem Good.less (G: Good W cx g σ s) {l: Loc} (h: ∀ y d,look l y=some d->look σ.loc y=some d): Good W cx g ⟨l,σ.mu⟩ s := by
 have := Good.turn (kd := cx.kd) (l := l) G (fun x d _ hl h0=>⟨h _ _ hl,h0⟩) (fun x d ok hl h1=>G.frm.cells x d ok (h _ _ hl) h1)
 exact this
def Cx.frm (cx: Cx) (g: Hp): Cx := ⟨cx.A,cx.env,cx.kd,cx.kp,g⟩
theorem s_try0 (WO: W.Ok) (F: ExcF W.K too rb fI) (C: CxOk n cx) (SO: StOk cx) {x t ev c: Str} {v: PySem.Expr} {xp cp tp ep ap sp hp vp pos: Pos} (hx: cStoL cx.kd x=some (enc x)) (ht: cStoL cx.kd t=some (enc t)) (hev: cStoL cx.kd ev=some (enc ev))
  (hd1: enc x≠enc ev) (hd2: enc t≠enc ev) (hdbg: (ev==("__debug__": Str))=false) (hv: isComp v=false)
  (hc: ∀(A': Around) (E: Value->Shared->Prop) (g: Hp) (σ: St) (s: Shared) (Q: Value->Shared->Prop),Good W cx g σ s->Q (.ref too) s->wpAny W.M A' (eval (.Name c cp) cx.env) Q E s) {Q: Option DV->St->Prop}
  (h: EvE W too cx (eval v cx.env) (fun d σ=>Q none ⟨put σ.loc (enc x) d,σ.mu⟩) (fun d σ=>match look σ.loc (enc ev)with|none=>Q none ⟨put σ.loc (enc t) d,σ.mu⟩|some _=>False) σ) :
  ∀ s,Good W cx cx.g₀ σ s->wpAny W.M cx.A (exec (.Try [.Assign [.Name x xp] v vp] [.ExceptHandler (some (.Name c cp)) (some ev) [.Assign [.Name t tp] (.Attribute (.Name ev ep) "told" ap) sp] hp] [] [] pos) cx.env) (PostS W cx cx.g₀ Q) (EX W too cx X) s := fun s G=>by
 obtain⟨okx,_,kx⟩ := cStoL_of hx
 obtain⟨okt,_,kt⟩ := cStoL_of ht
 obtain⟨oke,_,ke⟩ := cStoL_of hev
 obtain⟨l,hA,hfr⟩ := SO.top
 have body: EvS W too cx (execs [.Assign [.Name x xp] v vp] cx.env) (fun f σ=>match f with|none=>Q none σ|some _=>False) (fun d σ=>match look σ.loc (enc ev)with|none=>Q none ⟨put σ.loc (enc t) d,σ.mu⟩|some _=>False) σ := by
  refine ss_cons (s_asg hv (swapped_other (.inl ⟨fun _ _ _ e=>(by cases e),fun _ _ e=>(by cases e)⟩) _) (h.mono fun d σ q=>?_) rfl)
  have ht': cTgt (cStoL cx.kd) (.Name x xp)=some (.one (enc x)) := by simp only[cTgt,hx]
  intro g s w G r
  exact assign_rule C.room.h (stores_L C.env C.kinds) G ht' r rfl fun s' G'=>G'.postG (ss_nil q)
 refine wpAny_Try_except (wpAny_mono (body cx.g₀ s G) (fun f s₁ p=>?_) fun e s₁ hx₁=>?_)
 ·cases f with
  |next=>obtain⟨g',σ',e,G',q⟩ := p;exact wpAny_execs_nil ⟨g',σ',e,G',q⟩
  |ret w=>obtain⟨_,_,_,_,_,_,q⟩ := p;exact q.elim
  |brk=>exact p.elim
  |cont=>exact p.elim
 ·obtain⟨ea,g₁,σ₁,d,rfl,G₁,x₁,q⟩ := hx₁
  split at q
  case h_2=>exact q.elim
  rename_i hlk
  have K: FrK (kpF cx s₁) (cx.env::l) := by
   obtain⟨l',hl',hfr'⟩ := G₁.frames C
   rw[hA]at hl';cases hl'
   exact hfr'
  refine note_rule (too := too) (d := d) hA K hfr G₁.simF x₁ fun s₃ S₃ x₃=>?_
  have hK₃: W.K.In s₃.heap := WO.kin.keeps S₃.ext
  obtain⟨off,dx,vs,sl,es,nn,o1,o2,o3,o4,o5,o6,o7⟩ := x₃
  refine wpAny_handleBy_cons (codeAny_handlers_test ?_) (by intro q;cases q)
  have G₃ := G₁.back Ext.rfl S₃
  refine hc _ _ g₁ σ₁ s₃ _ G₃ ?_
  refine exc_matches F hK₃ o1 ?_
  simp only[if_true]
  refine codeAny_handlers_suite_as (flight_rule (too := too) (d := d) S₃ ⟨off,dx,vs,sl,es,nn,o1,o2,o3,o4,o5,o6,o7⟩ fun s₄ S₄ x₄=>?_)
  have G₄ := G₁.back Ext.rfl S₄
  obtain⟨off,dx,vs,sl,es,nn,o1,o2,o3,o4,o5,o6,o7⟩ := x₄
  have hloc₁ := kpF_locals cx s₁
  have notL: ∀ b,kpF cx s₁ b=none->b≠cx.env.locals := fun b hb e=>by
   subst e
   obtain⟨⟨mm,⟨oL,es,ep,hLo,_⟩,_⟩,_⟩ := G₁.frm
   rw[hloc₁,hLo]at hb;cases hb
  refine store_local2 C.env C.kinds G₄ oke ke (.ref ea) fun s₅ G₅ k₅=>?_
  have o1' := (k₅ _ (notL _ off.2.1)).trans o1
  have o2' := (k₅ _ (notL _ o4.2.1)).trans o2
  have hK₅: W.K.In s₅.heap := WO.kin.keeps G₅.sim.ext
  refine wpAny_execs_cons ?_
  rw[arm_exec_Assign]
  refine wpAny_bind (wpAny_standAt ?_)
  have hsw: swapsWithSole [.Name t tp] (.Attribute (.Name ev ep) "told" ap) sp.line cx.env=pure false := rfl
  have hst: swappedStores [.Name t tp] (.Attribute (.Name ev ep) "told" ap) cx.env=pure none := swapped_other (.inl ⟨fun _ _ _ e=>(by cases e),fun _ _ e=>(by cases e)⟩) _
  rw[hsw,pure_bind]
  simp only[Bool.false_eq_true,if_false]
  obtain⟨w,hw,rw'⟩ := repE_fld (x := "told") (by decide) o3 (d := d) (by simp[fld])
  have hat: eval (.Attribute (.Name ev ep) "told" ap) cx.env=(do
   let ov <-attributeBase (.Name ev ep) "told" cx.env (eval (.Name ev ep) cx.env)
   standAt ap.atName
   let r <-holding [ov] (getAttr ov "told" true)
   letTemporaryGo (.Name ev ep) ov r
   pure r) := rfl
  rw[hat,base_eq rfl]
  have evself: ∀(A': Around) (E': Value->Shared->Prop) (Q': Value->Shared->Prop),Q' (.ref ea) s₅->wpAny W.M A' (eval (.Name ev ep) cx.env) Q' E' s₅ := fun A' E' Q' q'=>by
   obtain⟨mm,hns,hva⟩ := G₅.frm.ns
   obtain⟨v',h1,h2⟩ := hva ev (.ref ea) oke (look_put_self _ _ _) ke
   obtain rfl: v'=.ref ea := by cases h2;rfl
   exact wpAny_Name (wpAny_loadName_local C.env.kind ((C.kinds ev oke).1 ke) hns h1 q') hdbg
  refine wpAny_bind (wpAny_bind (evself _ _ _ (wpAny_bind (wpAny_standAt (wpAny_bind (wpAny_holding (exc_get F hK₅ o1' o2' hw (rep_handed rw') (wpAny_bind (wpAny_letTemporaryGo (wpAny_pure ?_))))))))))
  rw[hst,pure_bind]
  have G₆ := G₅.toks (s₅.toks+1)
  have G₆' := G₆
  refine wpAny_bind ?_
  show wpAny _ _ (do standAt tp;bindName cx.env t w) _ _ _
  refine wpAny_bind (wpAny_standAt (wpAny_bindName (store_local2 C.env C.kinds G₆ okt kt rw' fun s₇ G₇ k₇=>?_)))
  refine wpAny_pure (wpAny_execs_nil ?_)
  refine wpAny_bind (wpAny_bindName (store_local2 C.env C.kinds G₇ oke ke .none fun s₈ G₈ k₈=>?_))
  obtain⟨mm,hns,hva⟩ := G₈.frm.ns
  obtain⟨v',h1,h2⟩ := hva ev .none oke (look_put_self _ _ _) ke
  unfold unbindBehindTheSuite
  refine wpAny_onRaise (wpAny_unbindName_local ((C.kinds ev oke).1 ke) hns h1 (fnOk C.env.kind) fun h₉ u hn₉ hs₉=>?_)
  have hfin: Good W cx g₁ ⟨put σ₁.loc (enc t) d,σ₁.mu⟩ s₈ := by
   refine G₈.less fun y d' hy=>?_
   have hye: enc ev≠y := fun e=>by
    subst e
    rw[look_put_ne _ _ hd2]at hy
    rw[hlk]at hy;cases hy
   rw[look_put_ne _ _ hye]
   by_cases e: enc t=y
   ·subst e;rw[look_put_self]at hy ⊢;exact hy
   ·rw[look_put_ne _ _ e,look_put_ne _ _ hye]
    rw[look_put_ne _ _ e]at hy;exact hy
  have G₉ := hfin.forget (s' := {s₈ with heap := h₉}) oke (by rw[look_put_ne _ _ hd2];exact hlk) hns hn₉ hs₉ rfl rfl
  exact⟨g₁,_,G₁.ext,G₉,q⟩
theorem s_try (WO: W.Ok) (F: ExcF W.K too rb fI) (C: CxOk n cx) (SO: StOk cx) {x t ev c: Str} {v: PySem.Expr} {xp cp tp ep ap sp hp vp pos: Pos} (hx: cStoL cx.kd x=some (enc x)) (ht: cStoL cx.kd t=some (enc t)) (hev: cStoL cx.kd ev=some (enc ev))
  (hd1: enc x≠enc ev) (hd2: enc t≠enc ev) (hdbg: (ev==("__debug__": Str))=false) (hv: isComp v=false)
  (hc: ∀(g₀: Hp) (A': Around) (E: Value->Shared->Prop) (g: Hp) (σ: St) (s: Shared) (Q: Value->Shared->Prop),Good W (cx.frm g₀) g σ s->Q (.ref too) s->wpAny W.M A' (eval (.Name c cp) cx.env) Q E s) {Q: Option DV->St->Prop}
  (h: ∀ g₀,EvE W too (cx.frm g₀) (eval v cx.env) (fun d σ=>Q none ⟨put σ.loc (enc x) d,σ.mu⟩) (fun d σ=>match look σ.loc (enc ev)with|none=>Q none ⟨put σ.loc (enc t) d,σ.mu⟩|some _=>False) σ) :
  EvS W too cx (exec (.Try [.Assign [.Name x xp] v vp] [.ExceptHandler (some (.Name c cp)) (some ev) [.Assign [.Name t tp] (.Attribute (.Name ev ep) "told" ap) sp] hp] [] [] pos) cx.env) Q X σ := fun g s G=>
 wpAny_mono (s_try0 (cx := cx.frm g) (X := X) (Q := Q) WO F ⟨C.env,C.room,C.kinds,C.frames⟩ ⟨SO.nofree,SO.cellAt,SO.own,SO.top,SO.nodup⟩ hx ht hev hd1 hd2 hdbg hv (hc g) (h g) s ⟨Ext.rfl,G.sim,G.frm,G.above⟩)
  (fun f s' p=>by
   cases f with
   |next=>obtain⟨g',σ',e,G',q⟩ := p;exact⟨g',σ',e,⟨G.ext.trans e,G'.sim,G'.frm,G'.above⟩,q⟩
   |ret w=>obtain⟨g',σ',d,e,G',r,q⟩ := p;exact⟨g',σ',d,e,⟨G.ext.trans e,G'.sim,G'.frm,G'.above⟩,r,q⟩
   |brk=>exact p.elim
   |cont=>exact p.elim)
  fun e s' ⟨ea,g',σ',d,a,b,c,q⟩=>⟨ea,g',σ',d,a,⟨G.ext.trans b.ext,b.sim,b.frm,b.above⟩,c,q⟩
end
end
section
structure Base (W: Wd) (too rb fI: Addr) (fd: FuncData) (T: Tb): Prop where
 wo: W.Ok
 exc: ExcF W.K too rb fI
 ini: InitF W fI fd
 tb: TbOk W T
 gl: GlOk W T.gl
 too_: look T.gl (enc "TooLarge")=some (.cls too)
 kinds: ∀ x C,look T.gl x=some (.cls C)->T.kf C=T.kf C
section
variable {W: Wd} {too rb fI: Addr} {fd: FuncData} {T: Tb} {n: Nat} {cx: Cx} {X: DV->St->Prop} {σ: St} {g g': Hp} {m: Mt} {s s': Shared} {E: Value->Shared->Prop}
theorem EvT.mono: ∀{es: List PySem.Expr} {Q Q': Bool->St->Prop} {σ: St},EvT W too cx es Q X σ->(∀ d σ,Q d σ->Q' d σ)->EvT W too cx es Q' X σ
 |[],_,_,_,h,k=>k _ _ h
 |e::r,_,_,_,h,k=>EvG.mono h fun t σ q=>by
   cases t with
   |true=>exact EvT.mono q k
   |false=>exact k _ _ q
def ZipOk (W: Wd) (too: Addr) (n: Nat): Prop := ∀(cx: Cx) (X: DV->St->Prop) (σ: St),CxOk n cx->CellAt cx.env->∀{elt t a b: PySem.Expr} {z: Str} {pos np cp: Pos} {ns: CN} {sc: Scope},cTgt (cStoL (kindsC sc.names)) t=some ns->scOk cx.kd sc (cnN ns)=true->isTupN ns=true->noStar [a,b]=true->enc z=nZip->okc z=true->kindN cx.kd (enc z)=2->
  ∀{B': Loc->(Option DV->Mt->Prop)->Mt->Prop},
  (∀ cx': Cx,CxOk n cx'->cx'.kd=kindsC sc.names->CellAt cx'.env->∀ loc K m,B' loc K m->EvE W too cx' (eval elt cx'.env) (fun y σ₂=>∃ m' y',Fz σ₂.mu y m' y'/\K (some y') m') no ⟨loc,m⟩)->
  ∀{Q: DV->St->Prop},EvE W too cx (eval a cx.env) (fun d σ=>EvE W too cx (eval b cx.env) (fun e σ=>match d,e with
   |.tup l,.tup r=>small l.length/\small r.length/\compW (fun _=>True) (fun x K m=>match bindC σ.loc m ns x with|some loc=>B' loc K m|none=>False) σ.loc Q ((l.zip r).map fun p=>.tup [p.1,p.2]) [] σ.mu
   |_,_=>False) X σ) X σ->EvE W too cx (eval (.ListComp elt [⟨t,.Call (.Name z np) [a,b] [] cp,[],0⟩] sc pos) cx.env) Q X σ
variable (W too rb fI fd T n) in
structure Ih (k: Nat): Prop where
 e: ∀{cx: Cx} {e: PySem.Expr} {Q X σ},CxOk n cx->CellAt cx.env->wpE W too T n (cE k cx.kd e) Q X σ->EvE W too cx (eval e cx.env) Q X σ
 es: ∀{cx: Cx} {es: List PySem.Expr} {pos: Pos} {Q X σ},CxOk n cx->CellAt cx.env->noStar es=true->wpEs W too T n (cEs k cx.kd es) Q X σ->EvL W too cx (spliced (backTo pos (starEach es cx.env))) Q X σ
 bo: ∀{cx: Cx} {es: List PySem.Expr} {pos: Pos} {op: BoolOp} {Q X σ},CxOk n cx->CellAt cx.env->wpE W too T n (cBool k cx.kd (match op with|.And=>true|.Or=>false) es) Q X σ->EvE W too cx (boolOp pos op (evalEach es cx.env)) Q X σ
 c: ∀{cx: Cx} {ops: List CmpOp} {es: List PySem.Expr} {r: CCs} {d Q X σ},CxOk n cx->CellAt cx.env->cCmp k cx.kd ops es=some r->wpC W too T n d r Q X σ->EvC W too cx d ops es Q X σ
 t: ∀{cx: Cx} {e: PySem.Expr} {Q X σ},CxOk n cx->CellAt cx.env->wpT W too T n (cE k cx.kd e) Q X σ->EvG W too cx (isTrue e cx.env (eval e cx.env)) Q X σ
 tb: ∀{cx: Cx} {es: List PySem.Expr} {pos: Pos} {op: BoolOp} {whole: Sem Value} {Q X σ},CxOk n cx->CellAt cx.env->wpT W too T n (cBool k cx.kd (match op with|.And=>true|.Or=>false) es) Q X σ->EvG W too cx (isTrue (.BoolOp op es pos) cx.env whole) Q X σ
 ts: ∀{cx: Cx} {es: List PySem.Expr} {Q X σ},CxOk n cx->CellAt cx.env->wpTs W too T n (cEs k cx.kd es) Q X σ->EvT W too cx es Q X σ
theorem ih_zero: Ih W too T n 0 where
 e _ _ h := by simp only[cE,wpE]at h
 es _ _ _ h := by simp only[cEs,wpEs,wpE]at h
 bo _ _ h := by simp only[cBool,wpE]at h
 c _ _ h _ := by simp only[cCmp]at h;cases h
 t _ _ h := by simp only[cE,wpT]at h
 tb _ _ h := by simp only[cBool,wpT]at h
 ts _ _ h := by simp only[cEs,wpTs,wpT]at h
variable {k: Nat}
theorem ih_es (I: Ih W too T n k) {es: List PySem.Expr} {pos: Pos} {Q: List DV->St->Prop} (C: CxOk n cx) (CA: CellAt cx.env) (hs: noStar es=true) (h: wpEs W too T n (cEs (k+1) cx.kd es) Q X σ): EvL W too cx (spliced (backTo pos (starEach es cx.env))) Q X σ := by
 cases es with
 |nil=>simp only[cEs,wpEs]at h;exact ev_splice_nil h
 |cons e r=>
  simp only[cEs,wpEs]at h
  exact ev_splice_cons hs ((I.e C CA h).mono fun d σ q=>I.es C CA (noStar_cons (env := cx.env) (pos := pos) hs).2 q)
theorem ih_ts (I: Ih W too T n k) {es: List PySem.Expr} {Q: Bool->St->Prop} (C: CxOk n cx) (CA: CellAt cx.env) (h: wpTs W too T n (cEs (k+1) cx.kd es) Q X σ): EvT W too cx es Q X σ := by
 cases es with
 |nil=>simp only[cEs,wpTs]at h;exact h
 |cons e r=>
  simp only[cEs,wpTs]at h
  refine(I.t C CA h).mono fun t σ q=>?_
  cases t with
  |true=>exact I.ts C CA q
  |false=>exact q
theorem ih_bo (I: Ih W too T n k) {es: List PySem.Expr} {pos: Pos} {op: BoolOp} {Q: DV->St->Prop} (C: CxOk n cx) (CA: CellAt cx.env) (h: wpE W too T n (cBool (k+1) cx.kd (match op with|.And=>true|.Or=>false) es) Q X σ): EvE W too cx (boolOp pos op (evalEach es cx.env)) Q X σ := by
 cases es with
 |nil=>simp only[cBool,wpE]at h
 |cons e r=>
  cases r with
  |nil=>simp only[cBool]at h;exact I.e C CA h
  |cons e2 r=>
   cases op with
   |And=>
    simp only[cBool,wpE]at h
    refine ev_and ((I.e C CA h).mono fun d σ q=>?_)
    split at q
    ·rename_i ht;(try rw[ht]);exact I.bo (op := .And) (es := e2::r) C CA q
    ·rename_i ht;(try rw[ht]);exact q
    ·exact q.elim
   |Or=>
    simp only[cBool,wpE]at h
    refine ev_or ((I.e C CA h).mono fun d σ q=>?_)
    split at q
    ·rename_i ht;(try rw[ht]);exact q
    ·rename_i ht;(try rw[ht]);exact I.bo (op := .Or) (es := e2::r) C CA q
    ·exact q.elim
theorem ih_tb (I: Ih W too T n k) {es: List PySem.Expr} {pos: Pos} {op: BoolOp} {whole: Sem Value} {Q: Bool->St->Prop} (C: CxOk n cx) (CA: CellAt cx.env) (h: wpT W too T n (cBool (k+1) cx.kd (match op with|.And=>true|.Or=>false) es) Q X σ): EvG W too cx (isTrue (.BoolOp op es pos) cx.env whole) Q X σ := by
 cases es with
 |nil=>simp only[cBool,wpT]at h
 |cons e r=>
  cases r with
  |nil=>
   simp only[cBool]at h
   cases op with
   |And=>
    refine tr_and ((I.t C CA h).mono fun t σ q=>?_)
    cases t with
    |true=>exact tr_nil_and q
    |false=>exact q
   |Or=>
    refine tr_or ((I.t C CA h).mono fun t σ q=>?_)
    cases t with
    |true=>exact q
    |false=>exact tr_nil_or q
  |cons e2 r=>
   cases op with
   |And=>
    simp only[cBool,wpT]at h
    refine tr_and ((I.t C CA h).mono fun t σ q=>?_)
    cases t with
    |true=>exact I.tb (op := .And) (es := e2::r) C CA q
    |false=>exact q
   |Or=>
    simp only[cBool,wpT]at h
    refine tr_or ((I.t C CA h).mono fun t σ q=>?_)
    cases t with
    |true=>exact q
    |false=>exact I.tb (op := .Or) (es := e2::r) C CA q
theorem cCmp_nil {k: Nat} {kd: List (Nat×Nat)} {es: List PySem.Expr}: cCmp k kd [] es=none := by cases k<;>simp only[cCmp]
theorem cCmp_nil' {k: Nat} {kd: List (Nat×Nat)} {ops: List CmpOp}: cCmp k kd ops []=none := by cases k<;>cases ops<;>simp only[cCmp]
theorem ih_c (I: Ih W too T n k) {ops: List CmpOp} {es: List PySem.Expr} {r: CCs} {d: DV} {Q: Bool->St->Prop} (C: CxOk n cx) (CA: CellAt cx.env) (hc: cCmp (k+1) cx.kd ops es=some r) (h: wpC W too T n d r Q X σ): EvC W too cx d ops es Q X σ := by
 cases ops with
 |nil=>rw[cCmp_nil]at hc;cases hc
 |cons op ops=>
  cases es with
  |nil=>rw[cCmp_nil']at hc;cases hc
  |cons e es=>
   cases ops with
   |nil=>
    cases es with
    |nil=>
     simp only[cCmp]at hc
     split at hc
     case h_2=>cases hc
     rename_i o ho
     cases hc
     simp only[wpC]at h
     simp only[EvC,ho]
     exact I.e C CA h
    |cons e2 es=>
     simp only[cCmp,cCmp_nil]at hc
     split at hc<;>simp_all
   |cons op2 ops=>
    cases es with
    |nil=>
     simp only[cCmp,cCmp_nil']at hc
     split at hc<;>simp_all
    |cons e2 es=>
     simp only[cCmp]at hc
     split at hc
     case h_2=>cases hc
     rename_i o r' ho hr
     cases hc
     simp only[wpC]at h
     simp only[EvC,ho]
     refine(I.e C CA h).mono fun b σ q=>?_
     split at q
     ·rename_i hb;(try rw[hb]);exact I.c C CA hr q
     ·rename_i hb;(try rw[hb]);exact q
     ·exact q.elim
theorem bad_if {c: Bool} {a: CE} {Q: DV->St->Prop} (h: wpE W too T n (if c=true then a else .bad) Q X σ): c=true/\wpE W too T n a Q X σ := by
 cases c with
 |true=>exact⟨rfl,h⟩
 |false=>simp only[Bool.false_eq_true,if_false,wpE]at h
theorem comp_body (I: Ih W too T n k) {elt: PySem.Expr} {ifs: List PySem.Expr} {kd: List (Nat×Nat)} {cx': Cx} (C: CxOk n cx') (hk: cx'.kd=kd) (CA: CellAt cx'.env) {loc: Loc} {K: Option DV->Mt->Prop} {m: Mt}
  (h: wpTs W too T n (cEs k kd ifs) (fun ok σ₁=>match ok with|true=>wpE W too T n (cE k kd elt) (fun y σ₂=>∃ m' y',Fz σ₂.mu y m' y'/\K (some y') m') no σ₁|false=>K none σ₁.mu) no ⟨loc,m⟩) :
  EvT W too cx' ifs (fun ok σ₁=>match ok with|true=>EvE W too cx' (eval elt cx'.env) (fun y σ₂=>∃ m' y',Fz σ₂.mu y m' y'/\K (some y') m') no σ₁|false=>K none σ₁.mu) no ⟨loc,m⟩ := by
 subst hk
 refine(I.ts C CA h).mono fun ok σ₁ q=>?_
 cases ok with
 |true=>exact I.e C CA q
 |false=>exact q
theorem ih_e (B: Base W too rb fI fd T) (Z: ZipOk W too n) (I: Ih W too T n k) {e: PySem.Expr} {Q: DV->St->Prop} (C: CxOk n cx) (CA: CellAt cx.env) (h: wpE W too T n (cE (k+1) cx.kd e) Q X σ): EvE W too cx (eval e cx.env) Q X σ := by
 unfold cE at h
 split at h
 ·exact ev_const h
 ·exact ev_name C.env B.wo C.kinds B.gl h
 ·obtain⟨hs,h⟩ := bad_if h
  simp only[wpE]at h
  exact ev_tup (I.es C CA hs h)
 ·obtain⟨hs,h⟩ := bad_if h
  simp only[wpE]at h
  exact ev_lst (I.es C CA hs h)
 ·split at h
  case h_2=>simp only[wpE]at h
  rename_i l hl
  obtain⟨hs,h⟩ := bad_if h
  rw[Bool.and_eq_true]at hs
  simp only[wpE]at h
  exact ev_dct hl hs.1 hs.2 h
 ·split at h
  case h_2=>simp only[wpE]at h
  rename_i o ho
  simp only[wpE]at h
  exact ev_bin ho ((I.e C CA h).mono fun d σ q=>I.e C CA q)
 ·simp only[wpE]at h;exact ev_neg h
 ·simp only[wpE]at h;exact ev_not (I.e C CA h)
 ·simp only[wpE]at h
  refine ev_ite ((I.t C CA h).mono fun t σ q=>?_)
  cases t with
  |true=>exact I.e C CA q
  |false=>exact I.e C CA q
 ·rename_i op es pos
  have := I.bo (pos := pos) C CA h
  exact this
 ·simp only[wpE]at h;exact ev_is (b := true) (I.e C CA h)
 ·simp only[wpE]at h;exact ev_is (b := false) (I.e C CA h)
 ·split at h
  case isTrue=>simp only[wpE]at h
  rename_i hm
  split at h
  case h_2=>simp only[wpE]at h
  rename_i r hr
  simp only[wpE]at h
  exact ev_cmp B.wo C.room.u (Bool.eq_false_iff.mpr hm) ((I.e C CA h).mono fun d σ q=>I.c C CA hr q)
 ·obtain⟨hs,h⟩ := bad_if h
  simp only[Bool.and_eq_true]at hs
  obtain⟨⟨⟨⟨h1,h2⟩,h3⟩,h4⟩,h5⟩ := hs
  simp only[wpE]at h
  refine ev_meth B.wo B.tb C h1 h2 h3 h4 h5 ((I.e C CA h).mono fun d σ q=>?_)
  split at q
  ·rename_i c hc;(try rw[hc]);exact I.es C CA h2 q
  ·exact q.elim
 ·rename_i hf
  obtain⟨hs,h⟩ := bad_if h
  simp only[wpE]at h
  exact ev_call B.wo B.tb C hf hs ((I.e C CA h).mono fun d σ q=>I.es C CA hs q)
 ·obtain⟨hs,h⟩ := bad_if h
  rw[Bool.and_eq_true]at hs
  simp only[wpE]at h
  exact ev_attr B.wo B.tb hs.1 hs.2 (I.e C CA h)
 ·simp only[wpE]at h;exact ev_rev (I.e C CA h)
 ·rename_i l u _ _
  simp only[wpE]at h
  refine ev_slc ((I.e C CA h).mono fun d σ q=>?_)
  have part: ∀{l: Option PySem.Expr} {Q: DV->St->Prop} {σ: St},wpE W too T n (match l with|some l=>cE k cx.kd l|none=>CE.cst DV.none) Q X σ->EvE W too cx (evalPart l cx.env) Q X σ := fun{l} _ _ q=>by
   cases l with
   |none=>exact ev_part (by simpa only[wpE]using q)
   |some l=>exact ev_part (I.e C CA q)
  exact(part q).mono fun d σ q=>part q
 ·rename_i hi
  have hi': ∀ a b p,_≠PySem.Expr.Slice a b none p := fun a b p e=>hi a b p e
  refine ev_sub hi' ?_
  split at h
  ·simp only[wpE]at h
  ·simp only[wpE]at h
   exact(I.e C CA h).mono fun d σ q=>I.e C CA q
 ·rename_i elt t it ifs sc pos
  split at h
  case h_2=>simp only[wpE]at h
  rename_i ns ht
  obtain⟨hs,h⟩ := bad_if h
  rw[Bool.and_eq_true]at hs
  have main: ∀{it: PySem.Expr} {ifs: List PySem.Expr},plainIter it=true->wpE W too T n (.comp (cE k (kindsC sc.names) elt) ns (cE k cx.kd it) (cEs k (kindsC sc.names) ifs)) Q X σ->EvE W too cx (eval (.ListComp elt [⟨t,it,ifs,0⟩] sc pos) cx.env) Q X σ := fun{it ifs} hp h=>by
   simp only[wpE]at h
   exact ev_comp C CA B.wo ht hs.1 hp (B' := fun loc K m=>wpTs W too T n (cEs k (kindsC sc.names) ifs) (fun ok σ₁=>match ok with|true=>wpE W too T n (cE k (kindsC sc.names) elt) (fun y σ₂=>∃ m' y',Fz σ₂.mu y m' y'/\K (some y') m') no σ₁|false=>K none σ₁.mu) no ⟨loc,m⟩)
    (fun cx' C' hk CA' loc K m h=>comp_body I C' hk CA' h) (I.e C CA h)
  split at h
  ·rename_i z np a b cp
   split at h
   ·rename_i hz
    rw[Bool.and_eq_true,Bool.and_eq_true,Bool.and_eq_true,Bool.and_eq_true]at hz
    simp only[wpE]at h
    exact Z cx X σ C CA ht hs.1 hz.1.2 hz.2 (Nat.eq_of_beq_eq_true hz.1.1.1.1) hz.1.1.1.2 (Nat.eq_of_beq_eq_true hz.1.1.2) (B' := fun loc K m=>wpE W too T n (cE k (kindsC sc.names) elt) (fun y σ₂=>∃ m' y',Fz σ₂.mu y m' y'/\K (some y') m') no ⟨loc,m⟩)
     (fun cx' C' hk CA' loc K m h=>by rw[<-hk]at h;exact I.e C' CA' h) ((I.e C CA h).mono fun d σ q=>I.e C CA q)
   ·exact main hs.2 h
  ·exact main hs.2 h
 ·simp only[wpE]at h
def notTest: CE->Bool
 |.notE _=>false
 |.andE _ _=>false
 |.orE _ _=>false
 |.cmp _ _=>false
 |.ite _ _ _=>false
 |.isN _ _=>false
 |_=>true
theorem wpt_wpe {c: CE} (hc: notTest c=true) {Q: Bool->St->Prop} (h: wpT W too T n c Q X σ): wpE W too T n c (fun d σ=>match truthV d with|some t=>Q t σ|none=>False) X σ := by
 cases c<;>simp only[wpT]at h<;>simp only[wpE]<;>first|exact h|(cases hc;done)
theorem bad_ifT {c: Bool} {a: CE} {Q: Bool->St->Prop} (h: wpT W too T n (if c=true then a else .bad) Q X σ): c=true/\wpT W too T n a Q X σ := by
 cases c with
 |true=>exact⟨rfl,h⟩
 |false=>simp only[Bool.false_eq_true,if_false,wpT]at h
theorem ih_t (B: Base W too rb fI fd T) (Z: ZipOk W too n) (I: Ih W too T n k) {e: PySem.Expr} {Q: Bool->St->Prop} (C: CxOk n cx) (CA: CellAt cx.env) (h: wpT W too T n (cE (k+1) cx.kd e) Q X σ): EvG W too cx (isTrue e cx.env (eval e cx.env)) Q X σ := by
 have plain: notTest (cE (k+1) cx.kd e)=true->isTrue e cx.env (eval e cx.env)=(do let v <-eval e cx.env;standAt e.pos;holding [v] (truthy v))->EvG W too cx (isTrue e cx.env (eval e cx.env)) Q X σ := fun hn he=>tr_plain he (ih_e B Z I C CA (wpt_wpe hn h))
 unfold cE at h
 split at h
 ·rename_i c _ _
  cases c<;>simp only[cConst,cStr]at h<;>first|(simp only[wpT]at h;done)|(split at h<;>simp only[wpT]at h)
 ·refine plain ?_ rfl
  simp only[cE]
  unfold cName
  split
  ·split<;>rfl
  ·rfl
 ·obtain⟨_,h⟩ := bad_ifT h;simp only[wpT]at h
 ·obtain⟨_,h⟩ := bad_ifT h;simp only[wpT]at h
 ·split at h
  ·obtain⟨_,h⟩ := bad_ifT h;simp only[wpT]at h
  ·simp only[wpT]at h
 ·split at h<;>simp only[wpT]at h
 ·simp only[wpT]at h
 ·simp only[wpT]at h
  exact tr_not (I.t C CA h)
 ·simp only[wpT]at h
  refine tr_ite ((I.t C CA h).mono fun t σ q=>?_)
  cases t with
  |true=>exact I.t C CA q
  |false=>exact I.t C CA q
 ·exact I.tb C CA h
 ·simp only[wpT]at h;exact tr_is (b := true) (I.e C CA h)
 ·simp only[wpT]at h;exact tr_is (b := false) (I.e C CA h)
 ·split at h
  case isTrue=>simp only[wpT]at h
  rename_i hm
  split at h
  case h_2=>simp only[wpT]at h
  rename_i r hr
  simp only[wpT]at h
  exact tr_cmp B.wo C.room.u (Bool.eq_false_iff.mpr hm) ((I.e C CA h).mono fun d σ q=>I.c C CA hr q)
 ·refine plain ?_ rfl
  simp only[cE]
  split<;>rfl
 ·rename_i hf
  refine plain ?_ rfl
  rename_i f _ _
  cases f<;>first|exact(hf _ _ _ rfl).elim|(simp only[cE];split<;>rfl)
 ·refine plain ?_ rfl
  simp only[cE]
  split<;>rfl
 ·simp only[wpT]at h
 ·simp only[wpT]at h
 ·refine plain ?_ rfl
  rename_i i _ _ _
  cases i<;>first|rfl|(simp only[wpT]at h;done)|skip
 ·split at h
  case h_2=>simp only[wpT]at h
  obtain⟨_,h⟩ := bad_ifT h
  split at h
  ·split at h<;>simp only[wpT]at h
  ·simp only[wpT]at h
 ·simp only[wpT]at h
theorem ih_all (B: Base W too rb fI fd T) (Z: ZipOk W too n): ∀ k,Ih W too T n k
 |0=>ih_zero
 |k+1=>by
  have I := ih_all B Z k
  exact⟨fun C CA h=>ih_e B Z I C CA h,fun C CA hs h=>ih_es I C CA hs h,fun C CA h=>ih_bo I C CA h,fun C CA hc h=>ih_c I C CA hc h,fun C CA h=>ih_t B Z I C CA h,fun C CA h=>ih_tb I C CA h,fun C CA h=>ih_ts I C CA h⟩
end
end
section
section
variable {W: Wd} {too rb fI: Addr} {fd: FuncData} {T: Tb} {n: Nat} {cx: Cx} {X: DV->St->Prop} {σ: St} {g g': Hp} {m: Mt} {s s': Shared} {E: Value->Shared->Prop} {k: Nat}
variable (W too rb fI fd T n) in
structure IhS (k: Nat): Prop where
 s: ∀{cx: Cx} {a: Stmt} {Q X σ},CxOk n cx->StOk cx->CellAt cx.env->wpS W too T n (cS k cx.kd a) Q X σ->EvS W too cx (exec a cx.env) Q X σ
 ss: ∀{cx: Cx} {a: List Stmt} {Q X σ},CxOk n cx->StOk cx->CellAt cx.env->wpSs W too T n (cSs k cx.kd a) Q X σ->EvS W too cx (execs a cx.env) Q X σ
theorem ihs_ss (I: IhS W too T n k) {a: List Stmt} {Q: Option DV->St->Prop} (C: CxOk n cx) (SO: StOk cx) (CA: CellAt cx.env) (h: wpSs W too T n (cSs (k+1) cx.kd a) Q X σ): EvS W too cx (execs a cx.env) Q X σ := by
 cases a with
 |nil=>simp only[cSs,wpSs]at h;exact ss_nil h
 |cons a r=>
  simp only[cSs,wpSs]at h
  refine ss_cons ((I.s C SO CA h).mono fun f σ q=>?_)
  cases f with
  |none=>exact I.ss C SO CA q
  |some d=>exact q
theorem swapped_folded {ts vs: List PySem.Expr} {k k': Nat} {p p': Pos} (hf: vs.all (foldedForSure 8)=true) (env: Env): swappedStores [.Tuple ts k p] (.Tuple vs k' p') env=pure none := by
 unfold swappedStores
 show(if _ then pure none else if _ then pure none else _)=_
 split
 ·rfl
 split
 ·rfl
 dsimp only
 split
 ·rfl
 first|rfl|rw[if_pos hf]
theorem wp_asg (I: Ih W too T n k) {t v: PySem.Expr} {pos: Pos} (C: CxOk n cx) (CA: CellAt cx.env) (hc: isComp v=false) (hs: swappedStores [t] v cx.env=pure none) (ht: assignEach [t] cx.env=[(false,assign t cx.env)]) {ct: CT} {Q: Option DV->St->Prop}
  (ha: ∀ d σ,wpA W too T n ct d (fun σ=>Q none σ) X σ->∀ g s w,Good W cx g σ s->Rep g d w->wpAny W.M cx.A (assign t cx.env w) (PostG W cx g fun _ σ=>Q none σ) (EX W too cx X) s)
  (h: wpS W too T n (.asg ct (cE k cx.kd v)) Q X σ): EvS W too cx (exec (.Assign [t] v pos) cx.env) Q X σ := by
 simp only[wpS]at h
 exact s_asg hc hs ((I.e C CA h).mono fun d σ q=>ha d σ q) ht
theorem swapped_attr3 {o₁ o₂ o₃: PySem.Expr} {x₁ x₂ x₃: Str} {p₁ p₂ p₃ pos: Pos} {k: Nat} (v: PySem.Expr) (env: Env): swappedStores [.Tuple [.Attribute o₁ x₁ p₁,.Attribute o₂ x₂ p₂,.Attribute o₃ x₃ p₃] k pos] v env=pure none := by
 by_cases hv: ∃ vs k p,v=.Tuple vs k p
 ·obtain⟨vs,k,p,rfl⟩ := hv
  unfold swappedStores
  show(if _ then pure none else if _ then pure none else _)=_
  split
  ·rfl
  split
  ·rfl
  rfl
 ·exact swapped_other (.inr fun vs k p e=>hv ⟨vs,k,p,e⟩) env
theorem cE_comp {k: Nat} {kd: List (Nat×Nat)} {elt: PySem.Expr} {gens: List Comprehension} {sc: Scope} {vp: Pos}: cE k kd (.ListComp elt gens sc vp)=.bad\/isZ (cE k kd (.ListComp elt gens sc vp))=true\/
  ∃ k' t it ifs ns,k=k'+1/\gens=[⟨t,it,ifs,0⟩]/\cTgt (cStoL (kindsC sc.names)) t=some ns/\scOk kd sc (cnN ns)=true/\plainIter it=true/\cE k kd (.ListComp elt gens sc vp)=.comp (cE k' (kindsC sc.names) elt) ns (cE k' kd it) (cEs k' (kindsC sc.names) ifs) := by
 cases k with
 |zero=>exact .inl (by simp only[cE])
 |succ k=>
  generalize hc: cE (k+1) kd (.ListComp elt gens sc vp)=c
  unfold cE at hc
  split at hc
  all_goals first|(rename_i heq;cases heq;done)|(exact .inl hc.symm)|skip
  rename_i elt' t it ifs sc' pos heq
  cases heq
  split at hc
  case h_2=>exact .inl hc.symm
  rename_i ns ht
  split at hc
  case isFalse=>exact .inl hc.symm
  rename_i hs
  rw[Bool.and_eq_true]at hs
  split at hc
  ·split at hc
   ·subst hc;exact .inr (.inl rfl)
   ·exact .inr (.inr ⟨k,t,_,_,ns,rfl,rfl,ht,hs.1,hs.2,hc.symm⟩)
  ·exact .inr (.inr ⟨k,t,_,_,ns,rfl,rfl,ht,hs.1,hs.2,hc.symm⟩)
theorem badS_if {c: Bool} {a: CS} {Q: Option DV->St->Prop} (h: wpS W too T n (if c=true then a else .bad) Q X σ): c=true/\wpS W too T n a Q X σ := by
 cases c with
 |true=>exact⟨rfl,h⟩
 |false=>simp only[Bool.false_eq_true,if_false,wpS]at h
theorem badS_if' {c: Bool} {a: CS} {Q: Option DV->St->Prop} (h: wpS W too T n (if c=true then .bad else a) Q X σ): c=false/\wpS W too T n a Q X σ := by
 cases c with
 |false=>exact⟨rfl,h⟩
 |true=>simp only[if_true,wpS]at h
theorem setAt_mono {o: DV} {x: Nat} {d: DV} {K K': St->Prop} (h: setAt T o x d K σ) (k: ∀ σ,K σ->K' σ): setAt T o x d K' σ := by
 unfold setAt at h ⊢
 cases o with
 |ref a=>
  dsimp only at h ⊢
  cases h1: σ.mu a with
  |none=>rw[h1]at h;exact h.elim
  |some mo=>
   rw[h1]at h
   cases mo with
   |inst C dx=>
    dsimp only at h ⊢
    cases h2: σ.mu dx with
    |none=>rw[h2]at h;exact h.elim
    |some m2=>
     rw[h2]at h
     cases m2 with
     |attrs ns vs=>
      dsimp only at h ⊢
      cases h3: T.st C x with
      |false=>rw[h3]at h;exact h.elim
      |true=>
       rw[h3]at h
       dsimp only at h ⊢
       cases h4: Nat.ble ns.length 40 with
       |false=>rw[h4]at h;exact h.elim
       |true=>rw[h4]at h;exact k _ h
     |_=>exact h.elim
   |_=>exact h.elim
 |_=>exact h.elim
theorem ihs_asg (B: Base W too rb fI fd T) (J: ∀ k,Ih W too T n k) {t v: PySem.Expr} {pos: Pos} {Q: Option DV->St->Prop} (C: CxOk n cx) (SO: StOk cx) (CA: CellAt cx.env) (h: wpS W too T n (cAsg k cx.kd t v pos.line) Q X σ): EvS W too cx (exec (.Assign [t] v pos) cx.env) Q X σ := by
 have I := J k
 unfold cAsg at h
 split at h
 ·rename_i x p
  split at h
  ·rename_i elt gens sc vp
   split at h
   case h_2=>simp only[wpS]at h
   rename_i y hy
   obtain⟨hs,h⟩ := badS_if h
   simp only[Bool.and_eq_true,Bool.not_eq_true']at hs
   obtain⟨⟨h1,h2⟩,h3⟩ := hs
   simp only[wpS]at h
   rcases cE_comp (k := k) (kd := cx.kd) (elt := elt) (gens := gens) (sc := sc) (vp := vp)with q|q|⟨k',t,it,ifs,ns,rfl,rfl,ht,hsc,hp,q⟩
   ·rw[q]at h;simp only[wpE]at h
   ·rw[q]at h3;cases h3
   ·rw[q]at h
    simp only[wpE]at h
    obtain⟨okx,rfl,_⟩ := cStoL_of hy
    exact s_comp C CA B.wo ht hsc hp hy h1 h2 (B' := fun loc K m=>wpTs W too T n (cEs k' (kindsC sc.names) ifs) (fun ok σ₁=>match ok with|true=>wpE W too T n (cE k' (kindsC sc.names) elt) (fun y σ₂=>∃ m' y',Fz σ₂.mu y m' y'/\K (some y') m') no σ₁|false=>K none σ₁.mu) no ⟨loc,m⟩)
     (fun cx' C' hk CA' loc K m h=>comp_body (J k') C' hk CA' h) ((J k').e C CA h)
  ·obtain⟨hc,h⟩ := badS_if' h
   split at h
   case h_2=>simp only[wpS]at h
   rename_i y hy
   refine wp_asg I C CA hc (swapped_other (.inl ⟨fun _ _ _ e=>(by cases e),fun _ _ e=>(by cases e)⟩) _) rfl (fun d σ q=>?_) h
   simp only[wpA]at q
   exact a_names C.room.h (stores_S C.env SO C.kinds) (ns := .one y) (by simp only[cTgt,hy]) q
 ·rename_i ts k₀ p
  obtain⟨hc,h⟩ := badS_if' h
  have names: ∀{ts: List PySem.Expr},swappedStores [.Tuple ts k₀ p] v cx.env=pure none->wpS W too T n (match cNames (cSto cx.kd) ts with|some l=>if distinct l=true then .asg (.nm (.tup l)) (cE k cx.kd v)else .bad|none=>.bad) Q X σ->EvS W too cx (exec (.Assign [.Tuple ts k₀ p] v pos) cx.env) Q X σ := fun{ts} hs h=>by
   split at h
   case h_2=>simp only[wpS]at h
   rename_i l hl
   obtain⟨hd,h⟩ := badS_if h
   refine wp_asg I C CA hc hs rfl (fun d σ q=>?_) h
   simp only[wpA]at q
   exact a_names C.room.h (stores_S C.env SO C.kinds) (ns := .tup l) (by simp only[cTgt,hl,hd,if_true]) q
  split at h
  ·rename_i o₁ x₁ p₁ o₂ x₂ p₂ o₃ x₃ p₃
   obtain⟨hx,h⟩ := badS_if h
   rw[Bool.and_eq_true,Bool.and_eq_true]at hx
   refine wp_asg I C CA hc (swapped_attr3 _ _) rfl (fun d σ q=>?_) h
   simp only[wpA]at q
   refine a_attr3 B.wo B.tb C.room.h hx.1.1 hx.1.2 hx.2 ?_
   split at q
   case h_2=>exact q.elim
   refine(I.e C CA q).mono fun ov σ q=>setAt_mono q fun σ q=>?_
   refine(I.e C CA q).mono fun ov σ q=>setAt_mono q fun σ q=>?_
   exact I.e C CA q
  ·split at h
   ·rename_i vs k₁ p₁ _ _
    split at h
    ·rename_i l hl
     split at h
     ·rename_i hf;exact names (swapped_folded hf _) h
     ·rename_i hf
      simp only[wpS,wpA]at h
      exact s_swap C.room.h C.env C.kinds hl (Bool.eq_false_iff.mpr hf) (I.e C CA h)
    ·obtain⟨hf,h⟩ := badS_if h
     exact names (swapped_folded hf _) h
   ·rename_i hv
    exact names (swapped_other (.inr fun vs k p e=>hv vs k p e) _) h
 ·rename_i o x p
  obtain⟨hc,h⟩ := badS_if' h
  obtain⟨hx,h⟩ := badS_if h
  refine wp_asg I C CA hc (swapped_other (.inl ⟨fun _ _ _ e=>(by cases e),fun _ _ e=>(by cases e)⟩) _) rfl (fun d σ q=>?_) h
  simp only[wpA]at q
  exact a_attr B.wo B.tb hx (I.e C CA q)
 ·rename_i o i p
  obtain⟨hc,h⟩ := badS_if' h
  split at h
  ·simp only[wpS]at h
  ·refine wp_asg I C CA hc (swapped_other (.inl ⟨fun _ _ _ e=>(by cases e),fun _ _ e=>(by cases e)⟩) _) rfl (fun d σ q=>?_) h
   simp only[wpA]at q
   exact a_sub C.room.u ((I.e C CA q).mono fun d σ q=>I.e C CA q)
 ·simp only[wpS]at h
theorem glob_name (B: Base W too rb fI fd T) (C: CxOk n cx) (hk: kindN cx.kd (enc "TooLarge")=2) {pos: Pos} {A': Around} {Q: Value->Shared->Prop} (G: Good W cx g σ s) (q: Q (.ref too) s): wpAny W.M A' (eval (.Name "TooLarge" pos) cx.env) Q E s := by
 obtain⟨hd',v,r,hv⟩ := B.gl "TooLarge" (.cls too) (by decide) B.too_
 have hg: s.heap.Ns cx.env.globals W.mg := by rw[C.env.gl];exact B.wo.ng.keeps G.sim.ext
 have hb: s.heap.Ns cx.env.builtins W.mb := by rw[C.env.bi];exact B.wo.nb.keeps G.sim.ext
 obtain rfl: v=.ref too := by cases r;rfl
 refine Calls.Name_function_global C.env.kind ((C.kinds "TooLarge" (by decide)).2.2 hk) ?_ hd'
 rcases hv with hv|⟨hv1,hv2⟩
 ·exact Calls.loadGlobal_global hg hv q
 ·exact Calls.loadGlobal_builtin hg hv1 hb hv2 q
theorem is_tooLarge {x: Str} (h: Nat.beq (enc x) (enc "TooLarge")=true) (hx: okc x=true): x="TooLarge" := enc_inj hx (by decide) (Nat.eq_of_beq_eq_true h)
theorem is_told {x: Str} (h: Nat.beq (enc x) (enc "told")=true) (hx: okc x=true): x="told" := enc_inj hx (by decide) (Nat.eq_of_beq_eq_true h)
theorem ihs_s (B: Base W too rb fI fd T) (J: ∀ k,Ih W too T n k) (S: IhS W too T n k) {a: Stmt} {Q: Option DV->St->Prop} (C: CxOk n cx) (SO: StOk cx) (CA: CellAt cx.env) (h: wpS W too T n (cS (k+1) cx.kd a) Q X σ): EvS W too cx (exec a cx.env) Q X σ := by
 have I := J k
 unfold cS at h
 split at h
 ·exact ihs_asg B J C SO CA h
 ·obtain⟨hc,h⟩ := badS_if' h
  simp only[wpS]at h
  exact s_expr C.env hc (I.e C CA h)
 ·simp only[wpS]at h
  exact s_ret (I.e C CA h)
 ·simp only[wpS]at h
  refine s_if ((I.t C CA h).mono fun t σ q=>?_)
  cases t with
  |true=>exact S.ss C SO CA q
  |false=>exact S.ss C SO CA q
 ·simp only[wpS]at h
  rename_i t b pos
  exact s_while C (Tt := fun Q σ=>wpT W too T n (cE k cx.kd t) Q no σ) (B := fun Q σ=>wpSs W too T n (cSs k cx.kd b) Q no σ) (fun Q σ q=>I.t C CA q) (fun Q σ q=>S.ss C SO CA q) h
 ·rename_i t it b pos
  obtain⟨hp,h⟩ := badS_if h
  split at h
  case h_2=>simp only[wpS]at h
  rename_i ns ht
  simp only[wpS]at h
  exact s_for C SO ht hp (B := fun Q σ=>wpSs W too T n (cSs k cx.kd b) Q no σ) (fun I o C' SO' Q σ q=>S.ss (cx := cx.keep I o) C' SO' CA q) (I.e C CA h)
 ·obtain⟨hc,h1⟩ := badS_if h
  clear h
  have h := h1
  clear h1
  rw[Bool.and_eq_true,Bool.and_eq_true]at hc
  split at h
  ·simp only[wpS]at h
  ·rename_i he
   simp only[wpS]at h
   have hc' := is_tooLarge hc.1.1 hc.1.2
   subst hc'
   have hk := Nat.eq_of_beq_eq_true hc.2
   refine s_raise B.wo B.exc B.ini C ?_ (fun Q q=>?_) (I.e C CA h)
   ·unfold noStar
    split
    ·rename_i heq;cases heq
    ·rename_i heq;cases heq;exact(he _ _ rfl).elim
    ·rename_i heq;cases heq;rfl
   ·intro g s G
    exact glob_name B C hk G (G.post (.cls _) q)
 ·rename_i x xp v vp c cp ev t tp ev' ep at' ap sp hp pos
  split at h
  case h_2=>simp only[wpS]at h
  rename_i x' t' ev₁ hx ht hev
  obtain⟨hc,h1⟩ := badS_if h
  clear h
  have h := h1
  clear h1
  simp only[Bool.and_eq_true,Bool.not_eq_true']at hc
  obtain⟨⟨⟨⟨⟨⟨⟨⟨⟨h1,h2⟩,h3⟩,h4⟩,h5⟩,h6⟩,h7⟩,h8⟩,h9⟩,h10⟩ := hc
  have hc' := is_tooLarge h1 h2
  subst hc'
  have ha' := is_told h7 h6
  subst ha'
  obtain⟨okx,rfl,_⟩ := cStoL_of hx
  obtain⟨okt,rfl,_⟩ := cStoL_of ht
  obtain⟨oke,rfl,_⟩ := cStoL_of hev
  have he': ev'=ev := enc_inj h4 oke (Nat.eq_of_beq_eq_true h5)
  subst he'
  have nd := distinct_nodup h8
  simp only[List.nodup_cons,List.mem_cons,not_or]at nd
  simp only[wpS]at h
  have hdbg: (ev'==("__debug__": Str))=false := by
   rw[beq_eq_false_iff_ne]
   rintro rfl
   rw[beq_self]at h10;cases h10
  exact s_try B.wo B.exc C SO hx ht hev nd.1.2.1 nd.2.1.1 hdbg h9 (fun g₀ A' E g σ s Q G q=>glob_name (cx := cx.frm g₀) B ⟨C.env,C.room,C.kinds,C.frames⟩ (Nat.eq_of_beq_eq_true h3) G q)
   (fun g₀=>I.e (cx := cx.frm g₀) ⟨C.env,C.room,C.kinds,C.frames⟩ CA h)
 ·simp only[wpS]at h
theorem ihs_all (B: Base W too rb fI fd T) (Z: ZipOk W too n): ∀ k,IhS W too T n k
 |0=>⟨fun _ _ _ h=>by simp only[cS,wpS]at h,fun _ _ _ h=>by simp only[cSs,wpSs,wpS]at h⟩
 |k+1=>⟨fun C SO CA h=>ihs_s B (ih_all B Z) (ihs_all B Z k) C SO CA h,fun C SO CA h=>ihs_ss (ihs_all B Z k) C SO CA h⟩
theorem wp_sound (B: Base W too rb fI fd T) (Z: ZipOk W too n) (C: CxOk n cx) (SO: StOk cx) (CA: CellAt cx.env) {k: Nat} {body: List Stmt} {c: CSs} (hc: cSs k cx.kd body=c) {Q: Option DV->St->Prop} (h: wpSs W too T n c Q X σ): EvS W too cx (execs body cx.env) Q X σ :=
 (ihs_all B Z k).ss C SO CA (hc▸h)
end
end
section
section
variable {prog: Program} {w: World} {A: Around} {E: Value->Shared->Prop} {s: Shared}
theorem nextT_item {it t: Addr} {i: Nat} {items: Array Value} {x: Value} {Q: Value->Shared->Prop} (hit: s.heap.IsTupleIter it t i) (ht: s.heap.IsTuple t items) (hx: items[i]?=some x)
  (hQ: ∀ h',h'.IsTupleIter it t (i+1)->Heap.SameBut it s.heap h'->Q x {s with heap := h'}): wpAny (model prog w) A (Builtin.SmallTypes.nextOf (.ref it)) Q E s := by
 obtain⟨o,ho,hc,hd⟩ := id hit
 obtain⟨ol,hol,_,nl,hdl⟩ := ht
 unfold Builtin.SmallTypes.nextOf
 refine wpAny_bind (wpAny_callSpecial?_slot (name := Str.ofString "__next__") hit.typeIs F.slot_tuple_iterator_next
  (wpAny_call_entry F.slot_tuple_iterator_next hit.typeIs F.entry_tuple_iterator_next ?_ (F.args_tuple_iterator_next_1 _)))
 show wpAny _ _ (field (.ref it) 0 >>= _) _ _ s
 refine wpAny_bind (wpAny_field ho hd (x := .ref t) rfl ?_)
 show wpAny _ _ (if(Value.ref t==Value.none)=true then _ else _) _ _ s
 rw[if_neg (show ¬ ((Value.ref t==Value.none)=true) from Bool.false_ne_true)]
 show wpAny _ _ (field (.ref it) 1 >>= _) _ _ s
 refine wpAny_bind (wpAny_field ho hd (x := .int i 0) rfl ?_)
 show wpAny _ _ (seqItems? (.ref t) >>= _) _ _ s
 refine wpAny_bind (wpAny_seqItems hol hdl ?_)
 simp only[Int.toNat_natCast,hx]
 refine wpAny_bind (wpAny_setField ho hd (by simp) (wpAny_pure ⟨x,rfl,wpAny_pure (hQ _ ?_ (Heap.SameBut.update ..))⟩))
 exact⟨_,Heap.get?_update_self _ ho (Obj.isFreed_of_fields (Obj.data_mapFields hd _)),(Obj.cls_mapFields ..).trans hc,by rw[Obj.data_mapFields hd];simp[rawInt]⟩
theorem nextT_end {it t: Addr} {i: Nat} {items: Array Value} {Q: Value->Shared->Prop} (hh: A.handled=none) (hit: s.heap.IsTupleIter it t i) (ht: s.heap.IsTuple t items) (hx: items[i]?=none)
  (hE: ∀ h' e,Heap.ExtBut it s.heap h'->(∃ o,h'.get? e=some o/\o.cls=.type "StopIteration")->E (.ref e) {s with heap := h'}): wpAny (model prog w) A (Builtin.SmallTypes.nextOf (.ref it)) Q E s := by
 obtain⟨o,ho,hc,hd⟩ := id hit
 obtain⟨ol,hol,_,nl,hdl⟩ := ht
 unfold Builtin.SmallTypes.nextOf
 refine wpAny_bind (wpAny_callSpecial?_slot (name := Str.ofString "__next__") hit.typeIs F.slot_tuple_iterator_next
  (wpAny_call_entry F.slot_tuple_iterator_next hit.typeIs F.entry_tuple_iterator_next ?_ (F.args_tuple_iterator_next_1 _)))
 show wpAny _ _ (field (.ref it) 0 >>= _) _ _ s
 refine wpAny_bind (wpAny_field ho hd (x := .ref t) rfl ?_)
 show wpAny _ _ (if(Value.ref t==Value.none)=true then _ else _) _ _ s
 rw[if_neg (show ¬ ((Value.ref t==Value.none)=true) from Bool.false_ne_true)]
 show wpAny _ _ (field (.ref it) 1 >>= _) _ _ s
 refine wpAny_bind (wpAny_field ho hd (x := .int i 0) rfl ?_)
 show wpAny _ _ (seqItems? (.ref t) >>= _) _ _ s
 refine wpAny_bind (wpAny_seqItems hol hdl ?_)
 simp only[Int.toNat_natCast,hx]
 refine wpAny_bind (wpAny_rule (wpAny_bind (wpAny_setField ho hd (by simp) ?_)))
 show wpAny _ _ (newExc (.type "StopIteration") [] >>= _) _ _ _
 refine wpAny_bind ?_
 simp only[newExc,newTuple]
 refine wpAny_bind (wpAny_newObj_type ?_ (by size_fits))
 refine wpAny_bind (m := firstArgMember _ _) (wpAny_of_eq (a := Value.none) (by first|rfl|(simp only[firstArgMember];rfl)) ?_)
 refine wpAny_newObj_type ?_ (by size_fits)
 simp only[raiseNew]
 refine wpAny_bind (wpAny_handled ?_)
 first|rw[show A.in1.handled=none from hh]|rw[hh]
 refine wpAny_bind (wpAny_pure (wpAny_throw ?_))
 exact hE _ _ (((Heap.SameBut.update ..).extBut.push _).push _) ⟨_,Heap.get?_push_size _ rfl,rfl⟩
structure ZA (z TI TO i1 i2 t1 t2: Addr): Prop where
 nd: [z,TI,TO,i1,i2].Nodup
 n1: t1∉[z,TI,TO,i1,i2]
 n2: t2∉[z,TI,TO,i1,i2]
structure ZF (z TI TO i1 i2 t1 t2: Addr): Prop where
 TIz: TI≠z
 TOz: TO≠z
 i1z: i1≠z
 i2z: i2≠z
 TITO: TI≠TO
 TIi1: TI≠i1
 TIi2: TI≠i2
 TOi1: TO≠i1
 TOi2: TO≠i2
 i12: i1≠i2
 t1z: t1≠z
 t1TO: t1≠TO
 t1i1: t1≠i1
 t1i2: t1≠i2
 t2z: t2≠z
 t2TO: t2≠TO
 t2i1: t2≠i1
 t2i2: t2≠i2
variable {z TI TO i1 i2 t1 t2: Addr}
theorem ZA.f (h: ZA z TI TO i1 i2 t1 t2): ZF z TI TO i1 i2 t1 t2 := by
 obtain⟨nd,n1,n2⟩ := h
 simp only[List.nodup_cons,List.mem_cons,List.not_mem_nil,or_false,not_or]at nd n1 n2
 obtain⟨⟨a1,a2,a3,a4⟩,⟨b1,b2,b3⟩,⟨c1,c2⟩,d1,_⟩ := nd
 obtain⟨p1,p2,p3,p4,p5⟩ := n1
 obtain⟨q1,q2,q3,q4,q5⟩ := n2
 exact⟨Ne.symm a1,Ne.symm a2,Ne.symm a3,Ne.symm a4,b1,b2,b3,c1,c2,d1,p1,p3,p4,p5,q1,q3,q4,q5⟩
structure ZAt (h: Heap) (z TI TO i1 i2 t1 t2: Addr) (xs ys: Array Value) (f0: Value) (i j: Nat): Prop where
 zip: IsZip h z TI TO f0
 TI: IsPair h TI (.ref i1) (.ref i2)
 TO: ∃ a b,IsPair h TO a b
 i1: h.IsTupleIter i1 t1 i
 i2: h.IsTupleIter i2 t2 j
 t1: h.IsTuple t1 xs
 t2: h.IsTuple t2 ys
theorem z_item {xs ys: Array Value} {k: Nat} {x y: Value} {Q: Value->Shared->Prop} (D: ZF z TI TO i1 i2 t1 t2) (Z: ZAt s.heap z TI TO i1 i2 t1 t2 xs ys .none k k) (hx: xs[k]?=some x) (hy: ys[k]?=some y)
  (hQ: ∀ h',ZAt h' z TI TO i1 i2 t1 t2 xs ys (rawInt s.heap.objs.size) (k+1) (k+1)->IsPair h' s.heap.objs.size x y->(∀ c o,c∉[z,TI,TO,i1,i2]->s.heap.get? c=some o->h'.get? c=some o)->Q (.ref s.heap.objs.size) {s with heap := h'}) :
  wpAny (model prog w) A (Builtin.«zip.__next__» ⟨[.ref z],[]⟩) (fun fin s'=>∃ v,fin=.done (.ret v)/\Q v s') E s := by
 obtain⟨hz,hTI,⟨a,b,hTO⟩,h1,h2,hl1,hl2⟩ := Z
 show wpAny _ _ (field (.ref z) 2 >>= _) _ _ _
 refine wpAny_bind (wpAny_field hz rfl (x := .bool false) rfl ?_)
 show wpAny _ _ (field (.ref z) 3 >>= _) _ _ _
 refine wpAny_bind (wpAny_field hz rfl (x := .ref TI) rfl ?_)
 refine wpAny_bind (wpAny_seqItems hTI rfl ?_)
 show wpAny _ _ (Builtin.SmallTypes.ownedTupleIsFree (.ref z) >>= _) _ _ _
 refine wpAny_bind ?_
 unfold Builtin.SmallTypes.ownedTupleIsFree
 refine wpAny_bind (wpAny_field hz rfl (x := .none) rfl (wpAny_pure ?_))
 simp only[if_true]
 refine wpAny_bind (wpAny_rule ?_)
 refine wpAny_bind (wpAny_field hz rfl (x := .ref TO) rfl ?_)
 refine wpAny_bind (wpAny_setField_rec hz (by simp) fun h₁ hz₁ hs₁=>?_)
 replace hz₁: IsZip h₁ z TI TO .ellipsis := hz₁
 refine wpAny_bind ?_
 simp only[List.zipIdx_cons,List.zipIdx_nil,List.forIn_cons,List.forIn_nil]
 refine wpAny_bind (wpAny_bind (wpAny_onRaise ?_))
 show wpAny _ _ (Builtin.SmallTypes.nextOf (.ref i1) >>= _) _ _ _
 refine wpAny_bind (nextT_item (h1.extBut hs₁.extBut D.i1z) (hl1.extBut hs₁.extBut D.t1z) hx fun h₂ h1₂ hs₂=>wpAny_pure ?_)
 have hTO₂: IsPair h₂ TO a b := hs₂.extBut _ _ D.TOi1 (hs₁.extBut _ _ D.TOz hTO)
 refine wpAny_bind (wpAny_seqItems hTO₂ rfl ?_)
 refine wpAny_bind (wpAny_updateSeq_pair hTO₂ fun h₃ hTO₃ hs₃=>?_)
 replace hTO₃: IsPair h₃ TO x b := hTO₃
 refine wpAny_bind (wpAny_letGo (wpAny_pure ?_))
 refine wpAny_bind (wpAny_bind (wpAny_onRaise ?_))
 show wpAny _ _ (Builtin.SmallTypes.nextOf (.ref i2) >>= _) _ _ _
 refine wpAny_bind (nextT_item (((h2.extBut hs₁.extBut D.i2z).extBut hs₂.extBut D.i12.symm).extBut hs₃.extBut D.TOi2.symm)
  (((hl2.extBut hs₁.extBut D.t2z).extBut hs₂.extBut D.t2i1).extBut hs₃.extBut D.t2TO) hy fun h₄ h2₄ hs₄=>wpAny_pure ?_)
 have hTO₄: IsPair h₄ TO x b := hs₄.extBut _ _ D.TOi2 hTO₃
 refine wpAny_bind (wpAny_seqItems hTO₄ rfl ?_)
 refine wpAny_bind (wpAny_updateSeq_pair hTO₄ fun h₅ hTO₅ hs₅=>?_)
 replace hTO₅: IsPair h₅ TO x y := hTO₅
 refine wpAny_bind (wpAny_letGo (wpAny_pure (wpAny_pure ?_)))
 refine wpAny_bind (wpAny_seqItems hTO₅ rfl ?_)
 refine wpAny_bind (wpAny_newTuple ?_)
 have keep: ∀ c o,c≠z->c≠TO->c≠i1->c≠i2->s.heap.get? c=some o->h₅.get? c=some o := fun c o c1 c2 c3 c4 e=>
  hs₅.extBut _ _ c2 (hs₄.extBut _ _ c4 (hs₃.extBut _ _ c2 (hs₂.extBut _ _ c3 (hs₁.extBut _ _ c1 e))))
 have hz₅: IsZip h₅ z TI TO .ellipsis := hs₅.extBut _ _ D.TOz.symm (hs₄.extBut _ _ D.i2z.symm (hs₃.extBut _ _ D.TOz.symm (hs₂.extBut _ _ D.i1z.symm hz₁)))
 have hsz: h₅.objs.size=s.heap.objs.size := by rw[hs₅.1,hs₄.1,hs₃.1,hs₂.1,hs₁.1]
 have h1₅: h₅.IsTupleIter i1 t1 (k+1) := ((h1₂.extBut hs₃.extBut D.TOi1.symm).extBut hs₄.extBut D.i12).extBut hs₅.extBut D.TOi1.symm
 have h2₅: h₅.IsTupleIter i2 t2 (k+1) := h2₄.extBut hs₅.extBut D.TOi2.symm
 have hzlt: z<h₅.objs.size := Heap.lt_size hz₅
 show wpAny _ _ (Builtin.SmallTypes.ownedTupleHandOut (.ref z) (.ref h₅.objs.size) >>= _) _ _ _
 refine wpAny_bind ?_
 unfold Builtin.SmallTypes.ownedTupleHandOut
 have hz₆: IsZip (h₅.push {cls := .type "tuple",data := .seq #[x,y]}) z TI TO .ellipsis := Heap.get?_push_of_some _ hz₅
 refine wpAny_bind (wpAny_setField_rec hz₆ (by simp) fun h₇ hz₇ hs₇=>?_)
 replace hz₇: IsZip h₇ z TI TO (rawInt h₅.objs.size) := hz₇
 refine wpAny_setField_rec hz₇ (by simp) fun h₈ hz₈ hs₈=>?_
 replace hz₈: IsZip h₈ z TI TO (rawInt h₅.objs.size) := hz₈
 have up: ∀ c o,c≠z->h₅.get? c=some o->h₈.get? c=some o := fun c o c1 e=>hs₈.extBut _ _ c1 (hs₇.extBut _ _ c1 (Heap.get?_push_of_some _ e))
 have hT₈: IsPair h₈ h₅.objs.size x y := hs₈.extBut _ _ (Nat.ne_of_gt hzlt) (hs₇.extBut _ _ (Nat.ne_of_gt hzlt) (Heap.get?_push_size _ rfl))
 rw[hsz]at hz₈ hT₈
 refine wpAny_pure ⟨_,rfl,?_⟩
 show Q (.ref h₅.objs.size) _
 rw[hsz]
 refine hQ h₈ ⟨hz₈,up _ _ D.TIz (keep _ _ D.TIz D.TITO D.TIi1 D.TIi2 hTI),⟨_,_,up _ _ D.TOz hTO₅⟩,?_,?_,?_,?_⟩ hT₈ fun c o hc e=>?_
 ·obtain⟨o,ho,r⟩ := h1₅;exact⟨o,up _ _ D.i1z ho,r⟩
 ·obtain⟨o,ho,r⟩ := h2₅;exact⟨o,up _ _ D.i2z ho,r⟩
 ·obtain⟨o,ho,r⟩ := hl1;exact⟨o,up _ _ D.t1z (keep _ _ D.t1z D.t1TO D.t1i1 D.t1i2 ho),r⟩
 ·obtain⟨o,ho,r⟩ := hl2;exact⟨o,up _ _ D.t2z (keep _ _ D.t2z D.t2TO D.t2i1 D.t2i2 ho),r⟩
 ·simp only[List.mem_cons,List.not_mem_nil,or_false,not_or]at hc
  exact up c o hc.1 (keep c o hc.1 hc.2.2.1 hc.2.2.2.1 hc.2.2.2.2 e)
theorem z_end {xs ys: Array Value} {k: Nat} {Q: Fin->Shared->Prop} (hh: A.handled=none) (D: ZF z TI TO i1 i2 t1 t2) (Z: ZAt s.heap z TI TO i1 i2 t1 t2 xs ys .none k k) (hend: xs[k]?=none\/ys[k]?=none)
  (hE: ∀ h' e,(∀ c o,c∉[z,TI,TO,i1,i2]->s.heap.get? c=some o->h'.get? c=some o)->(∃ o,h'.get? e=some o/\o.cls=.type "StopIteration")->E (.ref e) {s with heap := h'}) :
  wpAny (model prog w) A (Builtin.«zip.__next__» ⟨[.ref z],[]⟩) Q E s := by
 obtain⟨hz,hTI,⟨a,b,hTO⟩,h1,h2,hl1,hl2⟩ := Z
 have nin: ∀{c: Addr},c∉[z,TI,TO,i1,i2]->c≠z/\c≠TO/\c≠i1/\c≠i2 := fun hc=>by
  simp only[List.mem_cons,List.not_mem_nil,or_false,not_or]at hc
  exact⟨hc.1,hc.2.2.1,hc.2.2.2.1,hc.2.2.2.2⟩
 show wpAny _ _ (field (.ref z) 2 >>= _) _ _ _
 refine wpAny_bind (wpAny_field hz rfl (x := .bool false) rfl ?_)
 show wpAny _ _ (field (.ref z) 3 >>= _) _ _ _
 refine wpAny_bind (wpAny_field hz rfl (x := .ref TI) rfl ?_)
 refine wpAny_bind (wpAny_seqItems hTI rfl ?_)
 show wpAny _ _ (Builtin.SmallTypes.ownedTupleIsFree (.ref z) >>= _) _ _ _
 refine wpAny_bind ?_
 unfold Builtin.SmallTypes.ownedTupleIsFree
 refine wpAny_bind (wpAny_field hz rfl (x := .none) rfl (wpAny_pure ?_))
 simp only[if_true]
 refine wpAny_bind (wpAny_rule ?_)
 refine wpAny_bind (wpAny_field hz rfl (x := .ref TO) rfl ?_)
 refine wpAny_bind (wpAny_setField_rec hz (by simp) fun h₁ hz₁ hs₁=>?_)
 replace hz₁: IsZip h₁ z TI TO .ellipsis := hz₁
 refine wpAny_bind ?_
 simp only[List.zipIdx_cons,List.zipIdx_nil,List.forIn_cons,List.forIn_nil]
 refine wpAny_bind (wpAny_bind (wpAny_onRaise ?_))
 show wpAny _ _ (Builtin.SmallTypes.nextOf (.ref i1) >>= _) _ _ _
 cases hx: xs[k]? with
 |none=>
  refine wpAny_bind (nextT_end hh (h1.extBut hs₁.extBut D.i1z) (hl1.extBut hs₁.extBut D.t1z) hx fun h₂ e hs₂ he=>?_)
  obtain⟨oe,hoe,hce⟩ := he
  have hz₂: IsZip h₂ z TI TO .ellipsis := hs₂ _ _ D.i1z.symm hz₁
  have hez: e≠z := fun x=>by subst x;rw[hz₂]at hoe;cases hoe;simp at hce
  exact wpAny_setField_rec hz₂ (by simp) fun h₃ _ hs₃=>hE h₃ e (fun c o hc x=>hs₃.extBut _ _ (nin hc).1 (hs₂ _ _ (nin hc).2.2.1 (hs₁.extBut _ _ (nin hc).1 x))) ⟨oe,hs₃.extBut _ _ hez hoe,hce⟩
 |some x=>
  have hy: ys[k]?=none := by rcases hend with h|h;rw[hx]at h;cases h;exact h
  refine wpAny_bind (nextT_item (h1.extBut hs₁.extBut D.i1z) (hl1.extBut hs₁.extBut D.t1z) hx fun h₂ h1₂ hs₂=>wpAny_pure ?_)
  have hTO₂: IsPair h₂ TO a b := hs₂.extBut _ _ D.TOi1 (hs₁.extBut _ _ D.TOz hTO)
  refine wpAny_bind (wpAny_seqItems hTO₂ rfl ?_)
  refine wpAny_bind (wpAny_updateSeq_pair hTO₂ fun h₃ hTO₃ hs₃=>?_)
  refine wpAny_bind (wpAny_letGo (wpAny_pure ?_))
  refine wpAny_bind (wpAny_bind (wpAny_onRaise ?_))
  show wpAny _ _ (Builtin.SmallTypes.nextOf (.ref i2) >>= _) _ _ _
  refine wpAny_bind (nextT_end hh (((h2.extBut hs₁.extBut D.i2z).extBut hs₂.extBut D.i12.symm).extBut hs₃.extBut D.TOi2.symm)
   (((hl2.extBut hs₁.extBut D.t2z).extBut hs₂.extBut D.t2i1).extBut hs₃.extBut D.t2TO) hy fun h₄ e hs₄ he=>?_)
  obtain⟨oe,hoe,hce⟩ := he
  have hz₄: IsZip h₄ z TI TO .ellipsis := hs₄ _ _ D.i2z.symm (hs₃.extBut _ _ D.TOz.symm (hs₂.extBut _ _ D.i1z.symm hz₁))
  have hez: e≠z := fun x=>by subst x;rw[hz₄]at hoe;cases hoe;simp at hce
  exact wpAny_setField_rec hz₄ (by simp) fun h₅ _ hs₅=>hE h₅ e (fun c o hc x=>hs₅.extBut _ _ (nin hc).1 (hs₄ _ _ (nin hc).2.2.2 (hs₃.extBut _ _ (nin hc).2.1 (hs₂.extBut _ _ (nin hc).2.2.1 (hs₁.extBut _ _ (nin hc).1 x))))) ⟨oe,hs₅.extBut _ _ hez hoe,hce⟩
theorem zn_item {xs ys: Array Value} {k: Nat} {x y: Value} {Q: Option Value->Shared->Prop} (D: ZF z TI TO i1 i2 t1 t2) (Z: ZAt s.heap z TI TO i1 i2 t1 t2 xs ys .none k k) (hx: xs[k]?=some x) (hy: ys[k]?=some y)
  (hQ: ∀ h',ZAt h' z TI TO i1 i2 t1 t2 xs ys (rawInt s.heap.objs.size) (k+1) (k+1)->IsPair h' s.heap.objs.size x y->(∀ c o,c∉[z,TI,TO,i1,i2]->s.heap.get? c=some o->h'.get? c=some o)->Q (some (.ref s.heap.objs.size)) {s with heap := h'}) :
  wpAny (model prog w) A (pyNext (.ref z)) Q E s := by
 have hT: s.TypeIs (.ref z) "zip" := ⟨_,Z.zip,rfl⟩
 unfold pyNext
 exact wpAny_bind (wpAny_attempt (wpAny_callSpecial?_slot (name := Str.ofString "__next__") hT F.slot_zip_next
  (wpAny_call_entry F.slot_zip_next hT F.entry_zip_next (z_item D Z hx hy fun h' a1 a2 a3=>wpAny_pure (hQ h' a1 a2 a3)) (F.args_zip_next_1 _))))
theorem zn_end {xs ys: Array Value} {k: Nat} {Q: Option Value->Shared->Prop} (hh: A.handled=none) (D: ZF z TI TO i1 i2 t1 t2) (Z: ZAt s.heap z TI TO i1 i2 t1 t2 xs ys .none k k) (hend: xs[k]?=none\/ys[k]?=none)
  (hQ: ∀ h',(∀ c o,c∉[z,TI,TO,i1,i2]->s.heap.get? c=some o->h'.get? c=some o)->Q none {s with heap := h'}): wpAny (model prog w) A (pyNext (.ref z)) Q E s := by
 have hT: s.TypeIs (.ref z) "zip" := ⟨_,Z.zip,rfl⟩
 unfold pyNext
 refine wpAny_bind (wpAny_attempt (wpAny_callSpecial?_slot (name := Str.ofString "__next__") hT F.slot_zip_next
  (wpAny_call_entry F.slot_zip_next hT F.entry_zip_next (z_end hh D Z hend fun h' e hk he=>?_) (F.args_zip_next_1 _))))
 obtain⟨o,ho,hc⟩ := he
 refine wpAny_bind (wpAny_isInstance (T := "StopIteration") (b := true) ⟨o,ho,hc⟩ isSubtype_stop ?_)
 exact wpAny_pure (hQ _ hk)
theorem z_go {elts: List PySem.Expr} {n: Nat} {pos: Pos} {xs ys: Array Value} {T: Addr} {i: Nat} {Q: Unit->Shared->Prop} (D: ZF z TI TO i1 i2 t1 t2) (Z: ZAt s.heap z TI TO i1 i2 t1 t2 xs ys (rawInt T) i i)
  (hQ: ∀ h',ZAt h' z TI TO i1 i2 t1 t2 xs ys .none i i->Heap.SameBut z s.heap h'->Q () {s with heap := h'}): wpAny (model prog w) A (letOwnedTupleGo (.Tuple elts n pos) (.ref z) (.ref T)) Q E s := by
 obtain⟨hz,hTI,⟨a,b,hTO⟩,h1,h2,hl1,hl2⟩ := Z
 exact wpAny_letOwnedTupleGo_zip hz fun h' hz' hs'=>hQ h' ⟨hz',hs'.extBut _ _ D.TIz hTI,⟨a,b,hs'.extBut _ _ D.TOz hTO⟩,h1.extBut hs'.extBut D.i1z,h2.extBut hs'.extBut D.i2z,hl1.extBut hs'.extBut D.t1z,hl2.extBut hs'.extBut D.t2z⟩ hs'
end
end
section
section
variable {W: Wd} {too: Addr} {T: Tb} {n: Nat} {cx: Cx} {X: DV->St->Prop} {σ: St} {g g': Hp} {m: Mt} {s s': Shared} {E: Value->Shared->Prop}
theorem Good.updL (G: Good W cx g σ s) {L: List Addr} (F: ∀ b∈L,Free cx g σ.mu b) {h': Heap} {t: Nat} (hk: ∀ b o,b∉L->s.heap.get? b=some o->h'.get? b=some o): Good W cx g σ {s with heap := h',toks := t} := by
 obtain⟨⟨mm,hns,hv⟩,hc,⟨a1,a2,a3⟩,ca⟩ := G.frm
 refine⟨G.ext,⟨G.sim.base,fun b o h=>hk b o (fun e=>by rw[(F b e).fg]at h;cases h) (G.sim.frz b o h),fun b o h=>?_,fun b o h=>?_,G.sim.mabove,G.sim.gens,G.sim.os⟩,⟨⟨mm,hns.at' (hk _ · (fun e=>(F _ e).fl rfl)),hv⟩,fun x d ok hl hkd=>?_,⟨a1,a2,a3⟩,fun x c hxc=>?_⟩,G.above⟩
 ·obtain⟨k1,k2⟩ := G.sim.kept b o h
  exact⟨k1,k2.other fun o' e=>hk b o' (fun e=>by rw[(F b e).fk]at h;cases h) e⟩
 ·obtain⟨h1,h2,ob,h3,h4⟩ := G.sim.muts b o h
  exact⟨h1,h2,ob,hk _ _ (fun e=>by rw[(F b e).fm]at h;cases h) h3,h4⟩
 ·obtain⟨c,v,h1,⟨o,h2,h2'⟩,h3⟩ := hc x d ok hl hkd
  exact⟨c,v,h1,⟨o,hk _ _ (fun e=>(F c e).fc x (mem_of_lookup h1)) h2,h2'⟩,h3⟩
 ·obtain⟨c1,c2,c3,v,o,ho,hd⟩ := ca x c hxc
  exact⟨c1,c2,c3,v,o,hk _ _ (fun e=>(F c e).fc x hxc) ho,hd⟩
theorem Good.adoptG (G: Good W cx g σ s) {a: Addr} {ob: Obj} (F: Free cx g σ.mu a) (ho: s.heap.get? a=some ob): Good W cx (gadd g a ob) σ s := by
 have he: Ext g (gadd g a ob) := ext_gadd F.fg
 obtain⟨⟨mm,hns,hv⟩,hc,⟨a1,a2,a3⟩,ca⟩ := G.frm
 refine⟨G.ext.trans he,⟨fun b o h=>he b o (G.sim.base b o h),fun b o h=>?_,fun b o h=>?_,fun b o h=>?_,G.sim.mabove,G.sim.gens,G.sim.os⟩,⟨⟨mm,hns,fun x d ok hl hkd=>?_⟩,fun x d ok hl hkd=>?_,⟨?_,a2,a3⟩,fun x c hxc=>?_⟩,G.above⟩
 ·by_cases q: b=a
  ·subst q;rw[gadd_self]at h;cases h;exact ho
  ·rw[gadd_ne _ _ q]at h;exact G.sim.frz b o h
 ·obtain⟨k1,k2⟩ := G.sim.kept b o h
  exact⟨by rw[gadd_ne _ _ (fun q=>by subst q;rw[F.fk]at h;cases h)];exact k1,k2⟩
 ·obtain⟨h1,h2,ob',h3,h4⟩ := G.sim.muts b o h
  exact⟨by rw[gadd_ne _ _ (fun q=>by subst q;rw[F.fm]at h;cases h)];exact h1,h2,ob',h3,h4.mono he⟩
 ·obtain⟨v,h1,h2⟩ := hv x d ok hl hkd;exact⟨v,h1,h2.mono he⟩
 ·obtain⟨c,v,h1,h2,h3⟩ := hc x d ok hl hkd;exact⟨c,v,h1,h2,h3.mono he⟩
 ·rw[gadd_ne _ _ (Ne.symm F.fl)];exact a1
 ·obtain⟨c1,c2⟩ := ca x c hxc
  exact⟨by rw[gadd_ne _ _ (fun q=>by subst q;exact F.fc x hxc)];exact c1,c2⟩
structure ZP (z TI TO i1 i2 t1 t2: Addr) (l r: List DV) (i: Nat) (g: Hp) (h: Heap): Prop where
 zip: IsZip h z TI TO .none
 TI: IsPair h TI (.ref i1) (.ref i2)
 TO: ∃ a b,IsPair h TO a b
 i1: h.IsTupleIter i1 t1 i
 i2: h.IsTupleIter i2 t2 i
 t1: Rep g (.tup l) (.ref t1)
 t2: Rep g (.tup r) (.ref t2)
variable {z TI TO i1 i2 t1 t2: Addr} {l r: List DV}
theorem zp_at {i: Nat} (G: Good W cx g σ s) (P: ZP z TI TO i1 i2 t1 t2 l r i g s.heap): ∃ xs ys: List Value,RepL g l xs/\RepL g r ys/\ZAt s.heap z TI TO i1 i2 t1 t2 xs.toArray ys.toArray .none i i := by
 obtain⟨p1,p2,p3,p4,p5,p6,p7⟩ := P
 cases p6 with
 |tup h hc hd rl=>
  cases p7 with
  |tup h' hc' hd' rl'=>exact⟨_,_,rl,rl',p1,p2,p3,p4,p5,⟨_,G.sim.frz _ _ h,hc,_,hd⟩,⟨_,G.sim.frz _ _ h',hc',_,hd'⟩⟩
theorem zip_iter (D: ZA z TI TO i1 i2 t1 t2) {elts: List PySem.Expr} {k: Nat} {pos: Pos} {d: DV} (hd: ∀ a,d≠.ref a) :
  Iter W d ((l.zip r).map fun p=>.tup [p.1,p.2]) (.Tuple elts k pos) (.ref z) [z,TI,TO,i1,i2] (fun i g _ h=>ZP z TI TO i1 i2 t1 t2 l r i g h) where
 item := fun{cx g σ s i x E Q} hh G F P hx k=>by
  obtain⟨xs,ys,r1,r2,Z⟩ := zp_at G P
  rw[List.getElem?_map]at hx
  cases hz: (l.zip r)[i]? with
  |none=>rw[hz]at hx;cases hx
  |some p=>
   rw[hz]at hx
   simp only[Option.map_some,Option.some.injEq]at hx
   subst hx
   rw[List.getElem?_zip_eq_some]at hz
   obtain⟨v,hv,rv⟩ := r1.get hz.1
   obtain⟨w,hw,rw'⟩ := r2.get hz.2
   have DF := D.f
   refine zn_item DF Z (by simpa using hv) (by simpa using hw) fun h' Z' hT hk=>k _ _ fun E' Q' hq=>?_
   refine z_go DF Z' fun h'' Z'' hs=>?_
   have hzlt: z<s.heap.objs.size := Heap.lt_size Z.zip
   have Tn: s.heap.get? s.heap.objs.size=none := fresh_none _
   have hT': IsPair h'' s.heap.objs.size v w := (hs.2 _ (Nat.ne_of_gt hzlt)).trans hT
   have keep: ∀ b,b∉[z,TI,TO,i1,i2]->∀ o,s.heap.get? b=some o->h''.get? b=some o := fun b hb o e=>(hs.2 b (fun q=>hb (by rw[q];exact .head _))).trans (hk b o hb e)
   have G': Good W cx g σ {s with heap := h''} := G.updL (t := s.toks) F fun b o hb e=>keep b hb o e
   have FT := G.free Tn
   have he: Ext g (gadd g s.heap.objs.size {cls := .type "tuple",data := .seq #[v,w]}) := ext_gadd FT.fg
   refine hq _ _ he (G'.adoptG FT hT') ⟨Z''.zip,Z''.TI,Z''.TO,Z''.i1,Z''.i2,P.t1.mono he,P.t2.mono he⟩ (.tup (gadd_self _ _ _) rfl rfl (.cons (rv.mono he) (.cons (rw'.mono he) .nil))) (fun b o hb=>?_) keep
   by_cases q: b=s.heap.objs.size
   ·subst q;exact .inr Tn
   ·rw[gadd_ne _ _ q]at hb;exact .inl hb
 done := fun{cx g σ s E Q} hh G F P k=>by
  obtain⟨xs,ys,r1,r2,Z⟩ := zp_at G P
  refine zn_end hh D.f Z ?_ fun h' hk=>k _ (G.updL (t := s.toks) F fun b o hb e=>hk b o hb e) fun b hb o e=>hk b o hb e
  simp only[List.length_map,List.length_zip,r1.length,r2.length]
  rcases Nat.le_total xs.length ys.length with h|h
  ·exact .inl (by simp[Nat.min_eq_left h])
  ·exact .inr (by simp[Nat.min_eq_right h])
 objs := fun{i g m h} P b hb=>by
  simp only[List.mem_cons,List.not_mem_nil,or_false]at hb
  obtain⟨p1,p2,⟨a,c,p3⟩,⟨o4,p4,_,d4⟩,⟨o5,p5,_,d5⟩,_⟩ := P
  rcases hb with rfl|rfl|rfl|rfl|rfl
  ·exact⟨_,p1,rfl⟩
  ·exact⟨_,p2,rfl⟩
  ·exact⟨_,p3,rfl⟩
  ·exact⟨_,p4,by unfold isD;rw[d4]⟩
  ·exact⟨_,p5,by unfold isD;rw[d5]⟩
 back := fun{i g g' m m' h h'} P e _ ho=>by
  obtain⟨p1,p2,⟨a,c,p3⟩,⟨o4,p4,q4⟩,⟨o5,p5,q5⟩,p6,p7⟩ := P
  exact⟨(ho z (by simp)).trans p1,(ho TI (by simp)).trans p2,⟨a,c,(ho TO (by simp)).trans p3⟩,⟨o4,(ho i1 (by simp)).trans p4,q4⟩,⟨o5,(ho i2 (by simp)).trans p5,q5⟩,p6.mono e,p7.mono e⟩
 self := fun P q=>wpAny_pyIter_zip P.zip q
abbrev zh1 (h: Heap) (t1: Addr): Heap := h.push {cls := .type "tuple_iterator",data := .fields #[.ref t1,.int 0 0]}
abbrev zh2 (h: Heap) (t1 t2: Addr): Heap := (zh1 h t1).push {cls := .type "tuple_iterator",data := .fields #[.ref t2,.int 0 0]}
abbrev zh3 (h: Heap) (t1 t2: Addr): Heap := (zh2 h t1 t2).push {cls := .type "tuple",data := .seq #[.ref h.objs.size,.ref (zh1 h t1).objs.size]}
abbrev zh4 (h: Heap) (t1 t2: Addr): Heap := (zh3 h t1 t2).push {cls := .type "tuple",data := .seq #[.none,.none]}
abbrev zh5 (h: Heap) (t1 t2: Addr): Heap := (zh4 h t1 t2).push {cls := .type "zip",data := .fields #[.none,.bool false,.bool false,.ref (zh2 h t1 t2).objs.size,.ref (zh3 h t1 t2).objs.size]}
theorem zip_new_T (t1 t2: Addr) (xs ys: Array Value): Meets (Builtin.«zip.__new__» ⟨[.type "zip",.ref t1,.ref t2],[]⟩) (fun _ R s=>s.heap.IsTuple t1 xs/\s.heap.IsTuple t2 ys/\R (.ok (.ret (.ref (zh4 s.heap t1 t2).objs.size))) {s with heap := zh5 s.heap t1 t2}) :=
 .of_wp fun prog w A R s h=>by
  obtain⟨hp,g,d,tk,os⟩ := s;obtain⟨hl1,hl2,h⟩ := h
  have hsub := sub_zip
  have hL1: Heap.IsTuple (Shared.heap ⟨hp,g,d,tk,os⟩) t1 xs := hl1
  have hL2: Heap.IsTuple (Shared.heap ⟨hp.push {cls := .type "tuple_iterator",data := .fields #[.ref t1,.int 0 0]},g,d,tk,os⟩) t2 ys := Heap.IsTuple.push hl2 _
  wp_walk using wpAny_pyIter_tuple hL1,wpAny_pyIter_tuple hL2
  exact⟨_,rfl,h⟩
theorem call_zip_T {M: Model} {A: Around} {xs ys: Array Value} {prog: Program} {w: World} (hM: M=model prog w) {Q: Value->Shared->Prop} (hl1: s.heap.IsTuple t1 xs) (hl2: s.heap.IsTuple t2 ys)
  (h: ∀ h',IsZip h' (s.heap.objs.size+4) (s.heap.objs.size+2) (s.heap.objs.size+3) .none->IsPair h' (s.heap.objs.size+2) (.ref s.heap.objs.size) (.ref (s.heap.objs.size+1))->
   IsPair h' (s.heap.objs.size+3) .none .none->h'.IsTupleIter s.heap.objs.size t1 0->h'.IsTupleIter (s.heap.objs.size+1) t2 0->
   (∀ c o,s.heap.get? c=some o->h'.get? c=some o)->Q (.ref (s.heap.objs.size+4)) {s with heap := h'}) :
  wpAny M A (call (.type "zip") [.ref t1,.ref t2] []) Q E s := by
 subst hM
 refine callType_new F.called_zip (by decide) (F.typeCall_zip_2 _ _) (F.newCall_zip_2 _ _) (fun obj=>F.args_object_init_3 obj _ _) F.entry_zip_new
  (zip_new_T t1 t2 xs ys) ⟨hl1,hl2,?_⟩
 have z1: (zh1 s.heap t1).objs.size=s.heap.objs.size+1 := Heap.size_push ..
 have z2: (zh2 s.heap t1 t2).objs.size=s.heap.objs.size+2 := by rw[Heap.size_push,z1]
 have z3: (zh3 s.heap t1 t2).objs.size=s.heap.objs.size+3 := by rw[Heap.size_push,z2]
 have z4: (zh4 s.heap t1 t2).objs.size=s.heap.objs.size+4 := by rw[Heap.size_push,z3]
 have up1: ∀{h: Heap} {a: Addr} {o o': Obj},h.get? a=some o->(h.push o').get? a=some o := fun e=>Heap.get?_push_of_some _ e
 have g5: (zh5 s.heap t1 t2).get? (zh4 s.heap t1 t2).objs.size=some _ := Heap.get?_push_size _ rfl
 have g4: (zh5 s.heap t1 t2).get? (zh3 s.heap t1 t2).objs.size=some _ := up1 (Heap.get?_push_size _ rfl)
 have g3: (zh5 s.heap t1 t2).get? (zh2 s.heap t1 t2).objs.size=some _ := up1 (up1 (Heap.get?_push_size _ rfl))
 have g2: (zh5 s.heap t1 t2).get? (zh1 s.heap t1).objs.size=some _ := up1 (up1 (up1 (Heap.get?_push_size _ rfl)))
 have g1: (zh5 s.heap t1 t2).get? s.heap.objs.size=some _ := up1 (up1 (up1 (up1 (Heap.get?_push_size _ rfl))))
 show _/\_
 rw[z2,z3,z4]at g5
 rw[z1,z2]at g3
 rw[z3]at g4
 rw[z1]at g2
 rw[z4]
 exact⟨⟨_,g5,rfl⟩,h _ g5 g3 g4 ⟨_,g1,rfl,rfl⟩ ⟨_,g2,rfl,rfl⟩ fun c o x=>up1 (up1 (up1 (up1 (up1 x))))⟩
theorem Rep.tup_ref {ds: List DV} {v: Value} (r: Rep g (.tup ds) v): ∃ a o k vs,v=.ref a/\g a=some o/\o.cls=.type "tuple"/\o.data=.seq (List.toArray vs) k/\RepL g ds vs := by
 cases r with
 |tup h hc hd r=>exact⟨_,_,_,_,rfl,h,hc,hd,r⟩
theorem zip_ok (WO: W.Ok) (hz1: W.mg "zip"=none) (hz2: W.mb "zip"=some (.type "zip")): ZipOk W too n := by
 intro cx X σ C CA elt t a b z pos np cp ns sc ht hsc htup hs henc hzc hk B' hB Q h g s G
 have hz: z="zip" := enc_inj hzc (by decide) (henc.trans (by rfl))
 subst hz
 obtain⟨es,kt,pt,rfl⟩: ∃ es kt pt,t=.Tuple es kt pt := by
  unfold cTgt at ht
  split at ht
  ·split at ht
   ·cases ht;cases htup
   ·cases ht
  ·exact⟨_,_,_,rfl⟩
  ·cases ht
 obtain⟨cl,hcl,hcl1,hcl2⟩ := clos_ok CA C.kinds hsc
 obtain⟨s1,s2,s3,s4,s5,s6⟩ := scOk_of hsc
 rw[PySem.eval_ListComp]
 refine wpAny_comprehension_free (g := ⟨.Tuple es kt pt,.Call (.Name "zip" np) [a,b] [] cp,[],0⟩) (gs := []) rfl (fun x=>plain_iter rfl _ _) hcl s2 (fun x hx hl=>by rw[lookup_of_distinct s1 s4 x hx,hl]) ?_
 show wpAny _ _ (eval (.Call (.Name "zip" np) [a,b] [] cp) cx.env) _ _ _
 have he: eval (.Call (.Name "zip" np) [a,b] [] cp) cx.env=(do callWith cp (<-eval (.Name "zip" np) cx.env) [] (backTo cp (starEach [a,b] cx.env)) (backToKw cp (keywordEach [] cx.env))) := rfl
 rw[he]
 have hg: s.heap.Ns cx.env.globals W.mg := by rw[C.env.gl];exact WO.ng.keeps G.sim.ext
 have hb: s.heap.Ns cx.env.builtins W.mb := by rw[C.env.bi];exact WO.nb.keeps G.sim.ext
 refine wpAny_bind (Calls.Name_function_global C.env.kind ((C.kinds "zip" (by decide)).2.2 hk) (Calls.loadGlobal_builtin hg hz1 hb hz2 ?_) (by decide))
 have hev: EvL W too cx (spliced (backTo cp (starEach [a,b] cx.env))) (fun ds σ=>∃ l r,ds=[.tup l,.tup r]/\small l.length/\small r.length/\compW (fun _=>True) (fun x K m=>match bindC σ.loc m ns x with|some loc=>B' loc K m|none=>False) σ.loc Q ((l.zip r).map fun p=>.tup [p.1,p.2]) [] σ.mu) X σ := by
  refine ev_splice_cons hs (h.mono fun d σ q=>?_)
  refine ev_splice_cons (noStar_cons (env := cx.env) (pos := cp) hs).2 (EvE.mono q fun e σ q=>?_)
  refine ev_splice_nil ?_
  split at q
  ·exact⟨_,_,rfl,q⟩
  ·exact q.elim
 refine callWith_of (P := fun h=>W.K.In h) (by rw[noStar_any hs];rfl) (fun h p=>⟨.machine,.inr (.inl rfl),Looks.of_pure rfl⟩) ?_
 refine args_plain (noStar_any hs) (wpAny_mono (hev g s G) (fun vs s' ⟨g',σ',ds,e,G',rs,q⟩=>⟨WO.kin.keeps G'.sim.ext,?_⟩) fun _ _ x=>x)
 obtain⟨l,r,rfl,hzl,hzr,q⟩ := q
 cases rs with
 |cons r1 rs=>
 cases rs with
 |cons r2 rs=>
 cases rs
 obtain⟨t1,o1,k1,v1,rfl,g1,c1,d1,rl1⟩ := r1.tup_ref
 obtain⟨t2,o2,k2,v2,rfl,g2,c2,d2,rl2⟩ := r2.tup_ref
 show wpAny _ _ (call (.type "zip") [.ref t1,.ref t2] []) _ _ _
 refine call_zip_T (prog := W.prog) (w := W.w) rfl (xs := v1.toArray) (ys := v2.toArray) ⟨_,G'.sim.frz _ _ g1,c1,_,d1⟩ ⟨_,G'.sim.frz _ _ g2,c2,_,d2⟩ fun h' z1 z2 z3 z4 z5 hk=>?_
 have G₁: Good W cx g' σ' {s' with heap := h'} := G'.grow (t := s'.toks) hk
 have ltS: ∀{c o},g' c=some o->c<s'.heap.objs.size := fun e=>Heap.lt_size (G'.sim.frz _ _ e)
 have l1 := ltS g1
 have l2 := ltS g2
 have D: ZA (s'.heap.objs.size+4) (s'.heap.objs.size+2) (s'.heap.objs.size+3) s'.heap.objs.size (s'.heap.objs.size+1) t1 t2 := by
  have out: ∀{t: Nat},t<s'.heap.objs.size->t∉[s'.heap.objs.size+4,s'.heap.objs.size+2,s'.heap.objs.size+3,s'.heap.objs.size,s'.heap.objs.size+1] := fun{t} ht hm=>by
   simp only[List.mem_cons,List.not_mem_nil,or_false]at hm
   rcases hm with e|e|e|e|e<;>omega
  exact⟨by simp,out l1,out l2⟩
 have FN: ∀ b,s'.heap.objs.size<=b->Free cx g' σ'.mu b := fun b hb=>G'.free (none_of_le hb)
 have hlen: small ((l.zip r).map fun p=>DV.tup [p.1,p.2]).length := by
  unfold small at hzl ⊢
  simp only[List.length_map,List.length_zip]
  omega
 refine wpAny_pyIter_zip z1 ?_
 refine comp_from C CA WO ht hsc hcl1 hcl2 (ifs := []) (B' := B') (fun cx' C' hk' CA' loc K m q=>hB cx' C' hk' CA' loc K m q) hlen (d := .none) (zip_iter D (fun _ e=>by cases e)) G₁ (fun b hb=>FN b ?_) ⟨z1,z2,⟨_,_,z3⟩,z4,z5,r1,r2⟩ trivial q fun g₂ m acc s₂ D Cc e₂ G₂ q FC hns=>?_
 ·simp only[List.mem_cons,List.not_mem_nil,or_false]at hb
  rcases hb with rfl|rfl|rfl|rfl|rfl<;>omega
 ·obtain⟨mm,hns⟩ := hns
  refine⟨mm,hns,fun h' hs'=>?_⟩
  exact⟨g₂,_,_,e.trans e₂,G₂.upd (t := s₂.toks) FC fun b o hb he=>(hs'.2 b hb).trans he,.ref D,q⟩
end
end
structure Tabs where
 gl: List (Str×DV)
 at_: List (Addr×List Str)
 me: List (Addr×List (Str×Addr))
 ini: List (Addr×Addr)
 kf: List Addr
def sameV: Value->Value->Bool
 |.builtin a,.builtin b=>a==b
 |.type a,.type b=>a==b
 |_,_=>false
theorem sameV_eq {a b: Value} (h: sameV a b=true): a=b := by
 unfold sameV at h
 split at h
 ·rw[beq_iff_eq.mp h]
 ·rw[beq_iff_eq.mp h]
 ·cases h
def isSN: Option (Option Value)->Bool
 |some none=>true
 |_=>false
theorem isSN_eq {x: Option (Option Value)} (h: isSN x=true): x=some none := by
 unfold isSN at h
 split at h
 ·rfl
 ·cases h
def isRef (a: Addr): Option (Option Value)->Bool
 |some (some (.ref b))=>Nat.beq a b
 |_=>false
theorem isRef_eq {a: Addr} {x: Option (Option Value)} (h: isRef a x=true): x=some (some (.ref a)) := by
 unfold isRef at h
 split at h
 ·rw[Nat.eq_of_beq_eq_true h]
 ·cases h
def isBu (a: String): Option (Option Value)->Bool
 |some (some (.builtin b))=>a==b
 |_=>false
theorem isBu_eq {a: String} {x: Option (Option Value)} (h: isBu a x=true): x=some (some (.builtin a)) := by
 unfold isBu at h
 split at h
 ·rw[beq_iff_eq.mp h]
 ·cases h
def gvOk (K: Frag) (x: Str): DV->Bool
 |.int i=>(match nsIn K mainGlobals x with|some (some (.int j _))=>decide (i=j)|_=>false)
 |.fn a=>isRef a (nsIn K mainGlobals x)
 |.cls a=>isRef a (nsIn K mainGlobals x)
 |.bi b=>isSN (nsIn K mainGlobals x)&&!(x==("__name__": Str))&&(match bootBuiltins x with|some v=>sameV v b.val|none=>false)
 |_=>false
def lkA {α: Type} (l: List (Addr×List α)) (a: Addr): List α := match l with
 |[]=>[]
 |(b,r)::t=>if Nat.beq b a then r else lkA t a
def lkO (l: List (Addr×Addr)) (a: Addr): Option Addr := match l with
 |[]=>none
 |(b,r)::t=>if Nat.beq b a then some r else lkO t a
def hasA (l: List Addr) (a: Addr): Bool := l.any fun b=>Nat.beq b a
def rdOf (l: List (Addr×List Nat)) (C: Addr) (x: Nat): Bool := hasA (lkA l C) x
def meOf (l: List (Addr×List (Nat×Addr))) (C: Addr) (x: Nat): Option Addr := lkO (lkA l C) x
def Tabs.tb (t: Tabs): Tb where
 gl := t.gl.map fun p=>(enc p.1,p.2)
 rd := rdOf (t.at_.map fun p=>(p.1,p.2.map enc))
 st := rdOf (t.at_.map fun p=>(p.1,p.2.map enc))
 me := meOf (t.me.map fun p=>(p.1,p.2.map fun q=>(enc q.1,q.2)))
 ini := lkO t.ini
 kf := hasA t.kf
def Tabs.ok (t: Tabs) (K: Frag): Bool :=
 (t.gl.all fun p=>okc p.1&&!(p.1==("__debug__": Str))&&gvOk K p.1 p.2)&&
 (t.at_.all fun p=>hasDictIn K p.1&&isBu "object.__setattr__" (findIn K (.ref p.1) "__setattr__")&&plainOver K p.1&&(p.2.all fun x=>okc x&&plainGet K p.1 x&&(match findIn K (.ref p.1) x with|some a=>noGet K a|none=>false)&&isSN (takerIn K p.1 x)))&&
 (t.me.all fun p=>p.2.all fun q=>okc q.1&&plainGet K p.1 q.1&&isRef q.2 (findIn K (.ref p.1) q.1)&&isFn K (.ref q.2)&&keepIn K (.ref q.2))&&
 (t.ini.all fun p=>makesIn K p.1&&isRef p.2 (findIn K (.ref p.1) "__init__")&&isFn K (.ref p.2)&&keepIn K (.ref p.1))&&
 (t.kf.all fun a=>keepIn K (.ref a))
theorem look_mem: ∀{l: List (Str×DV)} {x: Nat} {d: DV},look (l.map fun p=>(enc p.1,p.2)) x=some d->∃ p∈l,enc p.1=x/\p.2=d
 |[],_,_,h=>by cases h
 |p::r,x,d,h=>by
  simp only[List.map_cons,look]at h
  split at h
  ·rename_i q;cases h;exact⟨p,.head _,Nat.eq_of_beq_eq_true q,rfl⟩
  ·obtain⟨p',h1,h2⟩ := look_mem h;exact⟨p',.tail _ h1,h2⟩
theorem lkA_mem {α: Type}: ∀{l: List (Addr×List α)} {a: Addr} {x: α},x∈lkA l a->∃ p∈l,p.1=a/\x∈p.2
 |[],_,_,h=>by cases h
 |(b,r)::t,a,x,h=>by
  unfold lkA at h
  split at h
  ·rename_i q;exact⟨_,.head _,Nat.eq_of_beq_eq_true q,h⟩
  ·obtain⟨p,h1,h2⟩ := lkA_mem h;exact⟨p,.tail _ h1,h2⟩
theorem lkO_mem: ∀{l: List (Addr×Addr)} {a b: Addr},lkO l a=some b->(a,b)∈l
 |[],_,_,h=>by cases h
 |(c,r)::t,a,b,h=>by
  unfold lkO at h
  split at h
  ·rename_i q;cases h;rw[Nat.eq_of_beq_eq_true q];exact .head _
  ·exact .tail _ (lkO_mem h)
theorem hasA_mem {l: List Addr} {a: Addr} (h: hasA l a=true): a∈l := by
 obtain⟨b,hb,e⟩ := List.any_eq_true.mp h
 rw[<-Nat.eq_of_beq_eq_true e];exact hb
theorem tabs_ok {W: Wd} (WO: W.Ok) {t: Tabs} (h: t.ok W.K=true): TbOk W t.tb := by
 unfold Tabs.ok at h
 simp only[Bool.and_eq_true]at h
 obtain⟨⟨⟨⟨h1,h2⟩,h3⟩,h4⟩,h5⟩ := h
 have atts: ∀ C x,okc x=true->rdOf (t.at_.map fun p=>(p.1,p.2.map enc)) C (enc x)=true->∃ p∈t.at_,p.1=C/\x∈p.2 := fun C x okx hr=>by
  obtain⟨p,hp,e1,e2⟩ := lkA_mem (hasA_mem hr)
  obtain⟨q,hq,rfl⟩ := List.mem_map.mp hp
  obtain⟨y,hy,e⟩ := List.mem_map.mp e2
  have h2' := List.all_eq_true.mp h2 q hq
  simp only[Bool.and_eq_true]at h2'
  have h2'' := List.all_eq_true.mp h2'.2 y hy
  simp only[Bool.and_eq_true]at h2''
  exact⟨q,hq,e1,(enc_inj h2''.1.1.1 okx e)▸hy⟩
 refine⟨fun x d okx hl=>?_,fun C x okx hr=>?_,fun C x okx hr=>?_,fun C x f okx hr=>?_,fun C f hr=>?_,fun f hf=>List.all_eq_true.mp h5 f (hasA_mem hf)⟩
 ·obtain⟨p,hp,e1,rfl⟩ := look_mem hl
  have h1' := List.all_eq_true.mp h1 p hp
  simp only[Bool.and_eq_true,Bool.not_eq_true']at h1'
  obtain⟨⟨k1,k2⟩,k3⟩ := h1'
  obtain rfl := enc_inj k1 okx e1
  refine⟨k2,?_⟩
  generalize p.2=d at k3
  cases d<;>simp only[gvOk]at k3<;>first|(cases k3;done)|skip
  ·split at k3
   ·rename_i hn
    rw[of_decide_eq_true k3]
    exact⟨_,.int _ _,.inl (mg_of WO.kin WO.ng hn)⟩
   ·cases k3
  ·exact⟨_,.fn _,.inl (mg_of WO.kin WO.ng (isRef_eq k3))⟩
  ·exact⟨_,.cls _,.inl (mg_of WO.kin WO.ng (isRef_eq k3))⟩
  ·rw[Bool.and_eq_true,Bool.and_eq_true,Bool.not_eq_true']at k3
   obtain⟨⟨k3,k4⟩,k5⟩ := k3
   refine⟨_,.bi _,.inr ⟨mg_none_of WO.kin WO.ng (isSN_eq k3),?_⟩⟩
   rw[WO.bt _ (fun e=>by rw[e]at k4;simp at k4)]
   split at k5
   ·rename_i v hv;rw[hv,sameV_eq k5]
   ·cases k5
 ·obtain⟨p,hp,rfl,hx⟩ := atts C x okx hr
  have h2' := List.all_eq_true.mp h2 p hp
  simp only[Bool.and_eq_true]at h2'
  have h2'' := List.all_eq_true.mp h2'.2 x hx
  simp only[Bool.and_eq_true]at h2''
  refine⟨h2''.1.1.2,h2'.1.1.1,?_⟩
  have := h2''.1.2
  split at this
  ·rename_i a ha;exact⟨a,ha,this⟩
  ·cases this
 ·obtain⟨p,hp,rfl,hx⟩ := atts C x okx hr
  have h2' := List.all_eq_true.mp h2 p hp
  simp only[Bool.and_eq_true]at h2'
  have h2'' := List.all_eq_true.mp h2'.2 x hx
  simp only[Bool.and_eq_true]at h2''
  exact⟨isBu_eq h2'.1.1.2,h2'.1.2,isSN_eq h2''.2,h2'.1.1.1⟩
 ·obtain⟨p,hp,e1,e2⟩ := lkA_mem (lkO_mem hr)
  obtain⟨q,hq,rfl⟩ := List.mem_map.mp hp
  obtain⟨y,hy,e⟩ := List.mem_map.mp e2
  have h3' := List.all_eq_true.mp (List.all_eq_true.mp h3 q hq) y hy
  simp only[Bool.and_eq_true]at h3'
  obtain⟨⟨⟨⟨k1,k2⟩,k3⟩,k4⟩,k5⟩ := h3'
  simp only[Prod.mk.injEq]at e
  obtain rfl := enc_inj k1 okx e.1
  obtain rfl := e.2
  obtain rfl: q.1=C := e1
  exact⟨k2,isRef_eq k3,k4,k5⟩
 ·have h4' := List.all_eq_true.mp h4 _ (lkO_mem hr)
  simp only[Bool.and_eq_true]at h4'
  exact⟨h4'.1.1.1,isRef_eq h4'.1.1.2,h4'.1.2,h4'.2⟩
def fdAt (K: Frag) (f: Addr): Option FuncData := match K.lookup f with
 |some ⟨_,_,.func fd,_⟩=>some fd
 |_=>none
def noFree: List (Str×NameKind)->Bool
 |[]=>true
 |(_,.free)::_=>false
 |_::r=>noFree r
theorem noFree_of: ∀{l: List (Str×NameKind)},noFree l=true->∀ x∈l,x.2≠.free
 |[],_,_,h=>by cases h
 |(y,k)::r,h,x,hx=>by
  have hr: noFree r=true/\k≠.free := by cases k<;>simp_all [noFree]
  rcases List.mem_cons.mp hx with rfl|hx
  ·exact hr.2
  ·exact noFree_of hr.1 x hx
def fdOk (K: Frag) (fd: FuncData): Bool :=
 codeIn K fd.code fd.qualname&&fd.closure.isEmpty&&!fd.scope.isCoroutine&&!fd.scope.isGenerator&&isFun fd.scope.kind&&Nat.beq fd.globals mainGlobals&&Nat.beq fd.builtins builtinsNs&&
 okNames fd.scope.names&&distinct ((kinds fd.scope.names).map (·.1))&&noFree fd.scope.names
def parOk (fd: FuncData) (ns: List Str): Bool := ns.all fun x=>okc x&&(match fd.scope.names.lookup x with|some .local=>true|some .cell=>true|_=>false)
theorem fnK_of {W: Wd} {f: Addr} {fd: FuncData} {body: List Stmt} (hf: fdAt W.K f=some fd) (hb: fd.body=.stmts body) (h: fdOk W.K fd=true): FnK W f fd body := by
 unfold fdOk at h
 simp only[Bool.and_eq_true,Bool.not_eq_true']at h
 obtain⟨⟨⟨⟨⟨⟨⟨⟨⟨h1,h2⟩,h3⟩,h4⟩,h5⟩,h6⟩,h7⟩,h8⟩,h9⟩,h10⟩ := h
 refine⟨?_,hb,h1,List.isEmpty_iff.mp h2,h3,h4,?_,Nat.eq_of_beq_eq_true h6,Nat.eq_of_beq_eq_true h7,h8,h9,noFree_of h10⟩
 ·unfold fdAt at hf
  split at hf
  ·cases hf;exact⟨_,‹_›,rfl⟩
  ·cases hf
 ·cases hk: fd.scope.kind<;>rw[hk]at h5<;>first|rfl|cases h5
theorem binds_peek {K: Frag} {s: Shared} {fd: FuncData} {args: Args} {binds: List (Str×Value)} (X: K.In s.heap) (e: ∀ S,peek K S (bindArgs fd args)=some binds): BindsTo s fd args binds := fun M A E Q q=>Looks.of_peek (M := M) X (e _) A Q E s (fun _ _ e=>e) q
def pS (x: String) (d: DV): Str×DV := (Str.ofString x,d)
def tabs: Tabs where
 gl := [pS "EMPTY_ALL" (.int 63),pS "Frag" (.cls 137),pS "INST_ALT" (.int 0),pS "INST_CAPTURE" (.int 2),pS "INST_EMPTY" (.int 3),pS "INST_FAIL" (.int 6),pS "INST_MATCH" (.int 4),pS "INST_NOP" (.int 5),pS "INST_RANGE" (.int 1),pS "Inst" (.cls 65),pS "Maker" (.cls 200),pS "Program" (.cls 86),pS "TooLarge" (.cls 45),pS "_law_digits" (.fn 325),pS "_law_first" (.fn 339),pS "_law_fits" (.fn 332),pS "_law_found" (.fn 416),pS "_law_group" (.fn 356),pS "_law_joined" (.fn 361),pS "_law_kept" (.fn 344),pS "_law_loops" (.fn 366),pS "_law_made" (.fn 390),pS "_law_mark" (.fn 349),pS "_law_meant" (.fn 371),pS "_law_needs" (.fn 376),pS "_law_none" (.fn 318),pS "_law_rows" (.fn 395),pS "_law_shape" (.fn 383),pS "_law_tried" (.fn 402),pS "_law_ways" (.fn 409),pS "bytes" (.bi .bytes),pS "ends_one" (.fn 211),pS "frag_alt" (.fn 275),pS "frag_capture" (.fn 311),pS "frag_cat" (.fn 268),pS "frag_choice" (.fn 282),pS "frag_empty" (.fn 254),pS "frag_is_none" (.fn 225),pS "frag_is_nop" (.fn 239),pS "frag_match" (.fn 261),pS "frag_none" (.fn 218),pS "frag_nop" (.fn 232),pS "frag_plus" (.fn 289),pS "frag_quest" (.fn 296),pS "frag_range" (.fn 247),pS "frag_star" (.fn 303),pS "inst_fault" (.fn 104),pS "int" (.bi .int),pS "len" (.bi .len),pS "min" (.bi .min),pS "program_faults" (.fn 118),pS "program_heads" (.fn 97),pS "program_ways_fault" (.fn 111),pS "range" (.bi .range),pS "sorted" (.bi .sorted),pS "tuple" (.bi .tuple)]
 at_ := [(65,["op","out","arg","low","high","is_folded","is_last"]),(86,["insts","start","start_loose","is_reversed","is_anchored_start","is_anchored_end","is_flat","heads","prefix","is_prefix_folded","byte_cuts"]),(137,["begin","ends","is_nullable"]),(200,["most","insts"])]
 me := [(200,[("need",162),("new",169),("way",176),("lead",183),("patch",190),("joined",197)])]
 ini := [(65,62),(86,83),(137,134),(200,155)]
 kf := [97,104,111,118,211,218,225,232,239,247,254,261,268,275,282,289,296,303,311,318,325,332,339,344,349,356,361,366,371,376,383,390,395,402,409,416]
def T0: Tb where
 gl := [((5950925298516583888: Nat),DV.int 63),((224901380: Nat),DV.cls 137),((50886942273647366: Nat),DV.int 0),((11630288511819499376935229: Nat),DV.int 2),((896894582063802735542: Nat),DV.int 3),((5949141005194406978: Nat),DV.int 6),((727420221652351404308: Nat),DV.int 4),((48523362284342930: Nat),DV.int 5),((698045809012978434836: Nat),DV.int 1),((253107362: Nat),DV.cls 65),((32066903541: Nat),DV.cls 200),((510443033226591: Nat),DV.cls 86),((61119060771561253: Nat),DV.cls 45),((149197441734739796308497: Nat),DV.fn 325),((1166390519185675387188: Nat),DV.fn 339),((8965653572193319233: Nat),DV.fn 332),((1007728412735072043432: Nat),DV.fn 416),((1126972028334985087545: Nat),DV.fn 356),((129907392140480370777990: Nat),DV.fn 361),((9039943730525302719: Nat),DV.fn 344),((1156266174420931299129: Nat),DV.fn 366),((7882497530926760610: Nat),DV.fn 390),((8350937765289675702: Nat),DV.fn 349),((1165996963648393049889: Nat),DV.fn 371),((1155339948352359783195: Nat),DV.fn 376),((7888506755506000443: Nat),DV.fn 318),((8967465052419388374: Nat),DV.fn 395),((1017762394540301816733: Nat),DV.fn 383),((1007031116914193801124: Nat),DV.fn 402),((8968589649808350543: Nat),DV.fn 409),((32343979308: Nat),DV.bi Bi.bytes),((61151211047737299: Nat),DV.fn 211),((70058503889244232: Nat),DV.fn 275),((16939335049451495703478015: Nat),DV.fn 311),((70007884325057599: Nat),DV.fn 268),((131163363601721683534069: Nat),DV.fn 282),((1215928686834193402168: Nat),DV.fn 254),((16934170678452269693567350: Nat),DV.fn 225),((145319948547417671358994: Nat),DV.fn 239),((1046454326422742070934: Nat),DV.fn 261),((7888506755471654200: Nat),DV.fn 218),((67694923899939796: Nat),DV.fn 232),((8966262221512968652: Nat),DV.fn 289),((1166382846802946178619: Nat),DV.fn 296),((1017079913783369101462: Nat),DV.fn 247),((8877723566800265026: Nat),DV.fn 303),((1165855461747238037059: Nat),DV.fn 104),((1961422: Nat),DV.bi Bi.int),((1860418: Nat),DV.bi Bi.len),((1860935: Nat),DV.bi Bi.min),((320281018651823988000424012532: Nat),DV.fn 118),((2480150453382738628956535913: Nat),DV.fn 97),((89405120735668294995197066550787540520: Nat),DV.fn 111),((28471249426: Nat),DV.bi Bi.range),((3636527441303: Nat),DV.bi Bi.sorted),((28482018735: Nat),DV.bi Bi.tuple)]
 rd := rdOf [(65,[14689,1962331,1745597,2011477,227146788,7806419509700087986,543339266573686]),(86,[32376161590,32648492339,131322104223801899105978,129907780876443790661926,693329460861025571136594217707607069,35998791720882497672107593410212,542699284915561,32341513866,4352065896212,4640661148044596755148102409466918,8965708764269794395]),(137,[30967732746,250711086,131251851267392784618517]),(200,[253107527,32376161590])]
 st := rdOf [(65,[14689,1962331,1745597,2011477,227146788,7806419509700087986,543339266573686]),(86,[32376161590,32648492339,131322104223801899105978,129907780876443790661926,693329460861025571136594217707607069,35998791720882497672107593410212,542699284915561,32341513866,4352065896212,4640661148044596755148102409466918,8965708764269794395]),(137,[30967732746,250711086,131251851267392784618517]),(200,[253107527,32376161590])]
 me := meOf [(200,[(218526240,162),(2010189,169),(2042964,176),(218459674,183),(29293531157,190),(3636514411391,197)])]
 ini := lkO [(65,62),(86,83),(137,134),(200,155)]
 kf := hasA [97,104,111,118,211,218,225,232,239,247,254,261,268,275,282,289,296,303,311,318,325,332,339,344,349,356,361,366,371,376,383,390,395,402,409,416]
theorem tabs_T0: tabs.tb=T0 := by kernel_rfl
theorem tabs_K (P: Params): tabs.ok (hd.heap_39 P)=true := by kernel_rfl
def excFB (K: Frag): Bool := isBu "object.__setattr__" (findIn K (.ref 45) "__setattr__")&&isBu "BaseException.__getattribute__" (findIn K (.ref 45) "__getattribute__")&&isSN (findIn K (.ref 45) "__getattr__")&&isSN (findIn K (.ref 45) "told")&&isRef 29 (findIn K (.ref 45) "__init__")&&keepIn K (.ref 45)
theorem exc_K (P: Params): excFB (hd.heap_39 P)=true := by kernel_rfl
theorem excF_K (P: Params): ExcF (hd.heap_39 P) 45 32 29 := by
 have h := exc_K P
 unfold excFB at h
 simp only[Bool.and_eq_true]at h
 obtain⟨⟨⟨⟨⟨h1,h2⟩,h3⟩,h4⟩,h5⟩,h6⟩ := h
 refine⟨?_,⟨_,rfl,rfl,rfl⟩,isBu_eq h1,isBu_eq h2,isSN_eq h3,isSN_eq h4,isRef_eq h5,by kernel_rfl,h6⟩
 exact⟨_,_,_,_,_,_,_,_,_,_,_,_,_,rfl⟩
section
structure FnB (W: Wd) (f: Addr) (ns: List Str) (es: List Nat) (k: Nat) (dvs: List Value) (c: CSs): Prop where
 fn: ∃ fd body,FnK W f fd body/\cSs 60 (kinds fd.scope.names) body=c/\parOk fd ns=true/\∀(s: Shared) (vs: List Value),W.K.In s.heap->vs.length=k->BindsTo s fd ⟨vs,[]⟩ (ns.zip (vs++dvs))
 es: ns.map enc=es
 nd: ns.Nodup
 len: ns.length=k+dvs.length
section
variable {W: Wd} {too rb fI: Addr} {fd₀: FuncData} {T: Tb} {n: Nat} {m: Mt}
theorem RepL.len {g: Hp} {ds: List DV} {vs: List Value} (r: RepL g ds vs): ds.length=vs.length := r.length
theorem spec_of (B: Base W too rb fI fd₀ T) (Z: ∀ n,ZipOk W too n) {f: Addr} {ns: List Str} {es: List Nat} {k: Nat} {dvs: List Value} {c: CSs} (FB: FnB W f ns es k dvs c) {dfl: List DV} (hd: RepL W.h₀.get? dfl dvs) {ds: List DV} (hk: ds.length=k) {Q X: DV->Mt->Prop}
  (h: wpSs W too T n c (fun r σ=>∃ m' d',Fz σ.mu (r.getD .none) m' d'/\Q d' m') (fun d σ=>X d σ.mu) ⟨es.zip (ds++dfl),m⟩): CallOk W too (n+1) f ds m Q X := by
 obtain⟨⟨fd,body,FK,hc,hp,hb⟩,he,nd,hl⟩ := FB
 subst he
 have hin: ∀ x∈ns,okc x=true/\∃ k,fd.scope.names.lookup x=some k/\(k=.local\/k=.cell) := fun x hx=>by
  have := List.all_eq_true.mp hp x hx
  rw[Bool.and_eq_true]at this
  refine⟨this.1,?_⟩
  have h2 := this.2
  split at h2
  ·exact⟨_,‹_›,.inl rfl⟩
  ·exact⟨_,‹_›,.inr rfl⟩
  ·cases h2
 refine call_of B.wo FK (ns := ns) (dfl := dfl) (dvs := dvs) (by rw[hl,hk,hd.length]) hin nd hd (fun s vs X hv=>hb s vs X (hv.trans hk)) fun cx C SO CA hkd=>?_
 exact wp_sound B (Z n) C SO CA (k := 60) (c := c) (by rw[hkd];exact hc) h
end
end
@[irreducible] def c_loops_t1: CSs := (.cons (.expr (.meth (.var 3636518804617) 3638987581326 (.cons (.ite (.var 566630696248834) (.bin .add (.lst (.cons (.tup (.cons (.var 1695162) (.cons (.var 253056312) .nil))) .nil)) (.var 220890551)) (.bin .add (.var 220890551) (.lst (.cons (.tup (.cons (.var 1695162) (.cons (.var 253056312) .nil))) .nil)))) .nil))) .nil)
@[irreducible] def c_meant_t1: CSs := (.cons (.ife (.var 566630696248834) (.cons (.ret (.comp (.call (.glob 1166390519185675387188) (.cons (.bin .add (.lst (.cons (.tup (.cons (.var 15191) (.cons (.call (.glob 7888506755506000443) .nil) .nil))) .nil)) (.sub (.var 28481783181) (.var 15191))) .nil)) (.one 15191) (.var 4172336439038) .nil)) .nil) .nil) (.cons (.ret (.comp (.call (.glob 1166390519185675387188) (.cons (.bin .add (.sub (.var 28481783181) (.var 15191)) (.lst (.cons (.tup (.cons (.var 15191) (.cons (.call (.glob 7888506755506000443) .nil) .nil))) .nil))) .nil)) (.one 15191) (.var 4172336439038) .nil)) .nil))
@[irreducible] def c_cap_t4: CSs := (.cons (.expr (.meth (.var 32066903573) 29293531157 (.cons (.attr (.var 224901412) 250711086) (.cons (.var 3638995965936) .nil)))) (.cons (.ret (.call (.glob 224901380) (.cons (.var 28181297528) (.cons (.call (.glob 61151211047737299) (.cons (.bin .mul (.var 3638995965936) (.cst (.int 2))) .nil)) (.cons (.attr (.var 224901412) 131251851267392784618517) .nil))))) .nil))
@[irreducible] def c_cap_t3: CSs := (.cons (.asg (.attr (.sub (.attr (.var 32066903573) 32376161590) (.var 28181297528)) 1962331) (.attr (.var 224901412) 30967732746)) c_cap_t4)
@[irreducible] def c_cap_t2: CSs := (.cons (.asg (.attr (.sub (.attr (.var 32066903573) 32376161590) (.var 3638995965936)) 1745597) (.ite (.var 129907780876443790661926) (.bin .mul (.cst (.int 2)) (.var 31547473586)) (.bin .add (.bin .mul (.cst (.int 2)) (.var 31547473586)) (.cst (.int 1))))) c_cap_t3)
@[irreducible] def c_cap_t1: CSs := (.cons (.asg (.attr (.sub (.attr (.var 32066903573) 32376161590) (.var 28181297528)) 1745597) (.ite (.var 129907780876443790661926) (.bin .add (.bin .mul (.cst (.int 2)) (.var 31547473586)) (.cst (.int 1))) (.bin .mul (.cst (.int 2)) (.var 31547473586)))) c_cap_t2)
@[irreducible] def c_tried_t2: CSs := (.cons (.ife (.cmp (.call (.glob 1860418) (.cons (.attr (.var 32066903573) 32376161590) .nil)) (.one .ne (.bin .add (.call (.glob 1860418) (.cons (.var 28181297528) .nil)) (.var 32341580436)))) (.cons (.ret (.cst .none)) .nil) .nil) (.cons (.ret (.var 220655771)) .nil))
@[irreducible] def c_tried_t1: CSs := (.cons (.ife (.cmp (.isN false (.var 218644023)) (.one .ne (.cmp (.var 32341580436) (.one .gt (.var 238014145))))) (.cons (.ret (.cst .none)) .nil) .nil) (.cons (.ife (.isN false (.var 218644023)) (.cons (.ife (.orE (.cmp (.var 218644023) (.one .ne (.bin .add (.call (.glob 1860418) (.cons (.var 28181297528) .nil)) (.var 238014145)))) (.cmp (.call (.glob 8967465052419388374) (.cons (.attr (.var 32066903573) 32376161590) .nil)) (.one .ne (.var 28181297528)))) (.cons (.ret (.cst .none)) .nil) .nil) (.cons (.asg (.attr (.var 32066903573) 253107527) (.cst (.int 1000))) (.cons (.asg (.nm (.one 220655771)) (.call (.glob 7882497530926760610) (.cons (.var 32066903573) (.cons (.var 32066789281) (.cons (.var 32376143279) (.cons (.var 2011483) (.cons (.var 129907780876443790661926) .nil))))))) .nil))) .nil) c_tried_t2))
@[irreducible] def c_ways_t1: CSs := (.cons (.ife (.cmp (.attr (.var 253107394) 14689) (.one .eq (.glob 11630288511819499376935229))) (.cons (.ret (.lst (.cons (.tup (.cons (.attr (.var 253107394) 1962331) (.cons (.var 15191) (.cons (.call (.glob 9039943730525302719) (.cons (.var 253056312) (.cons (.call (.glob 8350937765289675702) (.cons (.bin .sub (.attr (.var 253107394) 1745597) (.cst (.int 2))) (.cons (.var 15191) .nil))) .nil))) .nil)))) .nil))) .nil) .nil) (.cons (.ife (.andE (.cmp (.attr (.var 253107394) 14689) (.one .eq (.glob 698045809012978434836))) (.andE (.cmp (.var 15191) (.one .lt (.call (.glob 1860418) (.cons (.var 253189449) .nil)))) (.call (.glob 8965653572193319233) (.cons (.tup (.cons (.attr (.var 253107394) 2011477) (.cons (.attr (.var 253107394) 227146788) (.cons (.attr (.var 253107394) 7806419509700087986) .nil)))) (.cons (.sub (.var 253189449) (.var 15191)) .nil))))) (.cons (.ret (.lst (.cons (.tup (.cons (.attr (.var 253107394) 1962331) (.cons (.bin .add (.var 15191) (.cst (.int 1))) (.cons (.var 253056312) .nil)))) .nil))) .nil) .nil) (.cons (.ret (.lst .nil)) .nil)))
@[irreducible] def c_found_t1: CSs := (.cons (.expr (.meth (.var 252889903) 3638987581326 (.cons (.rev (.call (.glob 8968589649808350543) (.cons (.sub (.var 32376161590) (.var 4136611441551)) (.cons (.var 15191) (.cons (.var 253056312) (.cons (.var 253189449) (.cons (.var 32341698207) .nil))))))) .nil))) .nil)
@[irreducible] def c_prog_t1: CSs := (.cons (.asg (.attr (.var 222936110) 32341513866) (.lst .nil)) (.cons (.asg (.attr (.var 222936110) 4352065896212) (.cst (.bytes #[]))) (.cons (.asg (.attr (.var 222936110) 4640661148044596755148102409466918) (.cst (.bool false))) (.cons (.asg (.attr (.var 222936110) 8965708764269794395) (.cst .none)) .nil))))
@[irreducible] def c_law_t6: CSs := (.cons (.asg (.swap [28209471649,1712705]) (.tup (.cons (.call (.glob 1007728412735072043432) (.cons (.attr (.var 32066903573) 32376161590) (.cons (.attr (.var 28482000420) 30967732746) (.cons (.var 253189449) (.cons (.var 32341698207) .nil))))) (.cons (.sub (.sub (.sub (.var 244219938) (.cst (.int 0))) (.cst (.int 2))) (.cst (.int 0))) .nil)))) (.cons (.ife (.sub (.sub (.var 244219938) (.cst (.int 0))) (.cst (.int 3))) (.cons (.ret (.cmp (.var 28209471649) (.one .eq (.var 1712705)))) .nil) .nil) (.cons (.ret (.cmp (.call (.glob 3636527441303) (.cons (.comp (.var 1695162) (.tup [1695162,253056312]) (.var 28209471649) .nil) .nil)) (.one .eq (.call (.glob 3636527441303) (.cons (.comp (.var 1695162) (.tup [1695162,253056312]) (.var 1712705) .nil) .nil))))) .nil)))
@[irreducible] def c_law_t5: CSs := (.cons (.asg (.attr (.var 32066903573) 253107527) (.cst (.int 1000))) (.cons (.asg (.nm (.one 28482000420)) (.call (.glob 70007884325057599) (.cons (.var 32066903573) (.cons (.sub (.sub (.var 244219938) (.cst (.int 0))) (.cst (.int 0))) (.cons (.call (.glob 1046454326422742070934) (.cons (.var 32066903573) (.cons (.cst (.int 0)) .nil))) .nil))))) (.cons (.asg (.nm (.one 225134396)) (.call (.glob 510443033226591) .nil)) (.cons (.asg (.attr3 (.var 225134396) 32376161590 (.var 225134396) 32648492339 (.var 225134396) 131322104223801899105978) (.tup (.cons (.attr (.var 32066903573) 32376161590) (.cons (.attr (.var 28482000420) 30967732746) (.cons (.attr (.var 28482000420) 30967732746) .nil))))) (.cons (.ife (.cmp (.call (.glob 320281018651823988000424012532) (.cons (.var 225134396) .nil)) (.one .ne (.lst .nil))) (.cons (.ret (.cst (.bool false))) .nil) .nil) c_law_t6)))))
@[irreducible] def c_law_b4: CSs := (.cons (.expr (.meth (.var 244219938) 3638987513726 (.cons (.tup (.cons (.var 220655771) (.cons (.var 28490354198) (.cons (.call (.glob 1165996963648393049889) (.cons (.var 32066789281) (.cons (.var 4172355774465) (.cons (.var 2011483) (.cons (.var 253189449) (.cons (.var 32341698207) .nil)))))) (.cons (.var 510831270252895) .nil))))) .nil))) .nil)
@[irreducible] def c_law_b3: CSs := (.cons (.asg (.nm (.one 510831270252895)) (.andE (.cmp (.comp (.var 1711813) (.one 1711813) (.var 30959396126) (.cons (.notE (.sub (.var 1711813) (.cst (.int 3)))) .nil)) (.one .eq (.lst .nil))) (.notE (.andE (.cmp (.var 32066789281) (.one .inn (.tup (.cons (.cst (.str 248515262)) (.cons (.cst (.str 250993736)) .nil))))) (.sub (.sub (.var 4172364345482) (.cst (.int 0))) (.cst (.int 1))))))) c_law_b4)
@[irreducible] def c_law_b2: CSs := (.cons (.asg (.nm (.one 220655771)) (.call (.glob 1007031116914193801124) (.cons (.var 32066903573) (.cons (.var 238014145) (.cons (.call (.glob 1155339948352359783195) (.cons (.var 32066789281) (.cons (.var 4172364345482) .nil))) (.cons (.var 32066789281) (.cons (.var 32376143279) (.cons (.var 2011483) (.cons (.cmp (.var 474219854675971) (.one .eq (.cst (.int 1)))) .nil))))))))) (.cons (.asg (.nm (.one 28490354198)) (.call (.glob 1017762394540301816733) (.cons (.var 32066789281) (.cons (.var 4172364345482) .nil)))) (.cons (.ife (.orE (.isN true (.var 220655771)) (.cmp (.tup (.cons (.cmp (.attr (.var 220655771) 30967732746) (.one .eq (.cst (.int 0)))) (.cons (.attr (.var 220655771) 131251851267392784618517) .nil))) (.one .ne (.var 28490354198)))) (.cons (.ret (.cst (.bool false))) .nil) .nil) c_law_b3)))
@[irreducible] def c_law_b1: CSs := (.cons (.asg (.swap [30959396126,244219938]) (.tup (.cons (.slc (.var 244219938) (.bin .sub (.call (.glob 1860418) (.cons (.var 244219938) .nil)) (.var 263755961)) (.cst .none)) (.cons (.slc (.var 244219938) (.cst .none) (.bin .sub (.call (.glob 1860418) (.cons (.var 244219938) .nil)) (.var 263755961))) .nil)))) (.cons (.asg (.nm (.one 4172364345482)) (.comp (.sub (.var 1711813) (.cst (.int 1))) (.one 1711813) (.var 30959396126) .nil)) (.cons (.asg (.swap [32376143279,4172355774465]) (.tup (.cons (.comp (.sub (.var 1711813) (.cst (.int 0))) (.one 1711813) (.var 30959396126) .nil) (.cons (.comp (.sub (.var 1711813) (.cst (.int 2))) (.one 1711813) (.var 30959396126) .nil) .nil)))) c_law_b2)))
@[irreducible] def c_law_go: CSs := (.cons (.asg (.nm (.one 263755961)) (.meth (.var 129906622853851102991730) 1960259 (.cons (.var 32066789281) (.cons (.cst (.int 0)) .nil)))) (.cons (.ife (.cmp (.var 263755961) (.one .gt (.call (.glob 1860418) (.cons (.var 244219938) .nil)))) (.cons (.asg (.nm (.tup [32066789281,263755961])) (.tup (.cons (.cst (.str 28471249426)) (.cons (.cst (.int 0)) .nil)))) .nil) .nil) c_law_b1))
@[irreducible] def c_law_b: CSs := (.cons (.asg (.nm (.tup [32066789281,238014145,2011483])) (.ite (.cmp (.var 4175940780565) (.one .ne (.lst .nil))) (.meth (.var 4175940780565) 1894994 (.cons (.cst (.int 0)) .nil)) (.tup (.cons (.cst (.str 1959739)) (.cons (.cst (.int 0)) (.cons (.tup (.cons (.cst (.bool false)) (.cons (.sub (.var 1156415915808219961899) (.cst (.int 0))) (.cons (.tup (.cons (.cst (.int 0)) (.cons (.cst (.int 1)) .nil))) (.cons (.cst (.int 1)) .nil))))) .nil)))))) c_law_go)
@[irreducible] def c_law_t4: CSs := (.cons (.whl (.orE (.cmp (.var 4175940780565) (.one .ne (.lst .nil))) (.cmp (.call (.glob 1860418) (.cons (.var 244219938) .nil)) (.one .gt (.cst (.int 1))))) c_law_b) c_law_t5)
@[irreducible] def c_law_f: CSs := (.cons (.asg (.nm (.tup [218676522,248645936,263955652,238014145,31547473586,250976694])) (.call (.glob 149197441734739796308497) (.cons (.var 235816228) (.cons (.lst (.cons (.cst (.int 16)) (.cons (.cst (.int 7)) (.cons (.cst (.int 2)) (.cons (.cst (.int 4)) (.cons (.cst (.int 2)) (.cons (.cst (.int 10)) .nil))))))) .nil)))) (.cons (.asg (.nm (.one 32376094778)) (.sub (.lst (.cons (.tup (.cons (.bin .mul (.cst (.int 2)) (.var 31547473586)) (.cons (.bin .add (.bin .mul (.cst (.int 2)) (.var 31547473586)) (.cst (.int 1))) .nil))) (.cons (.tup (.cons (.bin .add (.bin .mul (.cst (.int 2)) (.var 31547473586)) (.cst (.int 1))) (.cons (.bin .mul (.cst (.int 2)) (.var 31547473586)) .nil))) .nil))) (.var 474219854675971))) (.cons (.asg (.nm (.one 2011483)) (.tup (.cons (.cmp (.var 263955652) (.one .eq (.cst (.int 1)))) (.cons (.sub (.var 1156415915808219961899) (.var 248645936)) (.cons (.var 32376094778) (.cons (.sub (.var 1007032309778334464532) (.var 250976694)) .nil)))))) (.cons (.expr (.meth (.var 4175940780565) 3638987513726 (.cons (.tup (.cons (.sub (.var 149177348187315714245916) (.var 218676522)) (.cons (.ite (.cmp (.var 238014145) (.one .eq (.cst (.int 3)))) (.cst (.int 1000)) (.var 238014145)) (.cons (.var 2011483) .nil)))) .nil))) .nil))))
@[irreducible] def c_law_t3: CSs := (.cons (.asg (.swap [32066903573,244219938,4175940780565]) (.tup (.cons (.call (.glob 32066903541) (.cons (.cst (.int 1)) .nil)) (.cons (.lst .nil) (.cons (.lst .nil) .nil))))) (.cons (.forS (.one 235816228) (.slc (.var 32358870424) (.cst (.int 2)) (.cst .none)) c_law_f) c_law_t4))
@[irreducible] def c_law_t2: CSs := (.cons (.asg (.nm (.tup [474219854675971,3783545516296])) (.call (.glob 149197441734739796308497) (.cons (.sub (.var 32358870424) (.cst (.int 0))) (.cons (.lst (.cons (.cst (.int 2)) (.cons (.cst (.int 5)) .nil))) .nil)))) (.cons (.asg (.nm (.one 253189449)) (.call (.glob 32343979308) (.cons (.comp (.sub (.var 149197142690429954922783) (.var 32629270550)) (.one 32629270550) (.call (.glob 149197441734739796308497) (.cons (.bin .fdiv (.sub (.var 32358870424) (.cst (.int 0))) (.cst (.int 10))) (.cons (.bin .mul (.lst (.cons (.cst (.int 6)) .nil)) (.var 3783545516296)) .nil))) .nil) .nil))) (.cons (.asg (.nm (.one 32341698207)) (.call (.glob 149197441734739796308497) (.cons (.sub (.var 32358870424) (.cst (.int 1))) (.cons (.bin .mul (.lst (.cons (.cst (.int 64)) .nil)) (.cst (.int 5))) .nil)))) c_law_t3)))
@[irreducible] def c_law_t1: CSs := (.cons (.asg (.nm (.one 32358870424)) (.comp (.bin .mod (.call (.glob 1961422) (.cons (.var 235816228) .nil)) (.bin .pow (.cst (.int 10)) (.cst (.int 12)))) (.one 235816228) (.slc (.var 4211118804251) (.cst .none) (.cst (.int 12))) .nil)) (.cons (.asg (.nm (.one 32358870424)) (.bin .add (.var 32358870424) (.slc (.var 9041727382494137289) (.call (.glob 1860418) (.cons (.var 32358870424) .nil)) (.cst .none)))) c_law_t2))
def c_RecoreError_init: CSs := (.cons (.asg (.attr (.var 222936110) 218644023) (.var 218644023)) .nil)
def c_Inst_init: CSs := (.cons (.asg (.attr (.var 222936110) 14689) (.var 14689)) (.cons (.asg (.attr (.var 222936110) 1962331) (.var 1962331)) (.cons (.asg (.attr (.var 222936110) 1745597) (.var 1745597)) (.cons (.asg (.attr (.var 222936110) 2011477) (.var 2011477)) (.cons (.asg (.attr (.var 222936110) 227146788) (.var 227146788)) (.cons (.asg (.attr (.var 222936110) 7806419509700087986) (.var 7806419509700087986)) (.cons (.asg (.attr (.var 222936110) 543339266573686) (.cst (.bool false))) .nil)))))))
def c_Program_init: CSs := (.cons (.asg (.attr (.var 222936110) 32376161590) (.lst (.cons (.call (.glob 253107362) (.cons (.glob 5949141005194406978) .nil)) .nil))) (.cons (.asg (.attr (.var 222936110) 32648492339) (.cst (.int 0))) (.cons (.asg (.attr (.var 222936110) 131322104223801899105978) (.cst (.int 0))) (.cons (.asg (.attr (.var 222936110) 129907780876443790661926) (.cst (.bool false))) (.cons (.asg (.attr (.var 222936110) 693329460861025571136594217707607069) (.cst (.bool false))) (.cons (.asg (.attr (.var 222936110) 35998791720882497672107593410212) (.cst (.bool false))) (.cons (.asg (.attr (.var 222936110) 542699284915561) (.cst (.bool false))) c_prog_t1)))))))
def c_program_heads: CSs := (.cons (.asg (.nm (.one 28209471649)) (.lst (.cons (.cst (.int 0)) .nil))) (.cons (.forS (.one 4136611441551) (.call (.glob 28471249426) (.cons (.bin .sub (.call (.glob 1860418) (.cons (.attr (.var 225134396) 32376161590) .nil)) (.cst (.int 1))) .nil)) (.cons (.ife (.attr (.sub (.attr (.var 225134396) 32376161590) (.var 4136611441551)) 543339266573686) (.cons (.expr (.meth (.var 28209471649) 3638987513726 (.cons (.bin .add (.var 4136611441551) (.cst (.int 1))) .nil))) .nil) .nil) .nil)) (.cons (.ret (.var 28209471649)) .nil)))
def c_inst_fault: CSs := (.cons (.ife (.andE (.cmp (.attr (.var 253107394) 14689) (.one .eq (.glob 698045809012978434836))) (.notE (.cmp (.cst (.int 0)) (.cons .le (.attr (.var 253107394) 2011477) (.cons .le (.attr (.var 253107394) 227146788) (.one .le (.cst (.int 255)))))))) (.cons (.ret (.cst (.str 10066810740840042778421732090246202300733))) .nil) .nil) (.cons (.ife (.andE (.cmp (.attr (.var 253107394) 14689) (.one .eq (.glob 11630288511819499376935229))) (.cmp (.attr (.var 253107394) 1745597) (.one .lt (.cst (.int 2))))) (.cons (.ret (.cst (.str 669948021656738298881476131437297008))) .nil) .nil) (.cons (.ife (.andE (.cmp (.attr (.var 253107394) 14689) (.one .eq (.glob 896894582063802735542))) (.orE (.cmp (.attr (.var 253107394) 1745597) (.one .eq (.cst (.int 0)))) (.cmp (.bin .band (.attr (.var 253107394) 1745597) (.glob 5950925298516583888)) (.one .ne (.attr (.var 253107394) 1745597))))) (.cons (.ret (.cst (.str 3520519398056387884255916018911438404070515456640361134999536078892057))) .nil) .nil) (.cons (.ife (.andE (.cmp (.attr (.var 253107394) 14689) (.one .eq (.glob 727420221652351404308))) (.cmp (.attr (.var 253107394) 1745597) (.one .lt (.cst (.int 0))))) (.cons (.ret (.cst (.str 281801533636894515556852462615))) .nil) .nil) (.cons (.ret (.cst .none)) .nil)))))
def c_program_ways_fault: CSs := (.cons (.asg (.nm (.one 253107394)) (.sub (.attr (.var 225134396) 32376161590) (.var 4136611441551))) (.cons (.ife (.cmp (.attr (.var 253107394) 14689) (.one .inn (.tup (.cons (.glob 727420221652351404308) (.cons (.glob 5949141005194406978) .nil))))) (.cons (.ret (.cst .none)) .nil) .nil) (.cons (.forS (.one 2042964) (.ite (.cmp (.attr (.var 253107394) 14689) (.one .eq (.glob 50886942273647366))) (.lst (.cons (.attr (.var 253107394) 1962331) (.cons (.attr (.var 253107394) 1745597) .nil))) (.lst (.cons (.attr (.var 253107394) 1962331) .nil))) (.cons (.ife (.notE (.cmp (.cst (.int 0)) (.cons .le (.var 2042964) (.one .lt (.call (.glob 1860418) (.cons (.attr (.var 225134396) 32376161590) .nil)))))) (.cons (.ret (.cst (.str 831268812013831688987650406176980637254135795199950018439))) .nil) .nil) (.cons (.ife (.andE (.attr (.var 225134396) 542699284915561) (.cmp (.var 2042964) (.one .nin (.var 32341513866)))) (.cons (.ret (.cst (.str 1488466607305098176764717288870929640542289))) .nil) .nil) .nil))) (.cons (.ret (.cst .none)) .nil))))
def c_program_faults: CSs := (.cons (.asg (.nm (.one 28209471649)) (.lst .nil)) (.cons (.ife (.orE (.cmp (.attr (.var 225134396) 32376161590) (.one .eq (.lst .nil))) (.cmp (.attr (.sub (.attr (.var 225134396) 32376161590) (.cst (.int 0))) 14689) (.one .ne (.glob 5949141005194406978)))) (.cons (.ret (.lst (.cons (.cst (.str 16297481443411017325912024699275285678802941088)) .nil))) .nil) .nil) (.cons (.asg (.nm (.one 218644023)) (.call (.glob 2480150453382738628956535913) (.cons (.var 225134396) .nil))) (.cons (.asg (.nm (.one 32341513866)) (.dct [])) (.cons (.forS (.one 4136611441551) (.var 218644023) (.cons (.asg (.sub (.var 32341513866) (.var 4136611441551)) (.cst (.bool true))) .nil)) (.cons (.forS (.one 4136611441551) (.call (.glob 28471249426) (.cons (.call (.glob 1860418) (.cons (.attr (.var 225134396) 32376161590) .nil)) .nil)) (.cons (.asg (.nm (.one 253107394)) (.sub (.attr (.var 225134396) 32376161590) (.var 4136611441551))) (.cons (.forS (.one 32635942561) (.tup (.cons (.call (.glob 1165855461747238037059) (.cons (.var 253107394) .nil)) (.cons (.call (.glob 89405120735668294995197066550787540520) (.cons (.var 225134396) (.cons (.var 4136611441551) (.cons (.var 32341513866) .nil)))) .nil))) (.cons (.ife (.isN false (.var 32635942561)) (.cons (.expr (.meth (.var 28209471649) 3638987513726 (.cons (.bin .add (.bin .add (.call (.glob 1928924) (.cons (.var 4136611441551) .nil)) (.cst (.str 4316))) (.var 32635942561)) .nil))) .nil) .nil) .nil)) (.cons (.ife (.andE (.attr (.var 225134396) 542699284915561) (.cmp (.attr (.var 253107394) 14689) (.one .eq (.glob 50886942273647366)))) (.cons (.expr (.meth (.var 28209471649) 3638987513726 (.cons (.bin .add (.call (.glob 1928924) (.cons (.var 4136611441551) .nil)) (.cst (.str 89445742882344700055161980646999954064))) .nil))) .nil) .nil) .nil)))) (.cons (.forS (.one 4136611441551) (.tup (.cons (.attr (.var 225134396) 32648492339) (.cons (.attr (.var 225134396) 131322104223801899105978) .nil))) (.cons (.ife (.orE (.notE (.cmp (.cst (.int 0)) (.cons .le (.var 4136611441551) (.one .lt (.call (.glob 1860418) (.cons (.attr (.var 225134396) 32376161590) .nil)))))) (.andE (.attr (.var 225134396) 542699284915561) (.cmp (.var 4136611441551) (.one .nin (.var 32341513866))))) (.cons (.expr (.meth (.var 28209471649) 3638987513726 (.cons (.cst (.str 1298618585573286975889542179503106193032672)) .nil))) .nil) .nil) .nil)) (.cons (.ife (.andE (.attr (.var 225134396) 542699284915561) (.orE (.cmp (.attr (.var 225134396) 32341513866) (.one .ne (.var 218644023))) (.notE (.attr (.sub (.attr (.var 225134396) 32376161590) (.neg 1)) 543339266573686)))) (.cons (.expr (.meth (.var 28209471649) 3638987513726 (.cons (.cst (.str 7146976977455851823670719111642874358239225229721646742)) .nil))) .nil) .nil) (.cons (.ret (.var 28209471649)) .nil)))))))))
def c_Frag_init: CSs := (.cons (.asg (.attr (.var 222936110) 30967732746) (.var 30967732746)) (.cons (.asg (.attr (.var 222936110) 250711086) (.var 250711086)) (.cons (.asg (.attr (.var 222936110) 131251851267392784618517) (.var 131251851267392784618517)) .nil)))
def c_Maker_init: CSs := (.cons (.asg (.attr (.var 222936110) 253107527) (.var 253107527)) (.cons (.asg (.attr (.var 222936110) 32376161590) (.lst (.cons (.call (.glob 253107362) (.cons (.glob 5949141005194406978) .nil)) .nil))) .nil))
def c_need: CSs := (.cons (.ife (.cmp (.bin .add (.call (.glob 1860418) (.cons (.attr (.var 222936110) 32376161590) .nil)) (.var 263755961)) (.one .gt (.attr (.var 222936110) 253107527))) (.cons (.raiseT (.attr (.var 222936110) 253107527)) .nil) .nil) .nil)
def c_new: CSs := (.cons (.expr (.meth (.var 222936110) 218526240 (.cons (.cst (.int 1)) .nil))) (.cons (.expr (.meth (.attr (.var 222936110) 32376161590) 3638987513726 (.cons (.call (.glob 253107362) (.cons (.var 14689) .nil)) .nil))) (.cons (.ret (.bin .sub (.call (.glob 1860418) (.cons (.attr (.var 222936110) 32376161590) .nil)) (.cst (.int 1)))) .nil)))
def c_way: CSs := (.cons (.asg (.nm (.one 253107394)) (.sub (.attr (.var 222936110) 32376161590) (.bin .fdiv (.var 233768879) (.cst (.int 2))))) (.cons (.ret (.ite (.cmp (.bin .mod (.var 233768879) (.cst (.int 2))) (.one .eq (.cst (.int 0)))) (.attr (.var 253107394) 1962331) (.attr (.var 253107394) 1745597))) .nil))
def c_lead: CSs := (.cons (.asg (.nm (.one 253107394)) (.sub (.attr (.var 222936110) 32376161590) (.bin .fdiv (.var 233768879) (.cst (.int 2))))) (.cons (.ife (.cmp (.bin .mod (.var 233768879) (.cst (.int 2))) (.one .eq (.cst (.int 0)))) (.cons (.asg (.attr (.var 253107394) 1962331) (.var 28501269794)) .nil) (.cons (.asg (.attr (.var 253107394) 1745597) (.var 28501269794)) .nil)) .nil))
def c_patch: CSs := (.cons (.asg (.nm (.one 233768879)) (.sub (.var 250711086) (.cst (.int 0)))) (.cons (.whl (.cmp (.var 233768879) (.one .ne (.cst (.int 0)))) (.cons (.asg (.nm (.one 3638995965936)) (.meth (.var 222936110) 2042964 (.cons (.var 233768879) .nil))) (.cons (.expr (.meth (.var 222936110) 218459674 (.cons (.var 233768879) (.cons (.var 4208068358925) .nil)))) (.cons (.asg (.nm (.one 233768879)) (.var 3638995965936)) .nil)))) .nil))
def c_joined: CSs := (.cons (.ife (.cmp (.sub (.var 1711813) (.cst (.int 0))) (.one .eq (.cst (.int 0)))) (.cons (.ret (.var 32066856103)) .nil) .nil) (.cons (.ife (.cmp (.sub (.var 32066856103) (.cst (.int 0))) (.one .eq (.cst (.int 0)))) (.cons (.ret (.var 1711813)) .nil) .nil) (.cons (.expr (.meth (.var 222936110) 218459674 (.cons (.sub (.var 1711813) (.cst (.int 1))) (.cons (.sub (.var 32066856103) (.cst (.int 0))) .nil)))) (.cons (.ret (.tup (.cons (.sub (.var 1711813) (.cst (.int 0))) (.cons (.sub (.var 32066856103) (.cst (.int 1))) .nil)))) .nil))))
def c_ends_one: CSs := (.cons (.ret (.tup (.cons (.var 233768879) (.cons (.var 233768879) .nil)))) .nil)
def c_frag_none: CSs := (.cons (.ret (.call (.glob 224901380) (.cons (.cst (.int 0)) .nil))) .nil)
def c_frag_is_none: CSs := (.cons (.ret (.cmp (.attr (.var 224901412) 30967732746) (.one .eq (.cst (.int 0))))) .nil)
def c_frag_nop: CSs := (.cons (.asg (.nm (.one 4136611441551)) (.meth (.var 32066903573) 2010189 (.cons (.glob 48523362284342930) .nil))) (.cons (.ret (.call (.glob 224901380) (.cons (.var 4136611441551) (.cons (.call (.glob 61151211047737299) (.cons (.bin .mul (.var 4136611441551) (.cst (.int 2))) .nil)) (.cons (.cst (.bool true)) .nil))))) .nil))
def c_frag_is_nop: CSs := (.cons (.ret (.andE (.cmp (.attr (.sub (.attr (.var 32066903573) 32376161590) (.attr (.var 224901412) 30967732746)) 14689) (.one .eq (.glob 48523362284342930))) (.cmp (.attr (.var 224901412) 250711086) (.one .eq (.call (.glob 61151211047737299) (.cons (.bin .mul (.attr (.var 224901412) 30967732746) (.cst (.int 2))) .nil)))))) .nil)
def c_frag_range: CSs := (.cons (.asg (.nm (.one 4136611441551)) (.meth (.var 32066903573) 2010189 (.cons (.glob 698045809012978434836) .nil))) (.cons (.asg (.nm (.one 253107394)) (.sub (.attr (.var 32066903573) 32376161590) (.var 4136611441551))) (.cons (.asg (.attr (.var 253107394) 2011477) (.var 2011477)) (.cons (.asg (.attr (.var 253107394) 227146788) (.var 227146788)) (.cons (.asg (.attr (.var 253107394) 7806419509700087986) (.var 7806419509700087986)) (.cons (.ret (.call (.glob 224901380) (.cons (.var 4136611441551) (.cons (.call (.glob 61151211047737299) (.cons (.bin .mul (.var 4136611441551) (.cst (.int 2))) .nil)) .nil)))) .nil))))))
def c_frag_empty: CSs := (.cons (.asg (.nm (.one 4136611441551)) (.meth (.var 32066903573) 2010189 (.cons (.glob 896894582063802735542) .nil))) (.cons (.asg (.attr (.sub (.attr (.var 32066903573) 32376161590) (.var 4136611441551)) 1745597) (.var 250976694)) (.cons (.ret (.call (.glob 224901380) (.cons (.var 4136611441551) (.cons (.call (.glob 61151211047737299) (.cons (.bin .mul (.var 4136611441551) (.cst (.int 2))) .nil)) (.cons (.cst (.bool true)) .nil))))) .nil)))
def c_frag_match: CSs := (.cons (.asg (.nm (.one 4136611441551)) (.meth (.var 32066903573) 2010189 (.cons (.glob 727420221652351404308) .nil))) (.cons (.asg (.attr (.sub (.attr (.var 32066903573) 32376161590) (.var 4136611441551)) 1745597) (.var 60533133266329793)) (.cons (.ret (.call (.glob 224901380) (.cons (.var 4136611441551) .nil))) .nil)))
def c_frag_cat: CSs := (.cons (.ife (.orE (.call (.glob 16934170678452269693567350) (.cons (.var 1711813) .nil)) (.call (.glob 16934170678452269693567350) (.cons (.var 32066856103) .nil))) (.cons (.expr (.meth (.var 32066903573) 29293531157 (.cons (.attr (.var 1711813) 250711086) (.cons (.cst (.int 0)) .nil)))) (.cons (.expr (.meth (.var 32066903573) 29293531157 (.cons (.attr (.var 32066856103) 250711086) (.cons (.cst (.int 0)) .nil)))) (.cons (.ret (.call (.glob 7888506755471654200) .nil)) .nil))) .nil) (.cons (.expr (.meth (.var 32066903573) 29293531157 (.cons (.attr (.var 1711813) 250711086) (.cons (.attr (.var 32066856103) 30967732746) .nil)))) (.cons (.ife (.call (.glob 145319948547417671358994) (.cons (.var 32066903573) (.cons (.var 1711813) .nil))) (.cons (.ret (.var 32066856103)) .nil) .nil) (.cons (.ret (.call (.glob 224901380) (.cons (.attr (.var 1711813) 30967732746) (.cons (.attr (.var 32066856103) 250711086) (.cons (.andE (.attr (.var 1711813) 131251851267392784618517) (.attr (.var 32066856103) 131251851267392784618517)) .nil))))) .nil))))
def c_frag_alt: CSs := (.cons (.ife (.call (.glob 16934170678452269693567350) (.cons (.var 1711813) .nil)) (.cons (.ret (.var 32066856103)) .nil) .nil) (.cons (.ife (.call (.glob 16934170678452269693567350) (.cons (.var 32066856103) .nil)) (.cons (.ret (.var 1711813)) .nil) .nil) (.cons (.asg (.nm (.one 4136611441551)) (.meth (.var 32066903573) 2010189 (.cons (.glob 50886942273647366) .nil))) (.cons (.asg (.nm (.one 253107394)) (.sub (.attr (.var 32066903573) 32376161590) (.var 4136611441551))) (.cons (.asg (.attr (.var 253107394) 1962331) (.attr (.var 1711813) 30967732746)) (.cons (.asg (.attr (.var 253107394) 1745597) (.attr (.var 32066856103) 30967732746)) (.cons (.ret (.call (.glob 224901380) (.cons (.var 4136611441551) (.cons (.meth (.var 32066903573) 3636514411391 (.cons (.attr (.var 1711813) 250711086) (.cons (.attr (.var 32066856103) 250711086) .nil))) (.cons (.orE (.attr (.var 1711813) 131251851267392784618517) (.attr (.var 32066856103) 131251851267392784618517)) .nil))))) .nil)))))))
def c_frag_choice: CSs := (.cons (.asg (.nm (.one 4136611441551)) (.meth (.var 32066903573) 2010189 (.cons (.glob 50886942273647366) .nil))) (.cons (.asg (.nm (.one 253107394)) (.sub (.attr (.var 32066903573) 32376161590) (.var 4136611441551))) (.cons (.ife (.var 566630696248834) (.cons (.asg (.attr (.var 253107394) 1745597) (.var 30967732746)) (.cons (.ret (.tup (.cons (.var 4136611441551) (.cons (.call (.glob 61151211047737299) (.cons (.bin .mul (.var 4136611441551) (.cst (.int 2))) .nil)) .nil)))) .nil)) .nil) (.cons (.asg (.attr (.var 253107394) 1962331) (.var 30967732746)) (.cons (.ret (.tup (.cons (.var 4136611441551) (.cons (.call (.glob 61151211047737299) (.cons (.bin .add (.bin .mul (.var 4136611441551) (.cst (.int 2))) (.cst (.int 1))) .nil)) .nil)))) .nil)))))
def c_frag_plus: CSs := (.cons (.ife (.call (.glob 16934170678452269693567350) (.cons (.var 224901412) .nil)) (.cons (.ret (.call (.glob 7888506755471654200) .nil)) .nil) .nil) (.cons (.asg (.nm (.tup [4136611441551,253105724])) (.call (.glob 131163363601721683534069) (.cons (.var 32066903573) (.cons (.attr (.var 224901412) 30967732746) (.cons (.var 566630696248834) .nil))))) (.cons (.expr (.meth (.var 32066903573) 29293531157 (.cons (.attr (.var 224901412) 250711086) (.cons (.var 4136611441551) .nil)))) (.cons (.ret (.call (.glob 224901380) (.cons (.attr (.var 224901412) 30967732746) (.cons (.var 253105724) (.cons (.attr (.var 224901412) 131251851267392784618517) .nil))))) .nil))))
def c_frag_quest: CSs := (.cons (.ife (.call (.glob 16934170678452269693567350) (.cons (.var 224901412) .nil)) (.cons (.ret (.call (.glob 67694923899939796) (.cons (.var 32066903573) .nil))) .nil) .nil) (.cons (.asg (.nm (.tup [4136611441551,253105724])) (.call (.glob 131163363601721683534069) (.cons (.var 32066903573) (.cons (.attr (.var 224901412) 30967732746) (.cons (.var 566630696248834) .nil))))) (.cons (.ret (.call (.glob 224901380) (.cons (.var 4136611441551) (.cons (.meth (.var 32066903573) 3636514411391 (.cons (.var 253105724) (.cons (.attr (.var 224901412) 250711086) .nil))) (.cons (.cst (.bool true)) .nil))))) .nil)))
def c_frag_star: CSs := (.cons (.ife (.call (.glob 16934170678452269693567350) (.cons (.var 224901412) .nil)) (.cons (.ret (.call (.glob 67694923899939796) (.cons (.var 32066903573) .nil))) .nil) .nil) (.cons (.ife (.attr (.var 224901412) 131251851267392784618517) (.cons (.expr (.meth (.var 32066903573) 218526240 (.cons (.cst (.int 2)) .nil))) (.cons (.ret (.call (.glob 1166382846802946178619) (.cons (.var 32066903573) (.cons (.call (.glob 8966262221512968652) (.cons (.var 32066903573) (.cons (.var 224901412) (.cons (.var 566630696248834) .nil)))) (.cons (.var 566630696248834) .nil))))) .nil)) .nil) (.cons (.asg (.nm (.tup [4136611441551,253105724])) (.call (.glob 131163363601721683534069) (.cons (.var 32066903573) (.cons (.attr (.var 224901412) 30967732746) (.cons (.var 566630696248834) .nil))))) (.cons (.expr (.meth (.var 32066903573) 29293531157 (.cons (.attr (.var 224901412) 250711086) (.cons (.var 4136611441551) .nil)))) (.cons (.ret (.call (.glob 224901380) (.cons (.var 4136611441551) (.cons (.var 253105724) (.cons (.cst (.bool true)) .nil))))) .nil)))))
def c_frag_capture: CSs := (.cons (.ife (.call (.glob 16934170678452269693567350) (.cons (.var 224901412) .nil)) (.cons (.ret (.call (.glob 7888506755471654200) .nil)) .nil) .nil) (.cons (.expr (.meth (.var 32066903573) 218526240 (.cons (.cst (.int 2)) .nil))) (.cons (.asg (.swap [28181297528,3638995965936]) (.tup (.cons (.meth (.var 32066903573) 2010189 (.cons (.glob 11630288511819499376935229) .nil)) (.cons (.meth (.var 32066903573) 2010189 (.cons (.glob 11630288511819499376935229) .nil)) .nil)))) c_cap_t1)))
def c_law_none: CSs := (.cons (.ret (.tup (.cons (.neg 1) (.cons (.neg 1) (.cons (.neg 1) (.cons (.neg 1) .nil)))))) .nil)
def c_law_digits: CSs := (.cons (.asg (.nm (.one 28209471649)) (.lst .nil)) (.cons (.forS (.one 220905375) (.var 32343959571) (.cons (.expr (.meth (.var 28209471649) 3638987513726 (.cons (.bin .mod (.var 4136611441551) (.var 220905375)) .nil))) (.cons (.asg (.nm (.one 4136611441551)) (.bin .fdiv (.var 4136611441551) (.var 220905375))) .nil))) (.cons (.ret (.var 28209471649)) .nil)))
def c_law_fits: CSs := (.cons (.asg (.nm (.one 30420228254)) (.ite (.andE (.sub (.var 248645936) (.cst (.int 2))) (.cmp (.cst (.int 65)) (.cons .le (.var 32620899364) (.one .le (.cst (.int 90)))))) (.bin .add (.var 32620899364) (.cst (.int 32))) (.var 32620899364))) (.cons (.ret (.cmp (.sub (.var 248645936) (.cst (.int 0))) (.cons .le (.var 30420228254) (.one .le (.sub (.var 248645936) (.cst (.int 1))))))) .nil))
def c_law_first: CSs := (.cons (.asg (.swap [28209471649,1960265]) (.tup (.cons (.lst .nil) (.cons (.dct []) .nil)))) (.cons (.forS (.tup [1695162,253056312]) (.var 251058888) (.cons (.ife (.cmp (.var 1695162) (.one .nin (.var 1960265))) (.cons (.asg (.sub (.var 1960265) (.var 1695162)) (.cst (.bool true))) (.cons (.expr (.meth (.var 28209471649) 3638987513726 (.cons (.tup (.cons (.var 1695162) (.cons (.var 253056312) .nil))) .nil))) .nil)) .nil) .nil)) (.cons (.ret (.var 28209471649)) .nil)))
def c_law_kept: CSs := (.cons (.ret (.call (.glob 28482018735) (.cons (.compZ (.ite (.cmp (.var 2010189) (.one .ge (.cst (.int 0)))) (.var 2010189) (.var 1694914)) (.tup [1694914,2010189]) (.var 1711813) (.var 32066856103)) .nil))) .nil)
def c_law_mark: CSs := (.cons (.ret (.call (.glob 28482018735) (.cons (.comp (.ite (.cmp (.var 4136611441551) (.one .eq (.var 253040582))) (.var 15191) (.neg 1)) (.one 4136611441551) (.call (.glob 28471249426) (.cons (.cst (.int 4)) .nil)) .nil) .nil))) .nil)
def c_law_group: CSs := (.cons (.asg (.swap [28181297528,28209471649]) (.tup (.cons (.call (.glob 8350937765289675702) (.cons (.sub (.var 32376094778) (.cst (.int 0))) (.cons (.var 15191) .nil))) (.cons (.lst .nil) .nil)))) (.cons (.forS (.tup [1695162,253056312]) (.var 251058888) (.cons (.expr (.meth (.var 28209471649) 3638987513726 (.cons (.tup (.cons (.var 1695162) (.cons (.call (.glob 9039943730525302719) (.cons (.call (.glob 9039943730525302719) (.cons (.var 28181297528) (.cons (.var 253056312) .nil))) (.cons (.call (.glob 8350937765289675702) (.cons (.sub (.var 32376094778) (.cst (.int 1))) (.cons (.var 1695162) .nil))) .nil))) .nil))) .nil))) .nil)) (.cons (.ret (.var 28209471649)) .nil)))
def c_law_joined: CSs := (.cons (.asg (.nm (.one 28209471649)) (.lst .nil)) (.cons (.forS (.tup [222935583,253056312]) (.var 251058888) (.cons (.expr (.meth (.var 28209471649) 3638987581326 (.cons (.comp (.tup (.cons (.var 1695162) (.cons (.call (.glob 9039943730525302719) (.cons (.var 253056312) (.cons (.var 220890551) .nil))) .nil))) (.tup [1695162,220890551]) (.sub (.var 28481783181) (.var 222935583)) .nil) .nil))) .nil)) (.cons (.ret (.call (.glob 1166390519185675387188) (.cons (.var 28209471649) .nil))) .nil)))
def c_law_loops: CSs := (.cons (.asg (.nm (.one 28209471649)) (.comp (.lst .nil) (.one 251058888) (.var 28481783181) .nil)) (.cons (.forS (.one 15191) (.call (.glob 28471249426) (.cons (.bin .sub (.call (.glob 1860418) (.cons (.var 28481783181) .nil)) (.cst (.int 1))) (.cons (.neg 1) (.cons (.neg 1) .nil)))) (.cons (.asg (.nm (.one 3636518804617)) (.lst .nil)) (.cons (.forS (.tup [1695162,253056312]) (.sub (.var 28481783181) (.var 15191)) (.cons (.asg (.nm (.one 220890551)) (.ite (.cmp (.var 1695162) (.one .gt (.var 15191))) (.call (.glob 129907392140480370777990) (.cons (.lst (.cons (.tup (.cons (.var 1695162) (.cons (.var 253056312) .nil))) .nil)) (.cons (.var 28209471649) .nil))) (.lst .nil))) c_loops_t1)) (.cons (.asg (.sub (.var 28209471649) (.var 15191)) (.call (.glob 1166390519185675387188) (.cons (.var 3636518804617) .nil))) .nil)))) (.cons (.ret (.var 28209471649)) .nil)))
def c_law_meant: CSs := (.cons (.asg (.nm (.tup [566630696248834,248645936,32376094778,250976694])) (.var 2011483)) (.cons (.asg (.nm (.one 4172336439038)) (.call (.glob 28471249426) (.cons (.bin .add (.call (.glob 1860418) (.cons (.var 253189449) .nil)) (.cst (.int 1))) .nil))) (.cons (.ife (.cmp (.var 32066789281) (.one .eq (.cst (.str 220823988)))) (.cons (.ret (.comp (.lst .nil) (.one 15191) (.var 4172336439038) .nil)) .nil) .nil) (.cons (.ife (.cmp (.var 32066789281) (.one .eq (.cst (.str 1894992)))) (.cons (.ret (.comp (.lst (.cons (.tup (.cons (.var 15191) (.cons (.call (.glob 7888506755506000443) .nil) .nil))) .nil)) (.one 15191) (.var 4172336439038) .nil)) .nil) .nil) (.cons (.ife (.cmp (.var 32066789281) (.one .eq (.cst (.str 34037648820)))) (.cons (.ret (.comp (.ite (.cmp (.bin .band (.sub (.var 32341698207) (.var 15191)) (.var 250976694)) (.one .eq (.var 250976694))) (.lst (.cons (.tup (.cons (.var 15191) (.cons (.call (.glob 7888506755506000443) .nil) .nil))) .nil)) (.lst .nil)) (.one 15191) (.var 4172336439038) .nil)) .nil) .nil) (.cons (.ife (.cmp (.var 32066789281) (.one .eq (.cst (.str 28471249426)))) (.cons (.ret (.comp (.ite (.andE (.cmp (.var 15191) (.one .lt (.call (.glob 1860418) (.cons (.var 253189449) .nil)))) (.call (.glob 8965653572193319233) (.cons (.var 248645936) (.cons (.sub (.var 253189449) (.var 15191)) .nil)))) (.lst (.cons (.tup (.cons (.bin .add (.var 15191) (.cst (.int 1))) (.cons (.call (.glob 7888506755506000443) .nil) .nil))) .nil)) (.lst .nil)) (.one 15191) (.var 4172336439038) .nil)) .nil) .nil) (.cons (.ife (.cmp (.var 32066789281) (.one .eq (.cst (.str 1959739)))) (.cons (.ret (.comp (.call (.glob 129907392140480370777990) (.cons (.sub (.sub (.var 4172355774465) (.cst (.int 0))) (.var 15191)) (.cons (.sub (.var 4172355774465) (.cst (.int 1))) .nil))) (.one 15191) (.var 4172336439038) .nil)) .nil) .nil) (.cons (.ife (.cmp (.var 32066789281) (.one .eq (.cst (.str 1961156)))) (.cons (.ret (.comp (.call (.glob 1166390519185675387188) (.cons (.bin .add (.sub (.sub (.var 4172355774465) (.cst (.int 0))) (.var 15191)) (.sub (.sub (.var 4172355774465) (.cst (.int 1))) (.var 15191))) .nil)) (.one 15191) (.var 4172336439038) .nil)) .nil) .nil) (.cons (.ife (.cmp (.var 32066789281) (.one .eq (.cst (.str 474184994492923)))) (.cons (.ret (.comp (.call (.glob 1126972028334985087545) (.cons (.sub (.sub (.var 4172355774465) (.cst (.int 0))) (.var 15191)) (.cons (.var 15191) (.cons (.var 32376094778) .nil)))) (.one 15191) (.var 4172336439038) .nil)) .nil) .nil) (.cons (.asg (.nm (.one 28481783181)) (.ite (.cmp (.var 32066789281) (.one .eq (.cst (.str 32650705719)))) (.sub (.var 4172355774465) (.cst (.int 0))) (.call (.glob 1156266174420931299129) (.cons (.sub (.var 4172355774465) (.cst (.int 0))) (.cons (.var 566630696248834) .nil))))) (.cons (.ife (.cmp (.var 32066789281) (.one .eq (.cst (.str 250993736)))) (.cons (.ret (.var 28481783181)) .nil) .nil) c_meant_t1)))))))))))
def c_law_needs: CSs := (.cons (.asg (.nm (.one 474040427588338)) (.comp (.sub (.var 28490354198) (.cst (.int 0))) (.one 28490354198) (.var 4172364345482) .nil)) (.cons (.ife (.orE (.cmp (.var 32066789281) (.one .inn (.tup (.cons (.cst (.str 1959739)) (.cons (.cst (.str 220823988)) .nil))))) (.andE (.cmp (.var 32066789281) (.one .inn (.tup (.cons (.cst (.str 1961156)) (.cons (.cst (.str 250993736)) (.cons (.cst (.str 474184994492923)) .nil)))))) (.cmp (.cst (.bool true)) (.one .inn (.var 474040427588338))))) (.cons (.ret (.cst (.int 0))) .nil) .nil) (.cons (.ife (.orE (.cmp (.var 32066789281) (.one .eq (.cst (.str 474184994492923)))) (.andE (.cmp (.var 32066789281) (.one .eq (.cst (.str 248515262)))) (.sub (.sub (.var 4172364345482) (.cst (.int 0))) (.cst (.int 1))))) (.cons (.ret (.cst (.int 2))) .nil) .nil) (.cons (.ret (.cst (.int 1))) .nil))))
def c_law_shape: CSs := (.cons (.ife (.cmp (.var 32066789281) (.one .eq (.cst (.str 1959739)))) (.cons (.asg (.nm (.one 474040427588338)) (.orE (.sub (.sub (.var 4172364345482) (.cst (.int 0))) (.cst (.int 0))) (.sub (.sub (.var 4172364345482) (.cst (.int 1))) (.cst (.int 0))))) (.cons (.ret (.tup (.cons (.var 474040427588338) (.cons (.andE (.notE (.var 474040427588338)) (.andE (.sub (.sub (.var 4172364345482) (.cst (.int 0))) (.cst (.int 1))) (.sub (.sub (.var 4172364345482) (.cst (.int 1))) (.cst (.int 1))))) .nil)))) .nil)) .nil) (.cons (.ife (.cmp (.var 32066789281) (.one .eq (.cst (.str 1961156)))) (.cons (.ret (.tup (.cons (.andE (.sub (.sub (.var 4172364345482) (.cst (.int 0))) (.cst (.int 0))) (.sub (.sub (.var 4172364345482) (.cst (.int 1))) (.cst (.int 0)))) (.cons (.orE (.sub (.sub (.var 4172364345482) (.cst (.int 0))) (.cst (.int 1))) (.sub (.sub (.var 4172364345482) (.cst (.int 1))) (.cst (.int 1)))) .nil)))) .nil) .nil) (.cons (.ife (.cmp (.var 32066789281) (.one .inn (.tup (.cons (.cst (.str 250993736)) (.cons (.cst (.str 474184994492923)) .nil))))) (.cons (.ret (.sub (.var 4172364345482) (.cst (.int 0)))) .nil) .nil) (.cons (.ret (.tup (.cons (.cmp (.var 32066789281) (.one .eq (.cst (.str 220823988)))) (.cons (.cmp (.var 32066789281) (.one .inn (.tup (.cons (.cst (.str 248515262)) (.cons (.cst (.str 32650705719)) (.cons (.cst (.str 34037648820)) (.cons (.cst (.str 1894992)) .nil))))))) .nil)))) .nil))))
def c_law_made: CSs := (.cons (.asg (.nm (.tup [566630696248834,248645936,32376094778,250976694])) (.var 2011483)) (.cons (.ife (.cmp (.var 32066789281) (.one .eq (.cst (.str 1959739)))) (.cons (.ret (.call (.glob 70007884325057599) (.cons (.var 32066903573) (.cons (.sub (.var 32376143279) (.cst (.int 0))) (.cons (.sub (.var 32376143279) (.cst (.int 1))) .nil))))) .nil) .nil) (.cons (.ife (.cmp (.var 32066789281) (.one .eq (.cst (.str 1961156)))) (.cons (.ret (.call (.glob 70058503889244232) (.cons (.var 32066903573) (.cons (.sub (.var 32376143279) (.cst (.int 0))) (.cons (.sub (.var 32376143279) (.cst (.int 1))) .nil))))) .nil) .nil) (.cons (.ife (.cmp (.var 32066789281) (.one .eq (.cst (.str 248515262)))) (.cons (.ret (.call (.glob 8877723566800265026) (.cons (.var 32066903573) (.cons (.sub (.var 32376143279) (.cst (.int 0))) (.cons (.var 566630696248834) .nil))))) .nil) .nil) (.cons (.ife (.cmp (.var 32066789281) (.one .eq (.cst (.str 32650705719)))) (.cons (.ret (.call (.glob 1166382846802946178619) (.cons (.var 32066903573) (.cons (.sub (.var 32376143279) (.cst (.int 0))) (.cons (.var 566630696248834) .nil))))) .nil) .nil) (.cons (.ife (.cmp (.var 32066789281) (.one .eq (.cst (.str 250993736)))) (.cons (.ret (.call (.glob 8966262221512968652) (.cons (.var 32066903573) (.cons (.sub (.var 32376143279) (.cst (.int 0))) (.cons (.var 566630696248834) .nil))))) .nil) .nil) (.cons (.ife (.cmp (.var 32066789281) (.one .eq (.cst (.str 474184994492923)))) (.cons (.ret (.call (.glob 16939335049451495703478015) (.cons (.var 32066903573) (.cons (.sub (.var 32376143279) (.cst (.int 0))) (.cons (.bin .add (.cst (.int 1)) (.bin .fdiv (.call (.glob 1860935) (.cons (.var 32376094778) .nil)) (.cst (.int 2)))) (.cons (.var 129907780876443790661926) .nil)))))) .nil) .nil) (.cons (.ife (.cmp (.var 32066789281) (.one .eq (.cst (.str 34037648820)))) (.cons (.ret (.call (.glob 1215928686834193402168) (.cons (.var 32066903573) (.cons (.var 250976694) .nil)))) .nil) .nil) (.cons (.ife (.cmp (.var 32066789281) (.one .eq (.cst (.str 1894992)))) (.cons (.ret (.call (.glob 67694923899939796) (.cons (.var 32066903573) .nil))) .nil) .nil) (.cons (.ife (.cmp (.var 32066789281) (.one .eq (.cst (.str 220823988)))) (.cons (.ret (.call (.glob 7888506755471654200) .nil)) .nil) .nil) (.cons (.ret (.call (.glob 1017079913783369101462) (.cons (.var 32066903573) (.cons (.sub (.var 248645936) (.cst (.int 0))) (.cons (.sub (.var 248645936) (.cst (.int 1))) (.cons (.sub (.var 248645936) (.cst (.int 2))) .nil)))))) .nil)))))))))))
def c_law_rows: CSs := (.cons (.ret (.comp (.tup (.cons (.attr (.var 253107394) 14689) (.cons (.attr (.var 253107394) 1962331) (.cons (.attr (.var 253107394) 1745597) (.cons (.attr (.var 253107394) 2011477) (.cons (.attr (.var 253107394) 227146788) (.cons (.attr (.var 253107394) 7806419509700087986) .nil))))))) (.one 253107394) (.var 32376161590) .nil)) .nil)
def c_law_tried: CSs := (.cons (.asg (.swap [28181297528,220655771,218644023]) (.tup (.cons (.call (.glob 8967465052419388374) (.cons (.attr (.var 32066903573) 32376161590) .nil)) (.cons (.cst .none) (.cons (.cst .none) .nil))))) (.cons (.asg (.attr (.var 32066903573) 253107527) (.bin .add (.call (.glob 1860418) (.cons (.var 28181297528) .nil)) (.var 238014145))) (.cons (.tryT 220655771 (.call (.glob 7882497530926760610) (.cons (.var 32066903573) (.cons (.var 32066789281) (.cons (.var 32376143279) (.cons (.var 2011483) (.cons (.var 129907780876443790661926) .nil)))))) 102 218644023) c_tried_t1)))
def c_law_ways: CSs := (.cons (.ife (.cmp (.attr (.var 253107394) 14689) (.one .eq (.glob 50886942273647366))) (.cons (.ret (.lst (.cons (.tup (.cons (.attr (.var 253107394) 1962331) (.cons (.var 15191) (.cons (.var 253056312) .nil)))) (.cons (.tup (.cons (.attr (.var 253107394) 1745597) (.cons (.var 15191) (.cons (.var 253056312) .nil)))) .nil)))) .nil) .nil) (.cons (.ife (.orE (.cmp (.attr (.var 253107394) 14689) (.one .eq (.glob 48523362284342930))) (.andE (.cmp (.attr (.var 253107394) 14689) (.one .eq (.glob 896894582063802735542))) (.cmp (.bin .band (.sub (.var 32341698207) (.var 15191)) (.attr (.var 253107394) 1745597)) (.one .eq (.attr (.var 253107394) 1745597))))) (.cons (.ret (.lst (.cons (.tup (.cons (.attr (.var 253107394) 1962331) (.cons (.var 15191) (.cons (.var 253056312) .nil)))) .nil))) .nil) .nil) c_ways_t1))
def c_law_found: CSs := (.cons (.asg (.swap [28209471649,1960265,252889903]) (.tup (.cons (.lst .nil) (.cons (.dct []) (.cons (.lst (.cons (.tup (.cons (.var 30967732746) (.cons (.cst (.int 0)) (.cons (.call (.glob 7888506755506000443) .nil) .nil)))) .nil)) .nil))))) (.cons (.whl (.cmp (.var 252889903) (.one .ne (.lst .nil))) (.cons (.asg (.nm (.tup [4136611441551,15191,253056312])) (.meth (.var 252889903) 1894994 .nil)) (.cons (.ife (.cmp (.tup (.cons (.var 4136611441551) (.cons (.var 15191) .nil))) (.one .nin (.var 1960265))) (.cons (.asg (.sub (.var 1960265) (.tup (.cons (.var 4136611441551) (.cons (.var 15191) .nil)))) (.cst (.bool true))) (.cons (.ife (.cmp (.attr (.sub (.var 32376161590) (.var 4136611441551)) 14689) (.one .eq (.glob 727420221652351404308))) (.cons (.expr (.meth (.var 28209471649) 3638987513726 (.cons (.tup (.cons (.var 15191) (.cons (.var 253056312) .nil))) .nil))) .nil) .nil) c_found_t1)) .nil) .nil))) (.cons (.ret (.var 28209471649)) .nil)))
def c_law: CSs := (.cons (.asg (.nm (.one 9041727382494137289)) (.lst (.cons (.cst (.int 66)) (.cons (.cst (.int 0)) (.cons (.cst (.int 0)) (.cons (.cst (.int 16)) (.cons (.cst (.int 3)) (.cons (.cst (.int 6)) (.cons (.cst (.int 4)) .nil))))))))) (.cons (.asg (.nm (.one 149177348187315714245916)) (.lst (.cons (.cst (.str 28471249426)) (.cons (.cst (.str 1959739)) (.cons (.cst (.str 28471249426)) (.cons (.cst (.str 1961156)) (.cons (.cst (.str 248515262)) (.cons (.cst (.str 28471249426)) (.cons (.cst (.str 474184994492923)) (.cons (.cst (.str 32650705719)) (.cons (.cst (.str 250993736)) (.cons (.cst (.str 28471249426)) (.cons (.cst (.str 34037648820)) (.cons (.cst (.str 1959739)) .nil)))))))))))))) (.cons (.asg (.nm (.one 149177348187315714245916)) (.bin .add (.var 149177348187315714245916) (.lst (.cons (.cst (.str 1894992)) (.cons (.cst (.str 220823988)) (.cons (.cst (.str 1961156)) (.cons (.cst (.str 474184994492923)) .nil))))))) (.cons (.asg (.nm (.one 129906622853851102991730)) (.dct [(1959739,2),(1961156,2),(248515262,1),(32650705719,1),(250993736,1),(474184994492923,1)])) (.cons (.asg (.nm (.one 1156415915808219961899)) (.lst (.cons (.tup (.cons (.cst (.int 97)) (.cons (.cst (.int 97)) (.cons (.cst (.bool false)) .nil)))) (.cons (.tup (.cons (.cst (.int 98)) (.cons (.cst (.int 98)) (.cons (.cst (.bool false)) .nil)))) (.cons (.tup (.cons (.cst (.int 97)) (.cons (.cst (.int 98)) (.cons (.cst (.bool false)) .nil)))) (.cons (.tup (.cons (.cst (.int 97)) (.cons (.cst (.int 97)) (.cons (.cst (.bool true)) .nil)))) (.cons (.tup (.cons (.cst (.int 0)) (.cons (.cst (.int 255)) (.cons (.cst (.bool false)) .nil)))) (.cons (.tup (.cons (.cst (.int 98)) (.cons (.cst (.int 122)) (.cons (.cst (.bool true)) .nil)))) .nil)))))))) (.cons (.asg (.nm (.one 1156415915808219961899)) (.bin .add (.var 1156415915808219961899) (.lst (.cons (.tup (.cons (.cst (.int 10)) (.cons (.cst (.int 65)) (.cons (.cst (.bool false)) .nil)))) .nil)))) (.cons (.asg (.nm (.one 149197142690429954922783)) (.lst (.cons (.cst (.int 97)) (.cons (.cst (.int 98)) (.cons (.cst (.int 65)) (.cons (.cst (.int 66)) (.cons (.cst (.int 10)) (.cons (.cst (.int 255)) .nil)))))))) (.cons (.asg (.nm (.one 1007032309778334464532)) (.lst (.cons (.cst (.int 1)) (.cons (.cst (.int 2)) (.cons (.cst (.int 4)) (.cons (.cst (.int 8)) (.cons (.cst (.int 16)) (.cons (.cst (.int 32)) (.cons (.cst (.int 5)) (.cons (.cst (.int 10)) (.cons (.cst (.int 40)) (.cons (.cst (.int 63)) .nil)))))))))))) c_law_t1))))))))
section
variable (W: Wd) (P: Params)
theorem initF_K (hK: W.K=hd.heap_39 P): ∃ fd,InitF W 29 fd :=
 ⟨_,⟨_,_,_,_,fnK_of (by rw[hK];rfl) rfl (by rw[hK];kernel_rfl)⟩,by kernel_rfl,by kernel_rfl,by kernel_rfl,fun s a b X=>binds_peek X (fun S=>by rw[hK];kernel_rfl)⟩
theorem base_K (WO: W.Ok) (hK: W.K=hd.heap_39 P): ∃ fd,Base W 45 32 29 fd T0 := by
 obtain⟨fd,hI⟩ := initF_K W P hK
 have TB: TbOk W T0 := tabs_T0▸tabs_ok WO (by rw[hK];exact tabs_K P)
 exact⟨fd,⟨WO,by rw[hK];exact excF_K P,hI,TB,TB.gl,by kernel_rfl,fun _ _ _=>rfl⟩⟩
end
theorem look_put (l: Loc) (k x: Nat) (v: DV): look (put l k v) x=if Nat.beq k x then some v else look l x := by
 by_cases e: k=x
 ·subst e;rw[look_put_self];simp
 ·rw[look_put_ne _ _ e,beq_false e];simp
theorem forW_ind {gd: St->Prop} {B: DV->(St->Prop)->St->Prop} {R: St->Prop} (P: List DV->St->Prop) (h0: ∀ σ,P [] σ->gd σ/\R σ) (h1: ∀ x xs σ K,P (x::xs) σ->(∀ σ',P xs σ'->K σ')->gd σ/\B x K σ): ∀ xs σ,P xs σ->forW gd B R xs σ
 |[],σ,h=>h0 σ h
 |x::xs,σ,h=>h1 x xs σ _ h fun σ' h'=>forW_ind P h0 h1 xs σ' h'
theorem compW_ind {gd: St->Prop} {B: DV->(Option DV->Mt->Prop)->Mt->Prop} {loc: Loc} {Q: DV->St->Prop} (P: List DV->List DV->Mt->Prop) (h0: ∀ acc m,P [] acc m->gd ⟨loc,m⟩/\newL acc Q ⟨loc,m⟩)
  (h1: ∀ x xs acc m K,P (x::xs) acc m->(∀ r m',(match r with|none=>P xs acc m'|some d=>P xs (acc++[d]) m')->K r m')->gd ⟨loc,m⟩/\B x K m): ∀ xs acc m,P xs acc m->compW gd B loc Q xs acc m
 |[],acc,m,h=>h0 acc m h
 |x::xs,acc,m,h=>h1 x xs acc m _ h fun r m' h'=>by
   cases r with
   |none=>exact compW_ind P h0 h1 xs acc m' h'
   |some d=>exact compW_ind P h0 h1 xs (acc++[d]) m' h'
theorem whileN_ind {B: (St->Prop)->St->Prop} (P: Nat->St->Prop) (h: ∀ k σ K,P k σ->(∀ j σ',j<k->P j σ'->K σ')->B K σ): ∀ k σ,P k σ->∃ i,whileN B i σ := by
 have mono: ∀ k σ,P k σ->∀ i,k<i->whileN B i σ := by
  intro k
  induction k using Nat.strongRecOn with
  |ind k ih=>
   intro σ hp i hi
   cases i with
   |zero=>omega
   |succ i=>exact h k σ _ hp fun j σ' hj hp'=>ih j hj σ' hp' i (by omega)
 exact fun k σ hp=>⟨k+1,mono k σ hp _ (Nat.lt_succ_self _)⟩
section
variable (W: Wd) (P: Params)
end
end Mine
end
section
namespace Mine
theorem look_cons (l: Loc) (k x: Nat) (v: DV): look ((k,v)::l) x=if Nat.beq k x then some v else look l x := by rfl
abbrev Kept := List Int
def kNone: Kept := [-1,-1,-1,-1]
def kept (one other: Kept): Kept := (one.zip other).map fun p=>if 0<=p.2 then p.2 else p.1
def kMark (slot: Nat) (at_: Nat): Kept := (List.range 4).map fun n=>if n=slot then Int.ofNat at_ else -1
abbrev Way := Nat×Kept
def firstGo: List Nat->List Way->List Way
 |_,[]=>[]
 |met,(e,k)::r=>if met.contains e then firstGo met r else(e,k)::firstGo (met++[e]) r
def digits: Nat->List Nat->List Nat
 |_,[]=>[]
 |N,b::r=>N % b::digits (N / b) r
def first (l: List Way): List Way := firstGo [] l
abbrev Table := List (List Way)
def row (t: Table) (h: Nat): List Way := t.getD h []
def shift (k: Kept) (l: List Way): List Way := l.map fun p=>(p.1,kept k p.2)
def joinedAll (l: List Way) (t: Table): List Way := l.flatMap fun p=>shift p.2 (row t p.1)
def joined (l: List Way) (t: Table): List Way := first (joinedAll l t)
def group (l: List Way) (at_ s0 s1: Nat): List Way := l.map fun p=>(p.1,kept (kept (kMark s0 at_) p.2) (kMark s1 p.1))
def loopOne (found: Table) (lazy: Bool) (at_: Nat) (p: Way): List Way :=
 let more := if at_<p.1 then joined [p] found else[]
 if lazy then[p]++more else more++[p]
def loopStep (t: Table) (lazy: Bool) (found: Table) (at_: Nat): Table :=
 found.set at_ (first ((row t at_).flatMap (loopOne found lazy at_)))
def loops (t: Table) (lazy: Bool): Table := (List.range t.length).reverse.foldl (loopStep t lazy) (t.map fun _=>[])
def fits (lo hi: Nat) (fold: Bool) (o: Nat): Bool :=
 let s := if fold&&(65<=o&&o<=90)then o+32 else o
 decide (lo<=s)&&decide (s<=hi)
inductive Ord where
 |range|cat|alt|star|capture|quest|plus|empty|nop|none
 deriving DecidableEq
structure Row where
 lazy: Bool
 lo: Nat
 hi: Nat
 fold: Bool
 s0: Nat
 s1: Nat
 bits: Nat
def emptyAt (bits: Nat) (holds: List Nat) (at_: Nat): Bool := decide (holds.getD at_ 0&&& bits=bits)
def rangeAt (lo hi: Nat) (fold: Bool) (text: List Nat) (at_: Nat): Bool := decide (at_<text.length)&&fits lo hi fold (text.getD at_ 0)
def tab (tables: List Table) (k: Nat): Table := tables.getD k []
def meant (o: Ord) (tables: List Table) (r: Row) (text holds: List Nat): Table :=
 let f: Nat->List Way := match o with
  |.none=>fun _=>[]
  |.nop=>fun a=>[(a,kNone)]
  |.empty=>fun a=>if emptyAt r.bits holds a then[(a,kNone)]else[]
  |.range=>fun a=>if rangeAt r.lo r.hi r.fold text a then[(a+1,kNone)]else[]
  |.cat=>fun a=>joined (row (tab tables 0) a) (tab tables 1)
  |.alt=>fun a=>first (row (tab tables 0) a++row (tab tables 1) a)
  |.capture=>fun a=>group (row (tab tables 0) a) a r.s0 r.s1
  |.plus=>row (loops (tab tables 0) r.lazy)
  |.quest=>fun a=>first (if r.lazy then[(a,kNone)]++row (tab tables 0) a else row (tab tables 0) a++[(a,kNone)])
  |.star=>fun a=>first (if r.lazy then[(a,kNone)]++row (loops (tab tables 0) r.lazy) a else row (loops (tab tables 0) r.lazy) a++[(a,kNone)])
 (List.range (text.length+1)).map f
abbrev Shape := Bool×Bool
def shp (l: List Shape) (k: Nat): Shape := l.getD k (false,false)
def needs (o: Ord) (l: List Shape): Nat := match o with
 |.cat=>0
 |.none=>0
 |.alt=>if l.any (·.1)then 0 else 1
 |.plus=>if l.any (·.1)then 0 else 1
 |.capture=>if l.any (·.1)then 0 else 2
 |.star=>if(shp l 0).2 then 2 else 1
 |_=>1
def shape (o: Ord) (l: List Shape): Shape := match o with
 |.cat=>let n := (shp l 0).1||(shp l 1).1;(n,!n&&((shp l 0).2&&(shp l 1).2))
 |.alt=>((shp l 0).1&&(shp l 1).1,(shp l 0).2||(shp l 1).2)
 |.plus=>shp l 0
 |.capture=>shp l 0
 |.none=>(true,false)
 |.range=>(false,false)
 |_=>(false,true)
structure Ins where
 op: Nat
 out: Nat
 arg: Nat
 low: Nat
 high: Nat
 fold: Bool
 deriving DecidableEq
def opI (op: Nat): Ins := ⟨op,0,0,0,0,false⟩
structure Fr where
 b: Nat
 e0: Nat
 e1: Nat
 nl: Bool
 deriving DecidableEq
def insAt (is: List Ins) (k: Nat): Ins := is.getD k (opI 6)
def wayP (is: List Ins) (k: Nat): Nat := if k % 2=0 then(insAt is (k / 2)).out else(insAt is (k / 2)).arg
def leadI (i: Ins) (k v: Nat): Ins := if k % 2=0 then{i with out := v}else{i with arg := v}
def leadP (is: List Ins) (k v: Nat): List Ins := is.set (k / 2) (leadI (insAt is (k / 2)) k v)
def patchL (is: List Ins) (ms: List Nat) (t: Nat): List Ins := ms.foldl (fun is k=>leadP is k t) is
def Chain (is: List Ins): Nat->List Nat->Prop
 |e,[]=>e=0
 |e,k::r=>e=k/\k≠0/\k / 2<is.length/\Chain is (wayP is k) r
structure Part where
 f: Fr
 ms: List Nat
def noneF: Fr := ⟨0,0,0,false⟩
def oneF (n k: Nat) (nl: Bool): Fr := ⟨n,k,k,nl⟩
def joinI (is: List Ins) (a0 a1 b0: Nat): List Ins := if a0=0 then is else if b0=0 then is else leadP is a1 b0
def joinE (a0 a1 b0 b1: Nat): Nat×Nat := if a0=0 then(b0,b1)else if b0=0 then(a0,a1)else(a0,b1)
def isNopP (is: List Ins) (f: Fr): Bool := decide ((insAt is f.b).op=5)&&(decide (f.e0=f.b * 2)&&decide (f.e1=f.b * 2))
def nopP (is: List Ins): List Ins×Part := (is++[opI 5],⟨oneF is.length (is.length * 2) true,[is.length * 2]⟩)
def catP (is: List Ins) (a b: Part): List Ins×Part :=
 if a.f.b=0\/b.f.b=0 then(patchL (patchL is a.ms 0) b.ms 0,⟨noneF,[]⟩)else
 let is' := patchL is a.ms b.f.b
 if isNopP is' a.f then(is',b)else(is',⟨⟨a.f.b,b.f.e0,b.f.e1,a.f.nl&&b.f.nl⟩,b.ms⟩)
def altP (is: List Ins) (a b: Part): List Ins×Part :=
 if a.f.b=0 then(is,b)else if b.f.b=0 then(is,a)else
 let e := joinE a.f.e0 a.f.e1 b.f.e0 b.f.e1
 (joinI (is++[(⟨0,a.f.b,b.f.b,0,0,false⟩: Ins)]) a.f.e0 a.f.e1 b.f.e0,⟨⟨is.length,e.1,e.2,a.f.nl||b.f.nl⟩,a.ms++b.ms⟩)
def choiceI (begin_: Nat) (lazy: Bool): Ins := if lazy then⟨0,0,begin_,0,0,false⟩else⟨0,begin_,0,0,0,false⟩
def pastOf (n: Nat) (lazy: Bool): Nat := if lazy then n * 2 else n * 2+1
def plusP (is: List Ins) (a: Part) (lazy: Bool): List Ins×Part :=
 if a.f.b=0 then(is,⟨noneF,[]⟩)else
 (patchL (is++[choiceI a.f.b lazy]) a.ms is.length,⟨oneF a.f.b (pastOf is.length lazy) a.f.nl,[pastOf is.length lazy]⟩)
def questP (is: List Ins) (a: Part) (lazy: Bool): List Ins×Part :=
 if a.f.b=0 then nopP is else
 let p := pastOf is.length lazy
 let e := joinE p p a.f.e0 a.f.e1
 (joinI (is++[choiceI a.f.b lazy]) p p a.f.e0,⟨⟨is.length,e.1,e.2,true⟩,p::a.ms⟩)
def starP (is: List Ins) (a: Part) (lazy: Bool): List Ins×Part :=
 if a.f.b=0 then nopP is else
 if a.f.nl then(let r := plusP is a lazy;questP r.1 r.2 lazy)else
 (patchL (is++[choiceI a.f.b lazy]) a.ms is.length,⟨oneF is.length (pastOf is.length lazy) true,[pastOf is.length lazy]⟩)
def capP (is: List Ins) (a: Part) (g: Nat) (rev: Bool): List Ins×Part :=
 if a.f.b=0 then(is,⟨noneF,[]⟩)else
 (patchL (is++[⟨2,a.f.b,if rev then 2 * g+1 else 2 * g,0,0,false⟩,⟨2,0,if rev then 2 * g else 2 * g+1,0,0,false⟩]) a.ms (is.length+1),
  ⟨oneF is.length ((is.length+1) * 2) a.f.nl,[(is.length+1) * 2]⟩)
def part (l: List Part) (k: Nat): Part := l.getD k ⟨noneF,[]⟩
def made (is: List Ins) (o: Ord) (l: List Part) (r: Row) (rev: Bool): List Ins×Part := match o with
 |.cat=>catP is (part l 0) (part l 1)
 |.alt=>altP is (part l 0) (part l 1)
 |.star=>starP is (part l 0) r.lazy
 |.quest=>questP is (part l 0) r.lazy
 |.plus=>plusP is (part l 0) r.lazy
 |.capture=>capP is (part l 0) (1+min r.s0 r.s1 / 2) rev
 |.empty=>(is++[⟨3,0,r.bits,0,0,false⟩],⟨oneF is.length (is.length * 2) true,[is.length * 2]⟩)
 |.nop=>nopP is
 |.none=>(is,⟨noneF,[]⟩)
 |.range=>(is++[⟨1,0,0,r.lo,r.hi,r.fold⟩],⟨oneF is.length (is.length * 2) false,[is.length * 2]⟩)
abbrev Conf := Nat×Nat×Kept
def ways (i: Ins) (at_: Nat) (k: Kept) (text holds: List Nat): List Conf :=
 if i.op=0 then[(i.out,at_,k),(i.arg,at_,k)]else
 if i.op=5||(i.op=3&&emptyAt i.arg holds at_)then[(i.out,at_,k)]else
 if i.op=2 then[(i.out,at_,kept k (kMark (i.arg-2) at_))]else
 if i.op=1&&rangeAt i.low i.high i.fold text at_ then[(i.out,at_+1,k)]else[]
inductive Dfs (is: List Ins) (text holds: List Nat): List Conf->List (Nat×Nat)->List Way->List Way->Prop
 |done {met found}: Dfs is text holds [] met found found
 |old {n a k left met found res}: (n,a)∈met->left.length<=1000->Dfs is text holds left met found res->Dfs is text holds ((n,a,k)::left) met found res
 |new {n a k left met found res}: (n,a)∉met->n<is.length->a<=text.length->left.length<=1000->met.length<=1000->found.length<=1000->
   Dfs is text holds (ways (insAt is n) a k text holds++left) ((n,a)::met) (if(insAt is n).op=4 then found++[(a,k)]else found) res->Dfs is text holds ((n,a,k)::left) met found res
theorem firstGo_sub: ∀(l: List Way) (met: List Nat) (p: Way),p∈firstGo met l->p∈l/\p.1∉met
 |[],_,_,h=>by simp[firstGo]at h
 |(e,k)::r,met,p,h=>by
  unfold firstGo at h
  split at h
  ·obtain⟨a,b⟩ := firstGo_sub r met p h;exact⟨List.mem_cons_of_mem _ a,b⟩
  ·rename_i hc
   rcases List.mem_cons.mp h with rfl|h
   ·exact⟨List.mem_cons_self ..,by simpa using hc⟩
   ·obtain⟨a,b⟩ := firstGo_sub r _ p h
    exact⟨List.mem_cons_of_mem _ a,fun q=>b (List.mem_append_left _ q)⟩
theorem first_sub {l: List Way} {p: Way} (h: p∈first l): p∈l := (firstGo_sub l [] p h).1
theorem firstGo_nodup: ∀(l: List Way) (met: List Nat),((firstGo met l).map (·.1)).Nodup
 |[],_=>by simp[firstGo]
 |(e,k)::r,met=>by
  unfold firstGo
  split
  ·exact firstGo_nodup r met
  ·rw[List.map_cons,List.nodup_cons]
   refine⟨fun h=>?_,firstGo_nodup r _⟩
   obtain⟨p,hp,he⟩ := List.mem_map.mp h
   exact(firstGo_sub r _ p hp).2 (by dsimp only at he;rw[he];simp)
theorem first_nodup (l: List Way): ((first l).map (·.1)).Nodup := firstGo_nodup l []
theorem nodup_sub_len {α: Type} [DecidableEq α]: ∀{l m: List α},l.Nodup->(∀ x∈l,x∈m)->l.length<=m.length
 |[],_,_,_=>by simp
 |x::r,m,nd,h=>by
  rw[List.nodup_cons]at nd
  have hx := h x (List.mem_cons_self ..)
  have := nodup_sub_len (m := m.erase x) nd.2 (fun y hy=>by
   have hne: y≠x := fun e=>nd.1 (e▸hy)
   exact(List.mem_erase_of_ne hne).mpr (h y (List.mem_cons_of_mem _ hy)))
  rw[List.length_erase_of_mem hx]at this
  have := List.length_pos_of_mem hx
  simp only[List.length_cons];omega
theorem nodup_len {N: Nat} {l: List Nat} (nd: l.Nodup) (h: ∀ x∈l,x<N): l.length<=N := by
 have := nodup_sub_len nd (m := List.range N) (fun x hx=>List.mem_range.mpr (h x hx))
 simpa using this
theorem first_len {N: Nat} {l: List Way} (h: ∀ p∈l,p.1<N): (first l).length<=N := by
 have := nodup_len (first_nodup l) (N := N) (fun x hx=>by
  obtain⟨p,hp,rfl⟩ := List.mem_map.mp hx
  exact h p (first_sub hp))
 simpa using this
def Wf (N: Nat) (l: List Way): Prop := l.length<=5/\∀ p∈l,p.1<N/\p.2.length<=4
def WfT (N: Nat) (t: Table): Prop := t.length=N/\∀ l∈t,Wf N l
theorem Wf.nil {N: Nat}: Wf N [] := ⟨by simp,by simp⟩
theorem kept_len {a b: Kept} (h: b.length<=4): (kept a b).length<=4 := by
 unfold kept;simp;omega
theorem kMark_len (s a: Nat): (kMark s a).length=4 := rfl
theorem first_wf {N: Nat} {l: List Way} (hN: N<=5) (h: ∀ p∈l,p.1<N/\p.2.length<=4): Wf N (first l) :=
 ⟨Nat.le_trans (first_len fun p hp=>(h p hp).1) hN,fun p hp=>h p (first_sub hp)⟩
theorem row_wf {N: Nat} {t: Table} (h: WfT N t) (k: Nat): Wf N (row t k) := by
 unfold row
 rw[List.getD_eq_getElem?_getD]
 cases e: t[k]? with
 |none=>exact .nil
 |some l=>exact h.2 l (List.mem_of_getElem? e)
theorem joinedAll_wf {N: Nat} {l: List Way} {t: Table} (ht: WfT N t): ∀ p∈joinedAll l t,p.1<N/\p.2.length<=4 := by
 intro p hp
 obtain⟨q,hq,hp⟩ := List.mem_flatMap.mp hp
 obtain⟨r,hr,rfl⟩ := List.mem_map.mp hp
 have := (row_wf ht q.1).2 r hr
 exact⟨this.1,kept_len this.2⟩
theorem joined_wf {N: Nat} {l: List Way} {t: Table} (hN: N<=5) (ht: WfT N t): Wf N (joined l t) := first_wf hN (joinedAll_wf ht)
theorem loopOne_wf {N: Nat} {f: Table} {lazy: Bool} {a: Nat} {p: Way} (hN: N<=5) (hf: WfT N f) (hp: p.1<N/\p.2.length<=4): ∀ q∈loopOne f lazy a p,q.1<N/\q.2.length<=4 := by
 intro q hq
 unfold loopOne at hq
 have hm: ∀ q∈(if a<p.1 then joined [p] f else[]),q.1<N/\q.2.length<=4 := fun q hq=>by
  split at hq
  ·exact(joined_wf hN hf).2 q hq
  ·simp at hq
 dsimp only at hq
 split at hq<;>rcases List.mem_append.mp hq with h|h
 ·rw[List.mem_singleton]at h;subst h;exact hp
 ·exact hm q h
 ·exact hm q h
 ·rw[List.mem_singleton]at h;subst h;exact hp
theorem loopOne_len {N: Nat} {f: Table} {lazy: Bool} {a: Nat} {p: Way} (hN: N<=5) (hf: WfT N f): (loopOne f lazy a p).length<=6 := by
 unfold loopOne
 have: (if a<p.1 then joined [p] f else[]).length<=5 := by
  split
  ·exact(joined_wf hN hf).1
  ·simp
 dsimp only
 split<;>simp<;>omega
theorem flat_len {α β: Type} {f: α->List β} {c: Nat} (h: ∀ x,(f x).length<=c): ∀ l: List α,(l.flatMap f).length<=l.length * c
 |[]=>by simp
 |x::r=>by
  have := flat_len h r
  have := h x
  simp only[List.flatMap_cons,List.length_append,List.length_cons,Nat.add_mul];omega
theorem loopStep_wf {N: Nat} {t f: Table} {lazy: Bool} {a: Nat} (hN: N<=5) (ht: WfT N t) (hf: WfT N f): WfT N (loopStep t lazy f a) := by
 refine⟨by unfold loopStep;rw[List.length_set];exact hf.1,fun l hl=>?_⟩
 unfold loopStep at hl
 rcases List.mem_or_eq_of_mem_set hl with h|rfl
 ·exact hf.2 l h
 ·refine first_wf hN fun q hq=>?_
  obtain⟨p,hp,hq⟩ := List.mem_flatMap.mp hq
  exact loopOne_wf hN hf ((row_wf ht a).2 p hp) q hq
theorem loops_wf {N: Nat} {t: Table} {lazy: Bool} (hN: N<=5) (ht: WfT N t): WfT N (loops t lazy) := by
 unfold loops
 have: ∀(as: List Nat) (f: Table),WfT N f->WfT N (as.foldl (loopStep t lazy) f) := by
  intro as
  induction as with
  |nil=>intro f hf;exact hf
  |cons a r ih=>intro f hf;exact ih _ (loopStep_wf hN ht hf)
 exact this _ _ ⟨by simpa using ht.1,fun l hl=>by obtain⟨_,_,rfl⟩ := List.mem_map.mp hl;exact .nil⟩
theorem map_table_wf {N: Nat} {f: Nat->List Way} (h: ∀ a<N,Wf N (f a)): WfT N ((List.range N).map f) :=
 ⟨by simp,fun l hl=>by obtain⟨a,ha,rfl⟩ := List.mem_map.mp hl;exact h a (List.mem_range.mp ha)⟩
theorem append_wf {N: Nat} {a b: List Way} (ha: ∀ p∈a,p.1<N/\p.2.length<=4) (hb: ∀ p∈b,p.1<N/\p.2.length<=4): ∀ p∈a++b,p.1<N/\p.2.length<=4 := fun p hp=>by
 rcases List.mem_append.mp hp with h|h
 ·exact ha p h
 ·exact hb p h
theorem single_wf {N a: Nat} (h: a<N): ∀ p∈[(a,kNone)],p.1<N/\p.2.length<=4 := fun p hp=>by
 rw[List.mem_singleton]at hp;subst hp;exact⟨h,by simp[kNone]⟩
theorem tab_wf {N: Nat} {l: List Table} (h: ∀ t∈l,WfT N t) (k: Nat) (hk: k<l.length): WfT N (tab l k) := by
 unfold tab;rw[List.getD_eq_getElem?_getD,List.getElem?_eq_getElem hk];exact h _ (List.getElem_mem hk)
def many: Ord->Nat
 |.cat=>2|.alt=>2|.star=>1|.quest=>1|.plus=>1|.capture=>1|_=>0
theorem insAt_set {is: List Ins} {k: Nat} {i: Ins} (h: k<is.length) (j: Nat): insAt (is.set k i) j=if j=k then i else insAt is j := by
 unfold insAt
 rw[List.getD_eq_getElem?_getD,List.getD_eq_getElem?_getD,List.getElem?_set]
 by_cases e: k=j
 ·subst e;rw[if_pos rfl,if_pos h,if_pos rfl];rfl
 ·rw[if_neg e,if_neg (fun q=>e q.symm)]
theorem insAt_push {is: List Ins} {i: Ins} (j: Nat): insAt (is++[i]) j=if j=is.length then i else insAt is j := by
 unfold insAt
 rw[List.getD_eq_getElem?_getD,List.getD_eq_getElem?_getD]
 by_cases e: j=is.length
 ·subst e;rw[if_pos rfl,List.getElem?_append_right (Nat.le_refl _)];simp
 ·rw[if_neg e]
  by_cases g: j<is.length
  ·rw[List.getElem?_append_left g]
  ·rw[List.getElem?_append_right (by omega),List.getElem?_eq_none (by simp;omega),List.getElem?_eq_none (by omega)]
theorem leadP_len (is: List Ins) (k v: Nat): (leadP is k v).length=is.length := by unfold leadP;rw[List.length_set]
theorem patchL_len: ∀(ms: List Nat) (is: List Ins) (t: Nat),(patchL is ms t).length=is.length
 |[],_,_=>rfl
 |k::r,is,t=>(patchL_len r (leadP is k t) t).trans (leadP_len is k t)
theorem wayP_lead {is: List Ins} {k: Nat} (v: Nat) (h: k / 2<is.length) (j: Nat): wayP (leadP is k v) j=if j=k then v else wayP is j := by
 unfold wayP leadP
 rw[insAt_set h]
 by_cases e: j / 2=k / 2
 ·rw[if_pos e]
  unfold leadI
  by_cases e1: j % 2=0<;>by_cases e2: k % 2=0
  ·have: j=k := by omega
   subst this;simp[e1]
  ·have: j≠k := by omega
   simp[e1,e2,this,e]
  ·have: j≠k := by omega
   simp[e1,e2,this,e]
  ·have: j=k := by omega
   subst this;simp[e1]
 ·have: j≠k := by omega
  rw[if_neg e,if_neg this]
theorem Chain.lead {is: List Ins} {k: Nat} (v: Nat) (h: k / 2<is.length): ∀{ms: List Nat} {e: Nat},k∉ms->Chain is e ms->Chain (leadP is k v) e ms
 |[],_,_,c=>c
 |j::r,e,hk,⟨c1,c2,c3,c4⟩=>by
  have hj: j≠k := fun q=>hk (q▸List.mem_cons_self ..)
  refine⟨c1,c2,by rw[leadP_len];exact c3,?_⟩
  rw[wayP_lead v h,if_neg hj]
  exact Chain.lead v h (fun q=>hk (List.mem_cons_of_mem _ q)) c4
theorem Chain.mem {is: List Ins}: ∀{ms: List Nat} {e: Nat},Chain is e ms->∀ k∈ms,k≠0/\k / 2<is.length
 |[],_,_,_,h=>by simp at h
 |j::r,e,⟨c1,c2,c3,c4⟩,k,h=>by
  rcases List.mem_cons.mp h with rfl|h
  ·exact⟨c2,c3⟩
  ·exact Chain.mem c4 k h
theorem wayP_patch: ∀{ms: List Nat} {is: List Ins} (t: Nat),(∀ k∈ms,k / 2<is.length)->∀ j,wayP (patchL is ms t) j=if j∈ms then t else wayP is j
 |[],is,t,_,j=>by simp[patchL]
 |k::r,is,t,h,j=>by
  have := wayP_patch (ms := r) (is := leadP is k t) t (fun k' hk=>by rw[leadP_len];exact h k' (List.mem_cons_of_mem _ hk)) j
  show wayP (patchL (leadP is k t) r t) j=_
  rw[this,wayP_lead t (h k (List.mem_cons_self ..))]
  by_cases e1: j∈r
  ·simp[e1]
  ·by_cases e2: j=k<;>simp[e1,e2]
theorem Chain.patch {e: Nat} {ms: List Nat} (t: Nat): ∀{qs: List Nat} {is: List Ins},(∀ k∈qs,k / 2<is.length/\k∉ms)->Chain is e ms->Chain (patchL is qs t) e ms
 |[],_,_,c=>c
 |k::r,is,h,c=>Chain.patch t (qs := r) (fun k' hk=>by rw[leadP_len];exact h k' (List.mem_cons_of_mem _ hk)) (c.lead t (h k (List.mem_cons_self ..)).1 (h k (List.mem_cons_self ..)).2)
theorem Chain.push {is: List Ins} (i: Ins): ∀{ms: List Nat} {e: Nat},Chain is e ms->Chain (is++[i]) e ms
 |[],_,c=>c
 |k::r,e,⟨c1,c2,c3,c4⟩=>by
  refine⟨c1,c2,by simp;omega,?_⟩
  have: wayP (is++[i]) k=wayP is k := by unfold wayP;simp only[insAt_push,if_neg (show ¬ k / 2=is.length by omega)]
  rw[this];exact Chain.push i c4
structure Same (i j: Ins): Prop where
 op: i.op=j.op
 low: i.low=j.low
 high: i.high=j.high
 fold: i.fold=j.fold
 arg: i.op≠0->i.arg=j.arg
structure PartOk (is: List Ins) (p: Part): Prop where
 ch: Chain is p.f.e0 p.ms
 nd: p.ms.Nodup
 b: p.f.b<is.length
 last: p.f.e0≠0->p.f.e1 / 2<is.length
theorem past_way (n b: Nat) (lazy: Bool) (is: List Ins) (h: is.length=n): wayP (is++[choiceI b lazy]) (pastOf n lazy)=0 := by
 subst h
 cases lazy
 ·have e: (is.length * 2+1) / 2=is.length := by omega
  have e': (is.length * 2+1) % 2=1 := by omega
  simp[wayP,pastOf,choiceI,insAt_push,e,e']
 ·have e: (is.length * 2) / 2=is.length := by omega
  simp[wayP,pastOf,choiceI,insAt_push,e]
theorem past_half (n: Nat) (lazy: Bool): pastOf n lazy / 2=n := by cases lazy<;>simp[pastOf]<;>omega
theorem past_mem {is: List Ins} {e: Nat} {ms: List Nat} (c: Chain is e ms) (lazy: Bool): pastOf is.length lazy∉ms := fun h=>by
 have := (c.mem _ h).2
 rw[past_half]at this;omega
theorem plus_ok {is: List Ins} {a: Part} (pa: PartOk is a) (lazy: Bool) (h: a.f.b≠0): PartOk (plusP is a lazy).1 (plusP is a lazy).2 := by
 have hl: (plusP is a lazy).1.length=is.length+1 := by unfold plusP;rw[if_neg h];simp[patchL_len]
 have hb := pa.b
 refine⟨?_,?_,?_,?_⟩
 ·have hw: wayP (plusP is a lazy).1 (pastOf is.length lazy)=0 := by
   unfold plusP;rw[if_neg h];dsimp only
   rw[wayP_patch _ (fun k hk=>by have := (pa.ch.mem k hk).2;simp;omega),if_neg (past_mem pa.ch lazy),past_way _ _ _ _ rfl]
  have hr: (plusP is a lazy).2=⟨oneF a.f.b (pastOf is.length lazy) a.f.nl,[pastOf is.length lazy]⟩ := by unfold plusP;rw[if_neg h]
  rw[hr]
  refine⟨rfl,fun e=>?_,by rw[past_half,hl];omega,hw⟩
  have := past_half is.length lazy
  rw[e]at this;omega
 ·unfold plusP;rw[if_neg h];simp
 ·rw[hl];unfold plusP;rw[if_neg h];simp[oneF];omega
 ·intro _;rw[hl];unfold plusP;rw[if_neg h];simp[oneF,past_half]
def shpOf (p: Part): Shape := (decide (p.f.b=0),p.f.nl)
theorem joinI_len (is: List Ins) (a b c: Nat): (joinI is a b c).length=is.length := by
 unfold joinI;split
 ·rfl
 ·split
  ·rfl
  ·exact leadP_len ..
theorem made_len {is: List Ins} {o: Ord} {l: List Part} {row: Row} {rev: Bool} (hm: l.length=many o) (ok: ∀ p∈l,p.f.b=0->p.f.nl=false): (made is o l row rev).1.length=is.length+needs o (l.map shpOf) := by
 have quest_len: ∀ is (a: Part) lazy,(questP is a lazy).1.length=is.length+1 := by
  intro is a lazy
  unfold questP nopP
  split
  ·simp
  ·simp[joinI_len]
 cases o<;>simp only[many]at hm
 case range=>simp[made,needs]
 case nop=>simp[made,needs,nopP]
 case none=>simp[made,needs]
 case empty=>simp[made,needs]
 case cat=>
  match l,hm with
  |[a,b],_=>
   simp only[made,needs,part,catP,List.getD_cons_zero,List.getD_cons_succ]
   by_cases x: a.f.b=0\/b.f.b=0
   ·simp[if_pos x,patchL_len]
   ·simp only[if_neg x]
    cases isNopP (patchL is a.ms b.f.b) a.f<;>simp[patchL_len]
 case alt=>
  match l,hm with
  |[a,b],_=>
   simp only[made,needs,part,altP,List.getD_cons_zero,List.getD_cons_succ]
   by_cases x: a.f.b=0
   ·simp[x,shpOf]
   ·by_cases y: b.f.b=0
    ·simp[x,y,shpOf]
    ·simp[x,y,shpOf,joinI_len]
 case plus=>
  match l,hm with
  |[a],_=>
   simp only[made,needs,part,plusP,List.getD_cons_zero]
   by_cases x: a.f.b=0<;>simp[x,shpOf,patchL_len]
 case quest=>
  match l,hm with
  |[a],_=>
   simp only[made,needs,part,List.getD_cons_zero]
   exact quest_len ..
 case star=>
  match l,hm with
  |[a],_=>
   have := ok a (by simp)
   simp only[made,needs,part,starP,List.getD_cons_zero]
   by_cases x: a.f.b=0
   ·simp[x,shpOf,shp,this x,nopP]
   ·simp only[if_neg x]
    cases hz: a.f.nl
    ·simp[shpOf,shp,hz,patchL_len]
    ·simp[shpOf,shp,hz,quest_len,plusP,x,patchL_len]
 case capture=>
  match l,hm with
  |[a],_=>
   simp only[made,needs,part,capP,List.getD_cons_zero]
   by_cases x: a.f.b=0<;>simp[x,shpOf,patchL_len]
theorem needs_le {o: Ord} {l: List Shape}: needs o l<=2 := by
 cases o<;>simp[needs]<;>split<;>omega
structure Item where
 part: Part
 sh: Shape
 tb: Table
 calm: Bool
structure RowOk (rev: Bool) (r: Row): Prop where
 rng: r.lo<=r.hi/\r.hi<=255
 bits: r.bits≠0/\r.bits&&& 63=r.bits
 slots: ∃ g,g<=1/\r.s0=(if rev then 2 * g+1 else 2 * g)/\r.s1=(if rev then 2 * g else 2 * g+1)
structure TextOk (text holds: List Nat): Prop where
 len: text.length<=4
 byte: ∀ x∈text,x<256
 holds: holds.length=5
def calmOf (o: Ord) (given: List Item): Bool := given.all (·.calm)&&!((o==.star||o==.plus)&&(shp (given.map (·.sh)) 0).2)
def newItem (is: List Ins) (o: Ord) (given: List Item) (r: Row) (rev: Bool) (text holds: List Nat): Item :=
 ⟨(made is o (given.map (·.part)) r rev).2,shape o (given.map (·.sh)),meant o (given.map (·.tb)) r text holds,calmOf o given⟩
def matchPart (n: Nat): Part := ⟨⟨n,0,0,false⟩,[]⟩
def wholeP (is: List Ins) (it: Item): List Ins×Part := catP (is++[opI 4]) it.part (matchPart is.length)
structure InsOk (i: Ins) (N: Nat): Prop where
 range: i.op=1->i.low<=i.high/\i.high<=255
 cap: i.op=2->2<=i.arg
 empty: i.op=3->i.arg≠0/\i.arg&&& 63=i.arg
 out: i.op≠4->i.op≠6->i.out<N
 alt: i.op=0->i.arg<N
structure ItemOk (N: Nat) (is: List Ins) (it: Item): Prop where
 ok: PartOk is it.part
 nl: it.part.f.b=0->it.part.f.nl=false
 sh: shpOf it.part=it.sh
 wf: WfT N it.tb
structure LawInv (Inv: List Nat->List Nat->List Ins->List Item->Prop): Prop where
 init: ∀ text holds,TextOk text holds->Inv text holds [opI 6] []
 step: ∀{text holds is heap given o r rev},TextOk text holds->Inv text holds is (heap++given)->given.length=many o->(o≠.cat->RowOk rev r)->is.length<=100->
  Inv text holds (made is o (given.map (·.part)) r rev).1 (heap++[newItem is o given r rev text holds])
 items: ∀{text holds is items},TextOk text holds->Inv text holds is items->(∀ it∈items,ItemOk (text.length+1) is it)/\items.Pairwise fun a b=>∀ k∈a.part.ms,k∉b.part.ms
 fin: ∀{text holds is it},TextOk text holds->Inv text holds is [it]->is.length<=60->(insAt (wholeP is it).1 0).op=6/\(∀ k<(wholeP is it).1.length,InsOk (insAt (wholeP is it).1 k) (wholeP is it).1.length)/\(wholeP is it).2.f.b<(wholeP is it).1.length/\
  ∃ res,Dfs (wholeP is it).1 text holds [((wholeP is it).2.f.b,0,kNone)] [] [] res/\(it.calm=true->res=row it.tb 0)/\(res.map (·.1)).Perm ((row it.tb 0).map (·.1))
end Mine
end
section
open PySem PySem.W PyProof.Rows
namespace Mine
def Gd (W: Wd): Prop := W.Ok/\∃ P,W.K=hd.heap_39 P
def is00: List Value->Bool
 |[.int i _,.int j _]=>decide (i=0)&&decide (j=0)
 |_=>false
def isT00 (x: Option Obj): Bool := match x with
 |some o=>(match o.cls with|.type c=>c=="tuple"|_=>false)&&(match o.data with|.seq vs _=>is00 vs.toList|_=>false)
 |none=>false
theorem isT00_rep {g: Hp} {a: Addr} {x: Option Obj} (h: isT00 x=true) (e: ∀ o,x=some o->g a=some o): Rep g (.tup [.int 0,.int 0]) (.ref a) := by
 unfold isT00 at h
 split at h
 ·rename_i o
  rw[Bool.and_eq_true]at h
  obtain⟨h1,h2⟩ := h
  split at h1
  ·rename_i c hc
   split at h2
   ·rename_i vs n hd
    have hc': o.cls=.type "tuple" := by rw[hc,eq_of_beq h1]
    unfold is00 at h2
    split at h2
    ·rename_i i t j u hv
     rw[Bool.and_eq_true,decide_eq_true_eq,decide_eq_true_eq]at h2
     obtain⟨rfl,rfl⟩ := h2
     refine .tup (vs := [.int 0 t,.int 0 u]) (n := n) (e _ rfl) hc' ?_ (.cons (.int _ _) (.cons (.int _ _) .nil))
     rw[hd,<-hv]
    ·cases h2
   ·cases h2
  ·cases h1
 ·cases h
section
variable {W: Wd}
theorem Gd.base (G: Gd W): ∃ fd,Base W 45 32 29 fd T0 := by
 obtain⟨WO,P,hK⟩ := G
 exact base_K W P WO hK
theorem Gd.zip (G: Gd W) (n: Nat): ZipOk W 45 n := by
 obtain⟨WO,P,hK⟩ := G
 exact zip_ok WO (mg_none_of WO.kin WO.ng (by rw[hK];kernel_rfl)) (by rw[WO.bt _ (by decide)];rfl)
theorem Gd.f119 (G: Gd W): Rep W.h₀.get? (.tup [.int 0,.int 0]) (.ref 119) := by
 obtain⟨WO,P,hK⟩ := G
 exact isT00_rep (x := W.K.lookup 119) (by rw[hK];kernel_rfl) (fun o h=>WO.kin _ _ h)
theorem Gd.k_Inst_init (G: Gd W): FnB W 62 [Str.ofString "self",Str.ofString "op",Str.ofString "out",Str.ofString "arg",Str.ofString "low",Str.ofString "high",Str.ofString "is_folded"] [222936110,14689,1962331,1745597,2011477,227146788,7806419509700087986] 2 [.int 0 265,.int 0 266,.int 0 267,.int 0 268,.bool false] c_Inst_init := by
 obtain⟨_,P,hK⟩ := G
 exact⟨⟨_,_,fnK_of (by rw[hK];rfl) rfl (by rw[hK];kernel_rfl),by kernel_rfl,by kernel_rfl,fun s vs X hv=>by
  match vs,hv with
  |[v0,v1],_=>exact binds_peek X (fun S=>by rw[hK];kernel_rfl)⟩,by kernel_rfl,by decide,rfl⟩
theorem Gd.k_Program_init (G: Gd W): FnB W 83 [Str.ofString "self"] [222936110] 1 [] c_Program_init := by
 obtain⟨_,P,hK⟩ := G
 exact⟨⟨_,_,fnK_of (by rw[hK];rfl) rfl (by rw[hK];kernel_rfl),by kernel_rfl,by kernel_rfl,fun s vs X hv=>by
  match vs,hv with
  |[v0],_=>exact binds_peek X (fun S=>by rw[hK];kernel_rfl)⟩,by kernel_rfl,by decide,rfl⟩
theorem Gd.k_program_heads (G: Gd W): FnB W 97 [Str.ofString "prog"] [225134396] 1 [] c_program_heads := by
 obtain⟨_,P,hK⟩ := G
 exact⟨⟨_,_,fnK_of (by rw[hK];rfl) rfl (by rw[hK];kernel_rfl),by kernel_rfl,by kernel_rfl,fun s vs X hv=>by
  match vs,hv with
  |[v0],_=>exact binds_peek X (fun S=>by rw[hK];kernel_rfl)⟩,by kernel_rfl,by decide,rfl⟩
theorem Gd.k_inst_fault (G: Gd W): FnB W 104 [Str.ofString "inst"] [253107394] 1 [] c_inst_fault := by
 obtain⟨_,P,hK⟩ := G
 exact⟨⟨_,_,fnK_of (by rw[hK];rfl) rfl (by rw[hK];kernel_rfl),by kernel_rfl,by kernel_rfl,fun s vs X hv=>by
  match vs,hv with
  |[v0],_=>exact binds_peek X (fun S=>by rw[hK];kernel_rfl)⟩,by kernel_rfl,by decide,rfl⟩
theorem Gd.k_program_ways_fault (G: Gd W): FnB W 111 [Str.ofString "prog",Str.ofString "number",Str.ofString "heads"] [225134396,4136611441551,32341513866] 3 [] c_program_ways_fault := by
 obtain⟨_,P,hK⟩ := G
 exact⟨⟨_,_,fnK_of (by rw[hK];rfl) rfl (by rw[hK];kernel_rfl),by kernel_rfl,by kernel_rfl,fun s vs X hv=>by
  match vs,hv with
  |[v0,v1,v2],_=>exact binds_peek X (fun S=>by rw[hK];kernel_rfl)⟩,by kernel_rfl,by decide,rfl⟩
theorem Gd.k_program_faults (G: Gd W): FnB W 118 [Str.ofString "prog"] [225134396] 1 [] c_program_faults := by
 obtain⟨_,P,hK⟩ := G
 exact⟨⟨_,_,fnK_of (by rw[hK];rfl) rfl (by rw[hK];kernel_rfl),by kernel_rfl,by kernel_rfl,fun s vs X hv=>by
  match vs,hv with
  |[v0],_=>exact binds_peek X (fun S=>by rw[hK];kernel_rfl)⟩,by kernel_rfl,by decide,rfl⟩
theorem Gd.k_Frag_init (G: Gd W): FnB W 134 [Str.ofString "self",Str.ofString "begin",Str.ofString "ends",Str.ofString "is_nullable"] [222936110,30967732746,250711086,131251851267392784618517] 2 [.ref 119,.bool false] c_Frag_init := by
 obtain⟨_,P,hK⟩ := G
 exact⟨⟨_,_,fnK_of (by rw[hK];rfl) rfl (by rw[hK];kernel_rfl),by kernel_rfl,by kernel_rfl,fun s vs X hv=>by
  match vs,hv with
  |[v0,v1],_=>exact binds_peek X (fun S=>by rw[hK];kernel_rfl)⟩,by kernel_rfl,by decide,rfl⟩
theorem Gd.k_Maker_init (G: Gd W): FnB W 155 [Str.ofString "self",Str.ofString "most"] [222936110,253107527] 2 [] c_Maker_init := by
 obtain⟨_,P,hK⟩ := G
 exact⟨⟨_,_,fnK_of (by rw[hK];rfl) rfl (by rw[hK];kernel_rfl),by kernel_rfl,by kernel_rfl,fun s vs X hv=>by
  match vs,hv with
  |[v0,v1],_=>exact binds_peek X (fun S=>by rw[hK];kernel_rfl)⟩,by kernel_rfl,by decide,rfl⟩
theorem Gd.k_need (G: Gd W): FnB W 162 [Str.ofString "self",Str.ofString "many"] [222936110,263755961] 2 [] c_need := by
 obtain⟨_,P,hK⟩ := G
 exact⟨⟨_,_,fnK_of (by rw[hK];rfl) rfl (by rw[hK];kernel_rfl),by kernel_rfl,by kernel_rfl,fun s vs X hv=>by
  match vs,hv with
  |[v0,v1],_=>exact binds_peek X (fun S=>by rw[hK];kernel_rfl)⟩,by kernel_rfl,by decide,rfl⟩
theorem Gd.k_new (G: Gd W): FnB W 169 [Str.ofString "self",Str.ofString "op"] [222936110,14689] 2 [] c_new := by
 obtain⟨_,P,hK⟩ := G
 exact⟨⟨_,_,fnK_of (by rw[hK];rfl) rfl (by rw[hK];kernel_rfl),by kernel_rfl,by kernel_rfl,fun s vs X hv=>by
  match vs,hv with
  |[v0,v1],_=>exact binds_peek X (fun S=>by rw[hK];kernel_rfl)⟩,by kernel_rfl,by decide,rfl⟩
theorem Gd.k_way (G: Gd W): FnB W 176 [Str.ofString "self",Str.ofString "mark"] [222936110,233768879] 2 [] c_way := by
 obtain⟨_,P,hK⟩ := G
 exact⟨⟨_,_,fnK_of (by rw[hK];rfl) rfl (by rw[hK];kernel_rfl),by kernel_rfl,by kernel_rfl,fun s vs X hv=>by
  match vs,hv with
  |[v0,v1],_=>exact binds_peek X (fun S=>by rw[hK];kernel_rfl)⟩,by kernel_rfl,by decide,rfl⟩
theorem Gd.k_lead (G: Gd W): FnB W 183 [Str.ofString "self",Str.ofString "mark",Str.ofString "value"] [222936110,233768879,28501269794] 3 [] c_lead := by
 obtain⟨_,P,hK⟩ := G
 exact⟨⟨_,_,fnK_of (by rw[hK];rfl) rfl (by rw[hK];kernel_rfl),by kernel_rfl,by kernel_rfl,fun s vs X hv=>by
  match vs,hv with
  |[v0,v1,v2],_=>exact binds_peek X (fun S=>by rw[hK];kernel_rfl)⟩,by kernel_rfl,by decide,rfl⟩
theorem Gd.k_patch (G: Gd W): FnB W 190 [Str.ofString "self",Str.ofString "ends",Str.ofString "target"] [222936110,250711086,4208068358925] 3 [] c_patch := by
 obtain⟨_,P,hK⟩ := G
 exact⟨⟨_,_,fnK_of (by rw[hK];rfl) rfl (by rw[hK];kernel_rfl),by kernel_rfl,by kernel_rfl,fun s vs X hv=>by
  match vs,hv with
  |[v0,v1,v2],_=>exact binds_peek X (fun S=>by rw[hK];kernel_rfl)⟩,by kernel_rfl,by decide,rfl⟩
theorem Gd.k_joined (G: Gd W): FnB W 197 [Str.ofString "self",Str.ofString "one",Str.ofString "other"] [222936110,1711813,32066856103] 3 [] c_joined := by
 obtain⟨_,P,hK⟩ := G
 exact⟨⟨_,_,fnK_of (by rw[hK];rfl) rfl (by rw[hK];kernel_rfl),by kernel_rfl,by kernel_rfl,fun s vs X hv=>by
  match vs,hv with
  |[v0,v1,v2],_=>exact binds_peek X (fun S=>by rw[hK];kernel_rfl)⟩,by kernel_rfl,by decide,rfl⟩
theorem Gd.k_ends_one (G: Gd W): FnB W 211 [Str.ofString "mark"] [233768879] 1 [] c_ends_one := by
 obtain⟨_,P,hK⟩ := G
 exact⟨⟨_,_,fnK_of (by rw[hK];rfl) rfl (by rw[hK];kernel_rfl),by kernel_rfl,by kernel_rfl,fun s vs X hv=>by
  match vs,hv with
  |[v0],_=>exact binds_peek X (fun S=>by rw[hK];kernel_rfl)⟩,by kernel_rfl,by decide,rfl⟩
theorem Gd.k_frag_none (G: Gd W): FnB W 218 [] [] 0 [] c_frag_none := by
 obtain⟨_,P,hK⟩ := G
 exact⟨⟨_,_,fnK_of (by rw[hK];rfl) rfl (by rw[hK];kernel_rfl),by kernel_rfl,by kernel_rfl,fun s vs X hv=>by
  match vs,hv with
  |[],_=>exact binds_peek X (fun S=>by rw[hK];kernel_rfl)⟩,by kernel_rfl,by decide,rfl⟩
theorem Gd.k_frag_is_none (G: Gd W): FnB W 225 [Str.ofString "frag"] [224901412] 1 [] c_frag_is_none := by
 obtain⟨_,P,hK⟩ := G
 exact⟨⟨_,_,fnK_of (by rw[hK];rfl) rfl (by rw[hK];kernel_rfl),by kernel_rfl,by kernel_rfl,fun s vs X hv=>by
  match vs,hv with
  |[v0],_=>exact binds_peek X (fun S=>by rw[hK];kernel_rfl)⟩,by kernel_rfl,by decide,rfl⟩
theorem Gd.k_frag_nop (G: Gd W): FnB W 232 [Str.ofString "maker"] [32066903573] 1 [] c_frag_nop := by
 obtain⟨_,P,hK⟩ := G
 exact⟨⟨_,_,fnK_of (by rw[hK];rfl) rfl (by rw[hK];kernel_rfl),by kernel_rfl,by kernel_rfl,fun s vs X hv=>by
  match vs,hv with
  |[v0],_=>exact binds_peek X (fun S=>by rw[hK];kernel_rfl)⟩,by kernel_rfl,by decide,rfl⟩
theorem Gd.k_frag_is_nop (G: Gd W): FnB W 239 [Str.ofString "maker",Str.ofString "frag"] [32066903573,224901412] 2 [] c_frag_is_nop := by
 obtain⟨_,P,hK⟩ := G
 exact⟨⟨_,_,fnK_of (by rw[hK];rfl) rfl (by rw[hK];kernel_rfl),by kernel_rfl,by kernel_rfl,fun s vs X hv=>by
  match vs,hv with
  |[v0,v1],_=>exact binds_peek X (fun S=>by rw[hK];kernel_rfl)⟩,by kernel_rfl,by decide,rfl⟩
theorem Gd.k_frag_empty (G: Gd W): FnB W 254 [Str.ofString "maker",Str.ofString "bits"] [32066903573,250976694] 2 [] c_frag_empty := by
 obtain⟨_,P,hK⟩ := G
 exact⟨⟨_,_,fnK_of (by rw[hK];rfl) rfl (by rw[hK];kernel_rfl),by kernel_rfl,by kernel_rfl,fun s vs X hv=>by
  match vs,hv with
  |[v0,v1],_=>exact binds_peek X (fun S=>by rw[hK];kernel_rfl)⟩,by kernel_rfl,by decide,rfl⟩
theorem Gd.k_frag_match (G: Gd W): FnB W 261 [Str.ofString "maker",Str.ofString "match_id"] [32066903573,60533133266329793] 2 [] c_frag_match := by
 obtain⟨_,P,hK⟩ := G
 exact⟨⟨_,_,fnK_of (by rw[hK];rfl) rfl (by rw[hK];kernel_rfl),by kernel_rfl,by kernel_rfl,fun s vs X hv=>by
  match vs,hv with
  |[v0,v1],_=>exact binds_peek X (fun S=>by rw[hK];kernel_rfl)⟩,by kernel_rfl,by decide,rfl⟩
theorem Gd.k_frag_cat (G: Gd W): FnB W 268 [Str.ofString "maker",Str.ofString "one",Str.ofString "other"] [32066903573,1711813,32066856103] 3 [] c_frag_cat := by
 obtain⟨_,P,hK⟩ := G
 exact⟨⟨_,_,fnK_of (by rw[hK];rfl) rfl (by rw[hK];kernel_rfl),by kernel_rfl,by kernel_rfl,fun s vs X hv=>by
  match vs,hv with
  |[v0,v1,v2],_=>exact binds_peek X (fun S=>by rw[hK];kernel_rfl)⟩,by kernel_rfl,by decide,rfl⟩
theorem Gd.k_frag_alt (G: Gd W): FnB W 275 [Str.ofString "maker",Str.ofString "one",Str.ofString "other"] [32066903573,1711813,32066856103] 3 [] c_frag_alt := by
 obtain⟨_,P,hK⟩ := G
 exact⟨⟨_,_,fnK_of (by rw[hK];rfl) rfl (by rw[hK];kernel_rfl),by kernel_rfl,by kernel_rfl,fun s vs X hv=>by
  match vs,hv with
  |[v0,v1,v2],_=>exact binds_peek X (fun S=>by rw[hK];kernel_rfl)⟩,by kernel_rfl,by decide,rfl⟩
theorem Gd.k_frag_choice (G: Gd W): FnB W 282 [Str.ofString "maker",Str.ofString "begin",Str.ofString "is_lazy"] [32066903573,30967732746,566630696248834] 3 [] c_frag_choice := by
 obtain⟨_,P,hK⟩ := G
 exact⟨⟨_,_,fnK_of (by rw[hK];rfl) rfl (by rw[hK];kernel_rfl),by kernel_rfl,by kernel_rfl,fun s vs X hv=>by
  match vs,hv with
  |[v0,v1,v2],_=>exact binds_peek X (fun S=>by rw[hK];kernel_rfl)⟩,by kernel_rfl,by decide,rfl⟩
theorem Gd.k_frag_plus (G: Gd W): FnB W 289 [Str.ofString "maker",Str.ofString "frag",Str.ofString "is_lazy"] [32066903573,224901412,566630696248834] 3 [] c_frag_plus := by
 obtain⟨_,P,hK⟩ := G
 exact⟨⟨_,_,fnK_of (by rw[hK];rfl) rfl (by rw[hK];kernel_rfl),by kernel_rfl,by kernel_rfl,fun s vs X hv=>by
  match vs,hv with
  |[v0,v1,v2],_=>exact binds_peek X (fun S=>by rw[hK];kernel_rfl)⟩,by kernel_rfl,by decide,rfl⟩
theorem Gd.k_frag_quest (G: Gd W): FnB W 296 [Str.ofString "maker",Str.ofString "frag",Str.ofString "is_lazy"] [32066903573,224901412,566630696248834] 3 [] c_frag_quest := by
 obtain⟨_,P,hK⟩ := G
 exact⟨⟨_,_,fnK_of (by rw[hK];rfl) rfl (by rw[hK];kernel_rfl),by kernel_rfl,by kernel_rfl,fun s vs X hv=>by
  match vs,hv with
  |[v0,v1,v2],_=>exact binds_peek X (fun S=>by rw[hK];kernel_rfl)⟩,by kernel_rfl,by decide,rfl⟩
theorem Gd.k_frag_star (G: Gd W): FnB W 303 [Str.ofString "maker",Str.ofString "frag",Str.ofString "is_lazy"] [32066903573,224901412,566630696248834] 3 [] c_frag_star := by
 obtain⟨_,P,hK⟩ := G
 exact⟨⟨_,_,fnK_of (by rw[hK];rfl) rfl (by rw[hK];kernel_rfl),by kernel_rfl,by kernel_rfl,fun s vs X hv=>by
  match vs,hv with
  |[v0,v1,v2],_=>exact binds_peek X (fun S=>by rw[hK];kernel_rfl)⟩,by kernel_rfl,by decide,rfl⟩
theorem Gd.k_law_none (G: Gd W): FnB W 318 [] [] 0 [] c_law_none := by
 obtain⟨_,P,hK⟩ := G
 exact⟨⟨_,_,fnK_of (by rw[hK];rfl) rfl (by rw[hK];kernel_rfl),by kernel_rfl,by kernel_rfl,fun s vs X hv=>by
  match vs,hv with
  |[],_=>exact binds_peek X (fun S=>by rw[hK];kernel_rfl)⟩,by kernel_rfl,by decide,rfl⟩
theorem Gd.k_law_digits (G: Gd W): FnB W 325 [Str.ofString "number",Str.ofString "bases"] [4136611441551,32343959571] 2 [] c_law_digits := by
 obtain⟨_,P,hK⟩ := G
 exact⟨⟨_,_,fnK_of (by rw[hK];rfl) rfl (by rw[hK];kernel_rfl),by kernel_rfl,by kernel_rfl,fun s vs X hv=>by
  match vs,hv with
  |[v0,v1],_=>exact binds_peek X (fun S=>by rw[hK];kernel_rfl)⟩,by kernel_rfl,by decide,rfl⟩
theorem Gd.k_law_fits (G: Gd W): FnB W 332 [Str.ofString "pair",Str.ofString "octet"] [248645936,32620899364] 2 [] c_law_fits := by
 obtain⟨_,P,hK⟩ := G
 exact⟨⟨_,_,fnK_of (by rw[hK];rfl) rfl (by rw[hK];kernel_rfl),by kernel_rfl,by kernel_rfl,fun s vs X hv=>by
  match vs,hv with
  |[v0,v1],_=>exact binds_peek X (fun S=>by rw[hK];kernel_rfl)⟩,by kernel_rfl,by decide,rfl⟩
theorem Gd.k_law_first (G: Gd W): FnB W 339 [Str.ofString "ways"] [251058888] 1 [] c_law_first := by
 obtain⟨_,P,hK⟩ := G
 exact⟨⟨_,_,fnK_of (by rw[hK];rfl) rfl (by rw[hK];kernel_rfl),by kernel_rfl,by kernel_rfl,fun s vs X hv=>by
  match vs,hv with
  |[v0],_=>exact binds_peek X (fun S=>by rw[hK];kernel_rfl)⟩,by kernel_rfl,by decide,rfl⟩
theorem Gd.k_law_kept (G: Gd W): FnB W 344 [Str.ofString "one",Str.ofString "other"] [1711813,32066856103] 2 [] c_law_kept := by
 obtain⟨_,P,hK⟩ := G
 exact⟨⟨_,_,fnK_of (by rw[hK];rfl) rfl (by rw[hK];kernel_rfl),by kernel_rfl,by kernel_rfl,fun s vs X hv=>by
  match vs,hv with
  |[v0,v1],_=>exact binds_peek X (fun S=>by rw[hK];kernel_rfl)⟩,by kernel_rfl,by decide,rfl⟩
theorem Gd.k_law_mark (G: Gd W): FnB W 349 [Str.ofString "slot",Str.ofString "at"] [253040582,15191] 2 [] c_law_mark := by
 obtain⟨_,P,hK⟩ := G
 exact⟨⟨_,_,fnK_of (by rw[hK];rfl) rfl (by rw[hK];kernel_rfl),by kernel_rfl,by kernel_rfl,fun s vs X hv=>by
  match vs,hv with
  |[v0,v1],_=>exact binds_peek X (fun S=>by rw[hK];kernel_rfl)⟩,by kernel_rfl,by decide,rfl⟩
theorem Gd.k_law_group (G: Gd W): FnB W 356 [Str.ofString "ways",Str.ofString "at",Str.ofString "slots"] [251058888,15191,32376094778] 3 [] c_law_group := by
 obtain⟨_,P,hK⟩ := G
 exact⟨⟨_,_,fnK_of (by rw[hK];rfl) rfl (by rw[hK];kernel_rfl),by kernel_rfl,by kernel_rfl,fun s vs X hv=>by
  match vs,hv with
  |[v0,v1,v2],_=>exact binds_peek X (fun S=>by rw[hK];kernel_rfl)⟩,by kernel_rfl,by decide,rfl⟩
theorem Gd.k_law_joined (G: Gd W): FnB W 361 [Str.ofString "ways",Str.ofString "table"] [251058888,28481783181] 2 [] c_law_joined := by
 obtain⟨_,P,hK⟩ := G
 exact⟨⟨_,_,fnK_of (by rw[hK];rfl) rfl (by rw[hK];kernel_rfl),by kernel_rfl,by kernel_rfl,fun s vs X hv=>by
  match vs,hv with
  |[v0,v1],_=>exact binds_peek X (fun S=>by rw[hK];kernel_rfl)⟩,by kernel_rfl,by decide,rfl⟩
theorem Gd.k_law_loops (G: Gd W): FnB W 366 [Str.ofString "table",Str.ofString "is_lazy"] [28481783181,566630696248834] 2 [] c_law_loops := by
 obtain⟨_,P,hK⟩ := G
 exact⟨⟨_,_,fnK_of (by rw[hK];rfl) rfl (by rw[hK];kernel_rfl),by kernel_rfl,by kernel_rfl,fun s vs X hv=>by
  match vs,hv with
  |[v0,v1],_=>exact binds_peek X (fun S=>by rw[hK];kernel_rfl)⟩,by kernel_rfl,by decide,rfl⟩
theorem Gd.k_law_meant (G: Gd W): FnB W 371 [Str.ofString "order",Str.ofString "tables",Str.ofString "row",Str.ofString "text",Str.ofString "holds"] [32066789281,4172355774465,2011483,253189449,32341698207] 5 [] c_law_meant := by
 obtain⟨_,P,hK⟩ := G
 exact⟨⟨_,_,fnK_of (by rw[hK];rfl) rfl (by rw[hK];kernel_rfl),by kernel_rfl,by kernel_rfl,fun s vs X hv=>by
  match vs,hv with
  |[v0,v1,v2,v3,v4],_=>exact binds_peek X (fun S=>by rw[hK];kernel_rfl)⟩,by kernel_rfl,by decide,rfl⟩
theorem Gd.k_law_needs (G: Gd W): FnB W 376 [Str.ofString "order",Str.ofString "shapes"] [32066789281,4172364345482] 2 [] c_law_needs := by
 obtain⟨_,P,hK⟩ := G
 exact⟨⟨_,_,fnK_of (by rw[hK];rfl) rfl (by rw[hK];kernel_rfl),by kernel_rfl,by kernel_rfl,fun s vs X hv=>by
  match vs,hv with
  |[v0,v1],_=>exact binds_peek X (fun S=>by rw[hK];kernel_rfl)⟩,by kernel_rfl,by decide,rfl⟩
theorem Gd.k_law_shape (G: Gd W): FnB W 383 [Str.ofString "order",Str.ofString "shapes"] [32066789281,4172364345482] 2 [] c_law_shape := by
 obtain⟨_,P,hK⟩ := G
 exact⟨⟨_,_,fnK_of (by rw[hK];rfl) rfl (by rw[hK];kernel_rfl),by kernel_rfl,by kernel_rfl,fun s vs X hv=>by
  match vs,hv with
  |[v0,v1],_=>exact binds_peek X (fun S=>by rw[hK];kernel_rfl)⟩,by kernel_rfl,by decide,rfl⟩
theorem Gd.k_law_made (G: Gd W): FnB W 390 [Str.ofString "maker",Str.ofString "order",Str.ofString "parts",Str.ofString "row",Str.ofString "is_reversed"] [32066903573,32066789281,32376143279,2011483,129907780876443790661926] 5 [] c_law_made := by
 obtain⟨_,P,hK⟩ := G
 exact⟨⟨_,_,fnK_of (by rw[hK];rfl) rfl (by rw[hK];kernel_rfl),by kernel_rfl,by kernel_rfl,fun s vs X hv=>by
  match vs,hv with
  |[v0,v1,v2,v3,v4],_=>exact binds_peek X (fun S=>by rw[hK];kernel_rfl)⟩,by kernel_rfl,by decide,rfl⟩
theorem Gd.k_law_rows (G: Gd W): FnB W 395 [Str.ofString "insts"] [32376161590] 1 [] c_law_rows := by
 obtain⟨_,P,hK⟩ := G
 exact⟨⟨_,_,fnK_of (by rw[hK];rfl) rfl (by rw[hK];kernel_rfl),by kernel_rfl,by kernel_rfl,fun s vs X hv=>by
  match vs,hv with
  |[v0],_=>exact binds_peek X (fun S=>by rw[hK];kernel_rfl)⟩,by kernel_rfl,by decide,rfl⟩
theorem Gd.k_law_tried (G: Gd W): FnB W 402 [Str.ofString "maker",Str.ofString "room",Str.ofString "needs",Str.ofString "order",Str.ofString "parts",Str.ofString "row",Str.ofString "is_reversed"] [32066903573,238014145,32341580436,32066789281,32376143279,2011483,129907780876443790661926] 7 [] c_law_tried := by
 obtain⟨_,P,hK⟩ := G
 exact⟨⟨_,_,fnK_of (by rw[hK];rfl) rfl (by rw[hK];kernel_rfl),by kernel_rfl,by kernel_rfl,fun s vs X hv=>by
  match vs,hv with
  |[v0,v1,v2,v3,v4,v5,v6],_=>exact binds_peek X (fun S=>by rw[hK];kernel_rfl)⟩,by kernel_rfl,by decide,rfl⟩
theorem Gd.k_law_ways (G: Gd W): FnB W 409 [Str.ofString "inst",Str.ofString "at",Str.ofString "kept",Str.ofString "text",Str.ofString "holds"] [253107394,15191,253056312,253189449,32341698207] 5 [] c_law_ways := by
 obtain⟨_,P,hK⟩ := G
 exact⟨⟨_,_,fnK_of (by rw[hK];rfl) rfl (by rw[hK];kernel_rfl),by kernel_rfl,by kernel_rfl,fun s vs X hv=>by
  match vs,hv with
  |[v0,v1,v2,v3,v4],_=>exact binds_peek X (fun S=>by rw[hK];kernel_rfl)⟩,by kernel_rfl,by decide,rfl⟩
theorem Gd.k_law_found (G: Gd W): FnB W 416 [Str.ofString "insts",Str.ofString "begin",Str.ofString "text",Str.ofString "holds"] [32376161590,30967732746,253189449,32341698207] 4 [] c_law_found := by
 obtain⟨_,P,hK⟩ := G
 exact⟨⟨_,_,fnK_of (by rw[hK];rfl) rfl (by rw[hK];kernel_rfl),by kernel_rfl,by kernel_rfl,fun s vs X hv=>by
  match vs,hv with
  |[v0,v1,v2,v3],_=>exact binds_peek X (fun S=>by rw[hK];kernel_rfl)⟩,by kernel_rfl,by decide,rfl⟩
theorem Gd.k_law (G: Gd W): FnB W 421 [Str.ofString "script"] [4211118804251] 1 [] c_law := by
 obtain⟨_,P,hK⟩ := G
 exact⟨⟨_,_,fnK_of (by rw[hK];rfl) rfl (by rw[hK];kernel_rfl),by kernel_rfl,by kernel_rfl,fun s vs X hv=>by
  match vs,hv with
  |[v0],_=>exact binds_peek X (fun S=>by rw[hK];kernel_rfl)⟩,by kernel_rfl,by decide,rfl⟩
theorem Gd.k_Frag_init3 (G: Gd W): FnB W 134 [Str.ofString "self",Str.ofString "begin",Str.ofString "ends",Str.ofString "is_nullable"] [222936110,30967732746,250711086,131251851267392784618517] 3 [.bool false] c_Frag_init := by
 obtain⟨_,P,hK⟩ := G
 exact⟨⟨_,_,fnK_of (by rw[hK];rfl) rfl (by rw[hK];kernel_rfl),by kernel_rfl,by kernel_rfl,fun s vs X hv=>by
  match vs,hv with
  |[v0,v1,v2],_=>exact binds_peek X (fun S=>by rw[hK];kernel_rfl)⟩,by kernel_rfl,by decide,rfl⟩
theorem Gd.k_Frag_init4 (G: Gd W): FnB W 134 [Str.ofString "self",Str.ofString "begin",Str.ofString "ends",Str.ofString "is_nullable"] [222936110,30967732746,250711086,131251851267392784618517] 4 [] c_Frag_init := by
 obtain⟨_,P,hK⟩ := G
 exact⟨⟨_,_,fnK_of (by rw[hK];rfl) rfl (by rw[hK];kernel_rfl),by kernel_rfl,by kernel_rfl,fun s vs X hv=>by
  match vs,hv with
  |[v0,v1,v2,v3],_=>exact binds_peek X (fun S=>by rw[hK];kernel_rfl)⟩,by kernel_rfl,by decide,rfl⟩
theorem Gd.k_frag_range4 (G: Gd W): FnB W 247 [Str.ofString "maker",Str.ofString "low",Str.ofString "high",Str.ofString "is_folded"] [32066903573,2011477,227146788,7806419509700087986] 4 [] c_frag_range := by
 obtain⟨_,P,hK⟩ := G
 exact⟨⟨_,_,fnK_of (by rw[hK];rfl) rfl (by rw[hK];kernel_rfl),by kernel_rfl,by kernel_rfl,fun s vs X hv=>by
  match vs,hv with
  |[v0,v1,v2,v3],_=>exact binds_peek X (fun S=>by rw[hK];kernel_rfl)⟩,by kernel_rfl,by decide,rfl⟩
theorem Gd.k_frag_capture4 (G: Gd W): FnB W 311 [Str.ofString "maker",Str.ofString "frag",Str.ofString "group",Str.ofString "is_reversed"] [32066903573,224901412,31547473586,129907780876443790661926] 4 [] c_frag_capture := by
 obtain⟨_,P,hK⟩ := G
 exact⟨⟨_,_,fnK_of (by rw[hK];rfl) rfl (by rw[hK];kernel_rfl),by kernel_rfl,by kernel_rfl,fun s vs X hv=>by
  match vs,hv with
  |[v0,v1,v2,v3],_=>exact binds_peek X (fun S=>by rw[hK];kernel_rfl)⟩,by kernel_rfl,by decide,rfl⟩
end
theorem bs: (∀(l: Loc) (x: Nat) (xs: List Nat) (d: DV) (ds: List DV),puts l (x::xs) (d::ds)=puts (put l x d) xs ds)/\(∀(l: Loc) (ds: List DV),puts l [] ds=l)/\(∀(l: Loc) (k x: Nat) (v: DV),look (put l k v) x=if Nat.beq k x then some v else look l x)/\(∀(l: Loc) (k x: Nat) (v: DV),look ((k,v)::l) x=if Nat.beq k x then some v else look l x)/\(∀{α β: Type} (a: α) (b: β) (l: List α) (m: List β),(a::l).zip (b::m)=(a,b)::l.zip m)/\(∀{α β: Type} (l: List β),([]: List α).zip l=[])/\(∀{α: Type} (a: α) (l m: List α),a::l++m=a::(l++m))/\(∀{α: Type} (l: List α),[]++l=l)/\(∀{α: Type} (a b: α),(if True then a else b)=a)/\(∀{α: Type} (a b: α),(if False then a else b)=b) :=
 ⟨fun _ _ _ _ _=>rfl,fun l ds=>by cases ds<;>rfl,look_put,look_cons,fun _ _ _ _=>rfl,fun _=>rfl,fun _ _ _=>rfl,fun _=>rfl,fun _ _=>if_true ..,fun _ _=>if_false ..⟩
local macro_rules | `(tactic| kst_p) => `(tactic| ((conv => whnf); try dsimp only))
local macro_rules | `(tactic| kst_mem) => `(tactic| first | exact trivial | assumption | omega | (unfold bigI; omega) | (unfold small; simp; done) | (unfold small; simp; omega) | (unfold small; omega))
local macro_rules | `(tactic| kst_all) => `(tactic| repeat (refine And.intro (by kst_mem) ?_; kst_p))
theorem Gd.fn {W: Wd} (G: Gd W) {n: Nat} {m: Mt} {f: Addr} {ns: List Str} {es: List Nat} {k: Nat} {dvs: List Value} {c: CSs} (FB: FnB W f ns es k dvs c) {dfl: List DV} (hd: RepL W.h₀.get? dfl dvs) {ds: List DV} (hk: ds.length=k) {Q X: DV->Mt->Prop}
  (h: wpSs W 45 T0 n c (fun r σ=>∃ m' d',Fz σ.mu (r.getD .none) m' d'/\Q d' m') (fun d σ=>X d σ.mu) ⟨es.zip (ds++dfl),m⟩): CallOk W 45 (n+1) f ds m Q X := by
 obtain⟨fd,B⟩ := G.base
 exact spec_of B G.zip FB hd hk h
theorem Mt.set_set (m: Mt) (a: Addr) (x y: MObj): (m.set a x).set a y=m.set a y := by
 funext b
 by_cases e: b=a
 ·subst e;rw[Mt.set_self,Mt.set_self]
 ·rw[Mt.set_ne _ _ e,Mt.set_ne _ _ e,Mt.set_ne _ _ e]
theorem Mt.look (m: Mt) (a b: Addr) (o: MObj): m.set a o b=if b=a then some o else m b := by
 by_cases e: b=a
 ·subst e;rw[Mt.set_self,if_pos rfl]
 ·rw[Mt.set_ne _ _ e,if_neg e]
def Sub (m mu: Mt): Prop := ∀ b o,m b=some o->mu b=some o
theorem Sub.rfl {m: Mt}: Sub m m := fun _ _ h=>h
theorem Sub.trans {a b c: Mt} (h: Sub a b) (k: Sub b c): Sub a c := fun _ _ e=>k _ _ (h _ _ e)
theorem Sub.new {m mu: Mt} {a: Addr} {o: MObj} (k: Sub m mu) (h: mu a=none): Sub m (mu.set a o) := fun b o' e=>by
 have := k b o' e
 rw[Mt.set_ne _ _ (fun q=>by subst q;rw[h]at this;cases this)];exact this
theorem Sub.put {m mu: Mt} {a: Addr} {o: MObj} (k: Sub m mu) (h: m a=none): Sub m (mu.set a o) := fun b o' e=>by
 rw[Mt.set_ne _ _ (fun q=>by subst q;rw[h]at e;cases e)];exact k b o' e
theorem Sub.absent {m mu: Mt} (k: Sub m mu) {a: Addr} (h: mu a=none): m a=none := by
 cases e: m a with
 |none=>rfl
 |some o=>rw[k a o e]at h;cases h
theorem Sub.ne {m mu: Mt} (k: Sub m mu) {a b: Addr} {o: MObj} (h: mu a=none) (e: m b=some o): b≠a := fun q=>by
 subst q;have := k b o e;rw[h]at this;cases this
theorem Sub.fz {m mu: Mt} (k: Sub m mu) {d: DV}: Fz mu d m d := .drop k
theorem Sub.list {m mu: Mt} (k: Sub m mu) {a: Addr} {l: List DV} (h: mu a=some (.lst l)) (ha: m a=none): Fz mu (.ref a) m (.lst l) :=
 .trans (.lst h) (.drop fun b o e=>by
  rw[Mt.del_ne _ (fun q=>by subst q;rw[ha]at e;cases e)];exact k b o e)
theorem Sub.inst {m mu: Mt} (k: Sub m mu) {a C x: Addr} {ns: List Nat} {vs: List DV} (h: mu a=some (.inst C x)) (h': mu x=some (.attrs ns vs)) (ha: m a=none) (hx: m x=none) (ne: a≠x): Fz mu (.ref a) m (.inst C ns vs) :=
 .trans (.inst h h' ne) (.drop fun b o e=>by
  rw[Mt.del_ne _ (fun q=>by subst q;rw[hx]at e;cases e),Mt.del_ne _ (fun q=>by subst q;rw[ha]at e;cases e)];exact k b o e)
theorem asL_sub {m mu: Mt} (k: Sub m mu) {d: DV} {l: List DV} (h: asL m d=some l): asL mu d=some l := by
 cases d with
 |ref a=>
  simp only[asL]at h ⊢
  cases e: m a with
  |none=>rw[e]at h;cases h
  |some o=>rw[k a o e];rw[e]at h;exact h
 |lst l'=>exact h
 |_=>cases h
theorem seqV_of {m: Mt} {d: DV} {l: List DV} (h: asL m d=some l): seqV m d=some l := by
 cases d with
 |tup=>cases h
 |_=>exact h
theorem lenV_of {m: Mt} {d: DV} {l: List DV} (h: asL m d=some l): lenV m d=some l.length := by
 have e := seqV_of h
 cases d with
 |bytes=>cases h
 |_=>simp only[lenV,e,Option.map_some]
theorem iterL_of {m: Mt} {d: DV} {l: List DV} (h: asL m d=some l): iterL m d=some l := by
 cases d with
 |rng=>cases h
 |_=>exact seqV_of h
theorem guardL_of {m: Mt} {d: DV} {l: List DV} (h: asL m d=some l) {loc: Loc}: guardL d l ⟨loc,m⟩ := by
 cases d with
 |ref a=>
  simp only[asL]at h
  simp only[guardL]
  split at h
  ·rw[‹m a=_›];cases h;rfl
  ·cases h
 |_=>trivial
theorem rngOk_of {m: Mt} {d: DV} {l: List DV} (h: asL m d=some l): rngOk d := by
 cases d with
 |rng=>cases h
 |_=>trivial
theorem asL_ref {m: Mt} {a: Addr} {l: List DV} (h: m a=some (.lst l)): asL m (.ref a)=some l := by simp only[asL,h]
theorem subW_of {m: Mt} {o: DV} {l: List DV} {k: Nat} {d: DV} {K: DV->Prop} (h: asL m o=some l) (hk: k<=100000) (hd: l[k]?=some d) (q: K d): subW m o (.int (k: Nat)) K := by
 refine⟨by unfold bigI;omega,?_⟩
 have e: nth l (k: Int)=some d := hd
 cases o with
 |ref a=>simp only[seqV,h,e];exact q
 |lst l'=>simp only[seqV,h,e];exact q
 |_=>cases h
theorem small_of {k: Nat} (h: k<=100000): small k := by unfold small;omega
theorem bigI_of {k: Nat} (h: k<=100000): bigI (k: Int) := by unfold bigI;omega
theorem compW_map {gd: St->Prop} {B: DV->(Option DV->Mt->Prop)->Mt->Prop} {loc: Loc} {Q: DV->St->Prop} {m: Mt} (F: DV->Option DV) (hg: gd ⟨loc,m⟩): ∀(xs acc: List DV),(∀ x∈xs,∀ K: Option DV->Mt->Prop,K (F x) m->B x K m)->newL (acc++xs.filterMap F) Q ⟨loc,m⟩->compW gd B loc Q xs acc m
 |[],acc,_,h=>⟨hg,by simpa using h⟩
 |x::xs,acc,hB,h=>⟨hg,hB x (List.mem_cons_self ..) _ (by
   cases e: F x with
   |none=>exact compW_map F hg xs acc (fun y hy=>hB y (List.mem_cons_of_mem _ hy)) (by simpa [List.filterMap_cons,e]using h)
   |some d=>exact compW_map F hg xs (acc++[d]) (fun y hy=>hB y (List.mem_cons_of_mem _ hy)) (by simpa [List.filterMap_cons,e]using h))⟩
theorem compW_of {α: Type} {gd: St->Prop} {B: DV->(Option DV->Mt->Prop)->Mt->Prop} {loc: Loc} {Q: DV->St->Prop} {m: Mt} {l: List α} (e f: α->DV) (hg: gd ⟨loc,m⟩) (hB: ∀ x∈l,∀ K: Option DV->Mt->Prop,K (some (f x)) m->B (e x) K m) (h: newL (l.map f) Q ⟨loc,m⟩): compW gd B loc Q (l.map e) [] m := by
 suffices H: ∀(xs: List α) (acc: List DV),(∀ x∈xs,x∈l)->newL (acc++xs.map f) Q ⟨loc,m⟩->compW gd B loc Q (xs.map e) acc m from H l [] (fun _ h=>h) h
 intro xs
 induction xs with
 |nil=>intro acc _ h;exact⟨hg,by simpa using h⟩
 |cons x xs ih=>intro acc hs h;exact⟨hg,hB x (hs x (List.mem_cons_self ..)) _ (ih _ (fun y hy=>hs y (List.mem_cons_of_mem _ hy)) (by simpa using h))⟩
theorem upTo_map: ∀(k a: Nat),upTo k (a: Int) 1=(List.range' a k).map fun i=>.int (i: Nat)
 |0,_=>rfl
 |k+1,a=>by simp only[upTo,List.range'_succ,List.map_cons];rw[show(a: Int)+1=((a+1: Nat): Int) from rfl,upTo_map k (a+1)]
theorem rngLen_nat (k: Nat): rngLen 0 (k: Int) 1=k := by
 unfold rngLen Builtin.Range.rangeSize
 simp
 split<;>omega
theorem iter_range (m: Mt) (k: Nat): iterL m (.rng 0 (k: Int) 1)=some ((List.range k).map fun i=>.int (i: Nat)) := by
 simp only[iterL,rngLen_nat]
 rw[show(0: Int)=((0: Nat): Int) from rfl,upTo_map,List.range_eq_range']
def eK (k: Kept): DV := .tup (k.map .int)
def eW (p: Way): DV := .tup [.int (p.1: Nat),eK p.2]
def eWs (l: List Way): DV := .lst (l.map eW)
def eN (k: Nat): DV := .int (k: Nat)
def eS (s: Shape): DV := .tup [.bool s.1,.bool s.2]
def Ord.code: Ord->Nat
 |.range=>28471249426|.cat=>1959739|.alt=>1961156|.star=>248515262|.capture=>474184994492923|.quest=>32650705719|.plus=>250993736|.empty=>34037648820|.nop=>1894992|.none=>220823988
def eO (o: Ord): DV := .str o.code
def ePair (r: Row): DV := .tup [.int (r.lo: Nat),.int (r.hi: Nat),.bool r.fold]
def eR (r: Row): DV := .tup [.bool r.lazy,ePair r,.tup [.int (r.s0: Nat),.int (r.s1: Nat)],.int (r.bits: Nat)]
def eF (f: Fr): DV := .inst 137 [30967732746,250711086,131251851267392784618517] [.int (f.b: Nat),.tup [.int (f.e0: Nat),.int (f.e1: Nat)],.bool f.nl]
def eB (l: List Nat): DV := .bytes (l.map UInt8.ofNat).toArray
section
def dOf: List Int->MObj
 |[]=>.dE
 |l=>.dI l
theorem in_dict {μ: Mt} {b: Addr} {met: List Int} {e: Int} (h: μ b=some (dOf met)): inV μ (.int e) (.ref b)=some (met.contains e) := by
 simp only[inV,h]
 cases met with
 |nil=>rfl
 |cons x r=>rfl
theorem setSub_dict {loc: Loc} {mu: Mt} {b: Addr} {met: List Int} {e: Int} {K: St->Prop} (h: mu b=some (dOf met)) (hc: met.contains e=false) (hs: small met.length) (k: K ⟨loc,mu.set b (dOf (met++[e]))⟩): setSub (.ref b) (.int e) (.bool true) K ⟨loc,mu⟩ := by
 unfold setSub
 simp only[h]
 cases met with
 |nil=>exact⟨hs,k⟩
 |cons x r=>
  simp only[dOf,List.cons_append]at k ⊢
  simp only[dctPut,hc]
  exact⟨hs,k⟩
theorem contains_cast (l: List Nat) (e: Nat): (l.map fun i: Nat=>(i: Int)).contains (e: Int)=l.contains e := by
 induction l with
 |nil=>rfl
 |cons x r ih=>
  rw[List.map_cons,List.contains_cons,List.contains_cons,ih]
  congr 1
  rw[Bool.eq_iff_iff];simp[Int.ofNat_inj]
variable {W: Wd} (G: Gd W) {n: Nat} {m: Mt} {Q X: DV->Mt->Prop}
include G
theorem sp_none (h: Q (eK kNone) m): CallOk W 45 (n+1) 318 [] m Q X := by
 refine G.fn G.k_law_none .nil rfl ?_
 unfold c_law_none
 kst_p
 exact⟨_,_,.refl,h⟩
theorem sp_kept (a b: Kept) (ha: a.length<=4) (hb: b.length<=4) (h: Q (eK (kept a b)) m): CallOk W 45 (n+1) 344 [eK a,eK b] m Q X := by
 refine G.fn G.k_law_kept .nil rfl ?_
 unfold c_law_kept
 kst_p
 kst_all
 have e: ((a.map DV.int).zip (b.map DV.int)).map (fun p=>DV.tup [p.1,p.2])=(a.zip b).map fun p=>DV.tup [.int p.1,.int p.2] := by
  rw[List.zip_map,List.map_map];rfl
 rw[e]
 refine compW_of _ (fun p=>.int (if 0<=p.2 then p.2 else p.1)) trivial ?_ ?_
 ·rintro⟨x,y⟩ _ K hK
  kst_p
  cases hd: decide ((0: Int)<=y)<;>kst_p<;>simp at hd
  ·refine⟨_,_,.refl,?_⟩
   rw[if_neg (by omega)]at hK;exact hK
  ·refine⟨_,_,.refl,?_⟩
   rw[if_pos hd]at hK;exact hK
 ·intro r hr
  kst_p
  (kst_p;repeat (simp only[bs,asL,Mt.set_self];kst_p))
  kst_all
  refine⟨_,_,Sub.fz (Sub.rfl.new hr),?_⟩
  unfold kept eK at h
  rwa [List.map_map]at h
theorem sp_mark (slot at_: Nat) (h: Q (eK (kMark slot at_)) m): CallOk W 45 (n+1) 349 [.int (slot: Nat),.int (at_: Nat)] m Q X := by
 refine G.fn G.k_law_mark .nil rfl ?_
 unfold c_law_mark
 kst_p
 kst_all
 refine⟨⟨bigI_of (k := 0) (by omega),bigI_of (k := 4) (by omega),.inl rfl⟩,small_of (by decide),?_⟩
 have e: upTo (rngLen 0 4 1) 0 1=(List.range 4).map fun i=>.int (i: Nat) := by rfl
 rw[e]
 refine compW_of _ (fun i=>.int (if i=slot then Int.ofNat at_ else -1)) trivial ?_ ?_
 ·intro i _ K hK
  kst_p
  cases hd: decide ((i: Int)=(slot: Int))<;>kst_p<;>simp at hd
  ·refine⟨_,_,.refl,?_⟩
   rw[if_neg (by omega)]at hK;exact hK
  ·refine⟨_,_,.refl,?_⟩
   rw[if_pos (by omega)]at hK;exact hK
 ·intro r hr
  kst_p
  (kst_p;repeat (simp only[bs,asL,Mt.set_self];kst_p))
  kst_all
  refine⟨_,_,Sub.fz (Sub.rfl.new hr),?_⟩
  unfold kMark eK at h
  rwa [List.map_map]at h
theorem sp_mark' (i: Int) (slot at_: Nat) (hi: i=slot) (h: Q (eK (kMark slot at_)) m): CallOk W 45 (n+1) 349 [.int i,.int (at_: Nat)] m Q X := hi▸sp_mark G slot at_ h
theorem sp_fits (lo hi: Nat) (fold: Bool) (o: Nat) (h: Q (.bool (fits lo hi fold o)) m): CallOk W 45 (n+1) 332 [.tup [.int (lo: Nat),.int (hi: Nat),.bool fold],.int (o: Nat)] m Q X := by
 refine G.fn G.k_law_fits .nil rfl ?_
 unfold c_law_fits
 kst_p
 kst_all
 have fin: ∀ s: Nat,s=(if fold&&(65<=o&&o<=90)then o+32 else o)->(match decide ((lo: Int)<=(s: Int))with|true=>Q (.bool (decide ((s: Int)<=(hi: Int)))) m|false=>Q (.bool false) m) := by
  intro s hs
  have: fits lo hi fold o=(decide (lo<=s)&&decide (s<=hi)) := by unfold fits;rw[<-hs]
  rw[this]at h
  cases hd: decide ((lo: Int)<=(s: Int))<;>simp at hd
  ·simpa [show ¬ lo<=s by omega]using h
  ·simpa [hd]using h
 cases fold with
 |false=>
  kst_p
  have fin := fin o (by simp)
  kst_all
  (kst_p;repeat (simp only[bs,cmpV];kst_p))
  cases hd: decide ((lo: Int)<=(o: Int))<;>rw[hd]at fin<;>kst_p
  ·exact⟨_,_,.refl,fin⟩
  ·kst_all
   exact⟨_,_,.refl,fin⟩
 |true=>
  kst_p
  (kst_p;repeat (simp only[bs,cmpV];kst_p))
  cases h1: decide ((65: Int)<=(o: Int))<;>simp at h1<;>kst_p
  ·have fin := fin o (by simp;omega)
   kst_all
   (kst_p;repeat (simp only[bs,cmpV];kst_p))
   cases hd: decide ((lo: Int)<=(o: Int))<;>rw[hd]at fin<;>kst_p
   ·exact⟨_,_,.refl,fin⟩
   ·kst_all
    exact⟨_,_,.refl,fin⟩
  ·cases h2: decide ((o: Int)<=90)<;>simp at h2<;>kst_p
   ·have fin := fin o (by simp;omega)
    kst_all
    (kst_p;repeat (simp only[bs,cmpV];kst_p))
    cases hd: decide ((lo: Int)<=(o: Int))<;>rw[hd]at fin<;>kst_p
    ·exact⟨_,_,.refl,fin⟩
    ·kst_all
     exact⟨_,_,.refl,fin⟩
   ·have fin: match decide ((lo: Int)<=(o: Int)+32)with|true=>Q (.bool (decide ((o: Int)+32<=(hi: Int)))) m|false=>Q (.bool false) m := fin (o+32) (by simp;omega)
    kst_all
    (kst_p;repeat (simp only[bs,cmpV];kst_p))
    cases hd: decide ((lo: Int)<=(o: Int)+32)<;>rw[hd]at fin<;>kst_p
    ·exact⟨_,_,.refl,fin⟩
    ·kst_all
     exact⟨_,_,.refl,fin⟩
end
section
variable {W: Wd} (G: Gd W) {n: Nat} {m: Mt} {Q X: DV->Mt->Prop}
include G
theorem sp_first {d: DV} (ways: List Way) (hd: asL m d=some (ways.map eW)) (hs: ways.length<=1000) (h: Q (eWs (first ways)) m): CallOk W 45 (n+1) 339 [d] m Q X := by
 refine G.fn G.k_law_first .nil rfl ?_
 unfold c_law_first
 kst_p
 (intro a ha;(try dsimp only at ha);kst_p)
 intro b hb
 kst_p
 have hab: b≠a := fun e=>by subst e;rw[Mt.set_self]at hb;cases hb
 have S0: Sub m ((m.set a (.lst [])).set b .dE) := (Sub.rfl.new ha).new hb
 rw[Mt.set_ne _ _ hab]at hb
 (kst_p;repeat (simp only[bs,iterL_of (asL_sub S0 hd)];kst_p))
 refine⟨rngOk_of hd,?_⟩
 refine forW_ind (fun xs σ=>∃(ys acc: List Way) (met: List Nat),xs=ys.map eW/\look σ.loc 28209471649=some (.ref a)/\look σ.loc 1960265=some (.ref b)/\σ.mu a=some (.lst (acc.map eW))/\σ.mu b=some (dOf (met.map fun i: Nat=>(i: Int)))/\Sub m σ.mu/\acc++firstGo met ys=firstGo [] ways/\acc.length+ys.length<=1000/\met.length=acc.length) ?_ ?_ _ _ ⟨ways,[],[],rfl,rfl,rfl,by simp[Mt.look,hab.symm],by simp[Mt.look,dOf],S0,rfl,by simpa using hs,rfl⟩
 ·rintro⟨loc,mu⟩ ⟨ys,acc,met,hx,h1,h2,m1,m2,S,he,_⟩
  obtain rfl: ys=[] := by cases ys<;>simp at hx ⊢
  dsimp only at h1 h2 m1 m2 S
  refine⟨guardL_of (asL_sub S hd),?_⟩
  kst_p
  (kst_p;repeat (simp only[bs,h1];kst_p))
  have e1: acc=first ways := by simpa [firstGo,first]using he
  exact⟨m,_,S.list m1 ha,e1▸h⟩
 ·rintro x xs ⟨loc,mu⟩ K ⟨ys,acc,met,hx,h1,h2,m1,m2,S,he,hl,hml⟩ hK
  dsimp only at h1 h2 m1 m2 S
  refine⟨guardL_of (asL_sub S hd),?_⟩
  cases ys with
  |nil=>cases hx
  |cons p r=>
  obtain⟨e,k⟩ := p
  simp only[List.map_cons,List.cons.injEq]at hx
  obtain⟨rfl,rfl⟩ := hx
  kst_p
  (kst_p;repeat (simp only[bs,h1,h2];kst_p))
  (kst_p;repeat (simp only[bs,cmpV,in_dict m2,contains_cast];kst_p))
  cases hc: met.contains e with
  |true=>
   kst_p
   exact hK _ ⟨r,acc,met,rfl,by simp[look_put,h1],by simp[look_put,h2],m1,m2,S,by rw[<-he];simp only[firstGo,hc,if_true],by simp at hl ⊢;omega,hml⟩
  |false=>
   (kst_p;repeat (simp only[bs,h1,h2];kst_p))
   refine setSub_dict m2 (by rw[contains_cast];exact hc) (by simp at hl;unfold small;simp;omega) ?_
   (kst_p;repeat (simp only[bs,h1,h2];kst_p))
   have g1: (mu.set b (dOf ((met.map fun i: Nat=>(i: Int))++[(e: Int)]))) a=some (.lst (acc.map eW)) := by rw[Mt.set_ne _ _ hab.symm,m1]
   (kst_p;repeat (simp only[bs,calOf,g1];kst_p))
   (kst_p;repeat (simp only[bs,h1,h2,g1];kst_p))
   refine⟨by simp at hl;unfold small;simp;omega,?_⟩
   kst_p
   refine hK _ ⟨r,acc++[(e,k)],met++[e],rfl,by simp[look_put,h1],by simp[look_put,h2],?_,?_,?_,by rw[<-he];simp only[firstGo,hc];simp,by simp at hl ⊢;omega,by simp[hml]⟩
   ·dsimp only;rw[Mt.set_self];simp[eW]
   ·dsimp only;rw[Mt.set_ne _ _ hab,Mt.set_self];simp
   ·exact(S.put hb).put ha
omit G in
theorem row_get {t: Table} {k: Nat} (h: k<t.length): t[k]?=some (row t k) := by
 unfold row;rw[List.getD_eq_getElem?_getD,List.getElem?_eq_getElem h];rfl
theorem sp_joined {dw dt: DV} (ways: List Way) (t: Table) (hd: asL m dw=some (ways.map eW)) (ht: asL m dt=some (t.map eWs)) (hk: ∀ p∈ways,p.1<t.length/\p.2.length<=4) (hk': ∀ l∈t,l.length<=5/\∀ p∈l,p.2.length<=4) (hs: ways.length<=5) (hL: t.length<=5) (h: Q (eWs (joined ways t)) m): CallOk W 45 (n+2) 361 [dw,dt] m Q X := by
 refine G.fn G.k_law_joined .nil rfl ?_
 unfold c_law_joined
 kst_p
 (intro a ha;(try dsimp only at ha);kst_p)
 have S0: Sub m (m.set a (.lst [])) := Sub.rfl.new ha
 (kst_p;repeat (simp only[bs,iterL_of (asL_sub S0 hd)];kst_p))
 refine⟨rngOk_of hd,?_⟩
 refine forW_ind (fun xs σ=>∃(ys zs: List Way),xs=ys.map eW/\zs++ys=ways/\look σ.loc 28209471649=some (.ref a)/\look σ.loc 28481783181=some dt/\σ.mu a=some (.lst ((joinedAll zs t).map eW))/\Sub m σ.mu/\(joinedAll zs t).length<=zs.length * 5) ?_ ?_ _ _ ⟨ways,[],rfl,rfl,rfl,rfl,Mt.set_self _ _ _,S0,Nat.le_refl _⟩
 ·rintro⟨loc,mu⟩ ⟨ys,zs,hx,hz,h1,h2,m1,S,hl⟩
  obtain rfl: ys=[] := by cases ys<;>simp at hx ⊢
  rw[List.append_nil]at hz;subst hz
  dsimp only at h1 h2 m1 S
  refine⟨guardL_of (asL_sub S hd),?_⟩
  kst_p
  (kst_p;repeat (simp only[bs,h1];kst_p))
  refine sp_first G _ (asL_ref m1) (by omega) ?_
  exact⟨m,_,Sub.fz S,h⟩
 ·rintro x xs ⟨loc,mu⟩ K ⟨ys,zs,hx,hz,h1,h2,m1,S,hl⟩ hK
  dsimp only at h1 h2 m1 S
  refine⟨guardL_of (asL_sub S hd),?_⟩
  cases ys with
  |nil=>cases hx
  |cons p r=>
  obtain⟨e,k⟩ := p
  simp only[List.map_cons,List.cons.injEq]at hx
  obtain⟨rfl,rfl⟩ := hx
  have hp := hk (e,k) (by rw[<-hz];simp)
  dsimp only at hp
  have hrow := hk' (row t e) (List.mem_of_getElem? (row_get hp.1))
  have hzl: zs.length+1<=5 := by have := congrArg List.length hz;simp at this;omega
  kst_p
  (kst_p;repeat (simp only[bs,h1,h2];kst_p))
  (kst_p;repeat (simp only[bs,calOf,m1];kst_p))
  (kst_p;repeat (simp only[bs,h1,h2];kst_p))
  refine subW_of (asL_sub S ht) (k := e) (d := eWs (row t e)) (by omega) (by rw[List.getElem?_map,row_get hp.1];rfl) ?_
  kst_p
  refine⟨trivial,small_of (by simp;omega),?_⟩
  refine compW_of eW (fun p=>eW (p.1,kept k p.2)) trivial ?_ ?_
  ·rintro⟨e',k'⟩ hm K' hK'
   kst_p
   (kst_p;repeat (simp only[bs,h1,h2];kst_p))
   refine sp_kept G k k' hp.2 (hrow.2 _ hm) ?_
   kst_p
   exact⟨_,_,.refl,hK'⟩
  ·(intro b hb;(try dsimp only at hb);kst_p)
   have hba := S.new (o := .lst ((row t e).map fun p=>eW (p.1,kept k p.2))) hb
   have nab: a≠b := fun q=>by subst q;rw[m1]at hb;cases hb
   (kst_p;repeat (simp only[bs,Mt.look,nab,m1,asL];kst_p))
   refine⟨small_of (by simp;omega),?_⟩
   kst_p
   refine hK _ ⟨r,zs++[(e,k)],rfl,by simpa using hz,by simp[look_put,h1],by simp[look_put,h2],?_,hba.put ha,?_⟩
   ·simp[Mt.look,joinedAll,shift]
   ·simp[joinedAll,shift]at hl ⊢;omega
end
section
variable {W: Wd} (G: Gd W) {n: Nat} {m: Mt} {Q X: DV->Mt->Prop}
include G
theorem sp_group {dw: DV} (ways: List Way) (at_ s0 s1: Nat) (hd: asL m dw=some (ways.map eW)) (hk: ∀ p∈ways,p.2.length<=4) (hs: ways.length<=1000) (h: Q (eWs (group ways at_ s0 s1)) m): CallOk W 45 (n+2) 356 [dw,.int (at_: Nat),.tup [.int (s0: Nat),.int (s1: Nat)]] m Q X := by
 refine G.fn G.k_law_group .nil rfl ?_
 unfold c_law_group
 kst_p
 kst_all
 refine sp_mark G s0 at_ ?_
 kst_p
 (intro a ha;(try dsimp only at ha);kst_p)
 have S0: Sub m (m.set a (.lst [])) := Sub.rfl.new ha
 (kst_p;repeat (simp only[bs,iterL_of (asL_sub S0 hd)];kst_p))
 refine⟨rngOk_of hd,?_⟩
 refine forW_ind (fun xs σ=>∃(ys zs: List Way),xs=ys.map eW/\zs++ys=ways/\look σ.loc 28209471649=some (.ref a)/\look σ.loc 28181297528=some (eK (kMark s0 at_))/\look σ.loc 32376094778=some (.tup [.int (s0: Nat),.int (s1: Nat)])/\σ.mu a=some (.lst ((group zs at_ s0 s1).map eW))/\Sub m σ.mu) ?_ ?_ _ _ ⟨ways,[],rfl,rfl,rfl,rfl,rfl,Mt.set_self _ _ _,S0⟩
 ·rintro⟨loc,mu⟩ ⟨ys,zs,hx,hz,h1,h2,h3,m1,S⟩
  obtain rfl: ys=[] := by cases ys<;>simp at hx ⊢
  rw[List.append_nil]at hz;subst hz
  dsimp only at h1 h2 h3 m1 S
  refine⟨guardL_of (asL_sub S hd),?_⟩
  (kst_p;repeat (simp only[bs,h1];kst_p))
  exact⟨m,_,S.list m1 ha,h⟩
 ·rintro x xs ⟨loc,mu⟩ K ⟨ys,zs,hx,hz,h1,h2,h3,m1,S⟩ hK
  dsimp only at h1 h2 h3 m1 S
  refine⟨guardL_of (asL_sub S hd),?_⟩
  cases ys with
  |nil=>cases hx
  |cons p r=>
  obtain⟨e,k⟩ := p
  simp only[List.map_cons,List.cons.injEq]at hx
  obtain⟨rfl,rfl⟩ := hx
  have hp := hk (e,k) (by rw[<-hz];simp)
  (kst_p;repeat (simp only[bs,h1,h2,h3,calOf,m1];kst_p))
  refine sp_kept G _ k (by simp[kMark_len]) hp ?_
  (kst_p;repeat (simp only[bs,h1,h2,h3];kst_p))
  kst_all
  (kst_p;repeat (simp only[bs,h1,h2,h3];kst_p))
  refine sp_mark G s1 e ?_
  kst_p
  refine sp_kept G _ _ (kept_len hp) (by simp[kMark_len]) ?_
  (kst_p;repeat (simp only[bs,m1];kst_p))
  refine⟨small_of (by have := congrArg List.length hz;simp at this;simp[group];omega),?_⟩
  kst_p
  refine hK _ ⟨r,zs++[(e,k)],rfl,by simpa using hz,by simp[look_put,h1],by simp[look_put,h2],by simp[look_put,h3],?_,S.put ha⟩
  simp[Mt.look,group,eW]
theorem sp_digits {db: DV} (bases: List Nat) (N: Nat) (hd: asL m db=some (bases.map eN)) (hb: ∀ b∈bases,0<b/\b<=1000) (hs: bases.length<=1000) (h: Q (.lst ((digits N bases).map eN)) m): CallOk W 45 (n+1) 325 [.int (N: Nat),db] m Q X := by
 refine G.fn G.k_law_digits .nil rfl ?_
 unfold c_law_digits
 kst_p
 (intro a ha;(try dsimp only at ha);kst_p)
 have S0: Sub m (m.set a (.lst [])) := Sub.rfl.new ha
 (kst_p;repeat (simp only[bs,iterL_of (asL_sub S0 hd)];kst_p))
 refine⟨rngOk_of hd,?_⟩
 refine forW_ind (fun xs σ=>∃(ys: List Nat) (N': Nat) (acc: List Nat),xs=ys.map eN/\look σ.loc 28209471649=some (.ref a)/\look σ.loc 4136611441551=some (.int (N': Nat))/\σ.mu a=some (.lst (acc.map eN))/\Sub m σ.mu/\acc++digits N' ys=digits N bases/\(∀ b∈ys,0<b/\b<=1000)/\acc.length+ys.length<=1000) ?_ ?_ _ _ ⟨bases,N,[],rfl,rfl,rfl,Mt.set_self _ _ _,S0,rfl,hb,by simpa using hs⟩
 ·rintro⟨loc,mu⟩ ⟨ys,N',acc,hx,h1,h2,m1,S,he,hb,hl⟩
  obtain rfl: ys=[] := by cases ys<;>simp at hx ⊢
  dsimp only at h1 h2 m1 S
  refine⟨guardL_of (asL_sub S hd),?_⟩
  (kst_p;repeat (simp only[bs,h1];kst_p))
  have e1: acc=digits N bases := by simpa [digits]using he
  exact⟨m,_,S.list m1 ha,e1▸h⟩
 ·rintro x xs ⟨loc,mu⟩ K ⟨ys,N',acc,hx,h1,h2,m1,S,he,hb,hl⟩ hK
  dsimp only at h1 h2 m1 S
  refine⟨guardL_of (asL_sub S hd),?_⟩
  cases ys with
  |nil=>cases hx
  |cons b r=>
  simp only[List.map_cons,List.cons.injEq]at hx
  obtain⟨rfl,rfl⟩ := hx
  have hb0 := hb b (by simp)
  (kst_p;repeat (simp only[bs,h1,h2,calOf,m1];kst_p))
  refine⟨by show(0: Int)<(b: Int);omega,?_⟩
  (kst_p;repeat (simp only[bs,h1,h2,m1];kst_p))
  refine⟨small_of (by simp at hl;simp;omega),?_⟩
  (kst_p;repeat (simp only[bs,h1,h2,m1];kst_p))
  refine⟨by show(0: Int)<(b: Int);omega,bigI_of (by omega),?_⟩
  kst_p
  refine hK _ ⟨r,N' / b,acc++[N' % b],rfl,by simp[look_put,h1],by simp[look_put],?_,S.put ha,by rw[<-he];simp[digits],fun c hc=>hb c (List.mem_cons_of_mem _ hc),by simp at hl ⊢;omega⟩
  simp[Mt.look,eN]
end
section
theorem upTo_down: ∀ k: Nat,upTo k ((k: Int)-1) (-1)=(List.range k).reverse.map eN
 |0=>rfl
 |k+1=>by
  rw[List.range_succ,List.reverse_append]
  simp only[upTo,List.reverse_cons,List.reverse_nil,List.nil_append,List.cons_append,List.map_cons]
  rw[<-upTo_down k]
  have e: ((k+1: Nat): Int)-1=(k: Int) := by omega
  rw[e];rfl
theorem rngLen_down (k: Nat): rngLen ((k: Int)-1) (-1) (-1)=k := by
 unfold rngLen Builtin.Range.rangeSize
 simp
 try (split<;>omega)
theorem iter_down (m: Mt) (k: Nat): iterL m (.rng ((k: Int)-1) (-1) (-1))=some ((List.range k).reverse.map eN) := by
 simp only[iterL,rngLen_down,upTo_down]
variable {W: Wd} (G: Gd W) {n: Nat} {m: Mt} {Q X: DV->Mt->Prop}
theorem asL_new {mu: Mt} {a: Addr} {l: List DV}: asL (mu.set a (.lst l)) (.ref a)=some l := asL_ref (Mt.set_self _ _ _)
omit G in
theorem loops_t1 {loc: Loc} {mu: Mt} {l: Addr} {dm: DV} {L M: List Way} {e: Nat} {k: Kept} {lazy: Bool} (h0: look loc 3636518804617=some (.ref l)) (h1: look loc 566630696248834=some (.bool lazy)) (h2: look loc 1695162=some (.int (e: Nat))) (h3: look loc 253056312=some (eK k)) (h4: look loc 220890551=some dm)
  (hm: asL mu dm=some (M.map eW)) (hl: mu l=some (.lst (L.map eW))) (sM: M.length<=1000) (sL: L.length<=1000) {Qs: Option DV->St->Prop} {Xs: DV->St->Prop}
  (K: ∀ mu',Sub mu mu'->Qs none ⟨loc,mu'.set l (.lst ((L++(if lazy then[(e,k)]++M else M++[(e,k)])).map eW))⟩): wpSs W 45 T0 n c_loops_t1 Qs Xs ⟨loc,mu⟩ := by
 unfold c_loops_t1
 (kst_p;repeat (simp only[bs,h0,h1,calOf,hl];kst_p))
 cases lazy with
 |true=>
  (kst_p;repeat (simp only[bs,h2,h3];kst_p))
  (intro b hb;(try dsimp only at hb);kst_p)
  have Sb: Sub mu (mu.set b (.lst [eW (e,k)])) := Sub.rfl.new hb
  have e0: (DV.tup [.int (e: Nat),eK k])=eW (e,k) := rfl
  (kst_p;repeat (simp only[bs,h4,asL_sub Sb hm,asL_new,e0];kst_p))
  refine⟨small_of (by simp;omega),?_⟩
  (intro c hc;(try dsimp only at hc);kst_p)
  have nb: l≠b := fun q=>by subst q;rw[hl]at hb;cases hb
  have nc: l≠c := fun q=>by subst q;rw[Mt.set_ne _ _ nb,hl]at hc;cases hc
  (kst_p;repeat (simp only[bs,Mt.look,nb,nc,hl,asL_new];kst_p))
  refine⟨small_of (by simp;omega),?_⟩
  kst_p
  have := K _ (Sb.new (o := .lst ((eW (e,k))::M.map eW)) hc)
  simpa using this
 |false=>
  (kst_p;repeat (simp only[bs,h2,h3,h4];kst_p))
  (intro b hb;(try dsimp only at hb);kst_p)
  have Sb: Sub mu (mu.set b (.lst [eW (e,k)])) := Sub.rfl.new hb
  have e0: (DV.tup [.int (e: Nat),eK k])=eW (e,k) := rfl
  (kst_p;repeat (simp only[bs,h4,asL_sub Sb hm,asL_new,e0];kst_p))
  refine⟨small_of (by simp;omega),?_⟩
  (intro c hc;(try dsimp only at hc);kst_p)
  have nb: l≠b := fun q=>by subst q;rw[hl]at hb;cases hb
  have nc: l≠c := fun q=>by subst q;rw[Mt.set_ne _ _ nb,hl]at hc;cases hc
  (kst_p;repeat (simp only[bs,Mt.look,nb,nc,hl,asL_new];kst_p))
  refine⟨small_of (by simp;omega),?_⟩
  kst_p
  have := K _ (Sb.new (o := .lst (M.map eW++[eW (e,k)])) hc)
  simpa using this
include G
theorem sp_loops {dt: DV} (t: Table) (lazy: Bool) (ht: asL m dt=some (t.map eWs)) (N: Nat) (hN: N<=5) (wf: WfT N t) (h: Q (.lst ((loops t lazy).map eWs)) m): CallOk W 45 (n+3) 366 [dt,.bool lazy] m Q X := by
 refine G.fn G.k_law_loops .nil rfl ?_
 unfold c_law_loops
 (kst_p;repeat (simp only[bs,iterL_of ht];kst_p))
 refine⟨rngOk_of ht,small_of (by simp[wf.1];omega),?_⟩
 refine compW_of eWs (fun _=>.lst []) (guardL_of ht) ?_ ?_
 ·intro x hx K hK
  kst_p
  (intro b hb;(try dsimp only at hb);kst_p)
  exact⟨_,_,.trans (.lst (Mt.set_self _ _ _)) (Sub.fz (fun c o e=>by rw[Mt.del_ne _ (Sub.rfl.ne hb e),Mt.set_ne _ _ (Sub.rfl.ne hb e)];exact e)),hK⟩
 ·(intro a ha;(try dsimp only at ha);kst_p)
  have S0: Sub m (m.set a (.lst (t.map fun _=>.lst []))) := Sub.rfl.new ha
  (kst_p;repeat (simp only[bs,lenV_of (asL_sub S0 ht)];kst_p))
  refine⟨small_of (by simp[wf.1];omega),?_⟩
  kst_p
  refine⟨by simp[bigI,wf.1];omega,by unfold bigI;omega,.inr rfl,?_⟩
  have eL: Int.ofNat (t.map eWs).length-1=(N: Int)-1 := by simp[wf.1]
  simp only[eL,iter_down]
  refine⟨⟨by unfold bigI;omega,by unfold bigI;omega,.inr rfl⟩,?_⟩
  refine forW_ind (fun xs σ=>∃(ys zs: List Nat) (f: Table),xs=ys.map eN/\zs++ys=(List.range N).reverse/\f=zs.foldl (loopStep t lazy) (t.map fun _=>[])/\WfT N f/\look σ.loc 28209471649=some (.ref a)/\look σ.loc 28481783181=some dt/\look σ.loc 566630696248834=some (.bool lazy)/\σ.mu a=some (.lst (f.map eWs))/\Sub m σ.mu) ?_ ?_ _ _ ⟨(List.range N).reverse,[],t.map fun _=>[],rfl,rfl,rfl,⟨by simp[wf.1],fun l hl=>by obtain⟨_,_,rfl⟩ := List.mem_map.mp hl;exact .nil⟩,rfl,rfl,rfl,by simp[Mt.look,eWs],S0⟩
  ·rintro⟨loc,mu⟩ ⟨ys,zs,f,hx,hz,hf,wf',h1,h2,h3,m1,S⟩
   obtain rfl: ys=[] := by cases ys<;>simp at hx ⊢
   rw[List.append_nil]at hz
   dsimp only at h1 h2 h3 m1 S
   refine⟨trivial,?_⟩
   (kst_p;repeat (simp only[bs,h1];kst_p))
   refine⟨m,_,S.list m1 ha,?_⟩
   have: f=loops t lazy := by rw[hf,hz];unfold loops;rw[wf.1]
   rw[this];exact h
  ·rintro x xs ⟨loc,mu⟩ K ⟨ys,zs,f,hx,hz,hf,wf',h1,h2,h3,m1,S⟩ hK
   dsimp only at h1 h2 h3 m1 S
   refine⟨trivial,?_⟩
   cases ys with
   |nil=>cases hx
   |cons at_ r=>
   simp only[List.map_cons,List.cons.injEq]at hx
   obtain⟨rfl,rfl⟩ := hx
   have hat: at_<N := by
    have: at_∈(List.range N).reverse := by rw[<-hz];simp
    simpa using this
   (kst_p;repeat (simp only[bs,h1,h2];kst_p))
   (intro l hl;(try dsimp only at hl);kst_p)
   have S1: Sub m (mu.set l (.lst [])) := S.new hl
   have hml := S.absent hl
   have nla: a≠l := fun q=>by subst q;rw[m1]at hl;cases hl
   (kst_p;repeat (simp only[bs,h1,h2];kst_p))
   refine subW_of (asL_sub S1 ht) (k := at_) (d := eWs (row t at_)) (by omega) (by rw[List.getElem?_map,row_get (by rw[wf.1];exact hat)];rfl) ?_
   kst_p
   refine⟨trivial,?_⟩
   have wr := row_wf wf at_
   refine forW_ind (fun xs σ=>∃(us vs: List Way),xs=us.map eW/\vs++us=row t at_/\look σ.loc 3636518804617=some (.ref l)/\look σ.loc 15191=some (.int (at_: Nat))/\look σ.loc 28209471649=some (.ref a)/\look σ.loc 28481783181=some dt/\look σ.loc 566630696248834=some (.bool lazy)/\σ.mu l=some (.lst ((vs.flatMap (loopOne f lazy at_)).map eW))/\σ.mu a=some (.lst (f.map eWs))/\Sub m σ.mu) ?_ ?_ _ _ ⟨row t at_,[],rfl,rfl,by simp[look_put],by simp[look_put,eN],by simp[look_put,h1],by simp[look_put,h2],by simp[look_put,h3],Mt.set_self _ _ _,by simp[Mt.look,nla,m1],S1⟩
   ·rintro⟨loc,mu⟩ ⟨us,vs,hx,hv,g1,g2,g3,g4,g5,n1,n2,S⟩
    obtain rfl: us=[] := by cases us<;>simp at hx ⊢
    rw[List.append_nil]at hv
    dsimp only at g1 g2 g3 g4 g5 n1 n2 S
    refine⟨trivial,?_⟩
    (kst_p;repeat (simp only[bs,g1];kst_p))
    refine sp_first G _ (asL_ref n1) ?_ ?_
    ·refine Nat.le_trans (flat_len (c := 6) (fun p=>loopOne_len hN wf') vs) ?_
     have := congrArg List.length hv
     have := wr.1
     omega
    ·(kst_p;repeat (simp only[bs,g3,g2];kst_p))
     have e: setSub (.ref a) (.int (at_: Nat)) (eWs (first (vs.flatMap (loopOne f lazy at_)))) K ⟨loc,mu⟩ := by
      unfold setSub
      simp only[n2]
      refine⟨by rw[List.length_map,wf'.1];exact hat,small_of (by rw[List.length_map,wf'.1];omega),?_⟩
      refine hK _ ⟨r,zs++[at_],loopStep t lazy f at_,rfl,by simpa using hz,by rw[List.foldl_append,<-hf];rfl,loopStep_wf hN wf wf',g3,g4,g5,?_,S.put ha⟩
      dsimp only;rw[Mt.set_self];unfold loopStep;rw[<-hv,List.map_set]
     exact e
   ·rintro x xs ⟨loc,mu⟩ K' ⟨us,vs,hx,hv,g1,g2,g3,g4,g5,n1,n2,S⟩ hK'
    dsimp only at g1 g2 g3 g4 g5 n1 n2 S
    refine⟨trivial,?_⟩
    cases us with
    |nil=>cases hx
    |cons p us=>
    obtain⟨e,k⟩ := p
    simp only[List.map_cons,List.cons.injEq]at hx
    obtain⟨rfl,rfl⟩ := hx
    have hp := wr.2 (e,k) (by rw[<-hv];simp)
    (kst_p;repeat (simp only[bs,g1,g2,cmpV];kst_p))
    have len1: (loopOne f lazy at_ (e,k)).length<=6 := loopOne_len hN wf'
    have lenv: (vs.flatMap (loopOne f lazy at_)).length<=30 := by
     refine Nat.le_trans (flat_len (c := 6) (fun p=>loopOne_len hN wf') vs) ?_
     have := congrArg List.length hv
     have := wr.1
     simp at *
     omega
    have nla': a≠l := nla
    cases hd: decide ((at_: Int)<(e: Int))<;>simp at hd
    ·have hone: loopOne f lazy at_ (e,k)=[(e,k)] := by
      unfold loopOne;rw[if_neg (show ¬ at_<(e,k).1 by dsimp only;omega)];cases lazy<;>rfl
     kst_p
     (intro c hc;(try dsimp only at hc);kst_p)
     have ncl: l≠c := fun q=>by subst q;rw[n1]at hc;cases hc
     have nca: a≠c := fun q=>by subst q;rw[n2]at hc;cases hc
     have Sc: Sub m (mu.set c (.lst [])) := S.new hc
     refine loops_t1 (l := l) (e := e) (k := k) (lazy := lazy) (M := []) (by simp[look_put,g1]) (by simp[look_put,g5]) (by simp[look_put]) (by simp[look_put]) (by simp[look_put]) asL_new (by rw[Mt.set_ne _ _ ncl];exact n1) (by simp) (by omega) fun mu' Sm=>?_
     refine hK' _ ⟨us,vs++[(e,k)],rfl,by simpa using hv,by simp[look_put,g1],by simp[look_put,g2],by simp[look_put,g3],by simp[look_put,g4],by simp[look_put,g5],?_,?_,(Sc.trans Sm).put hml⟩
     ·dsimp only;rw[Mt.set_self,List.flatMap_append,List.flatMap_cons,List.flatMap_nil,hone];cases lazy<;>simp
     ·dsimp only;rw[Mt.set_ne _ _ nla];exact Sm _ _ (by rw[Mt.set_ne _ _ nca];exact n2)
    ·have hone: loopOne f lazy at_ (e,k)=if lazy then[(e,k)]++joined [(e,k)] f else joined [(e,k)] f++[(e,k)] := by
      unfold loopOne;rw[if_pos (show at_<(e,k).1 by dsimp only;omega)]
     (kst_p;repeat (simp only[bs,g1,g2];kst_p))
     (intro c hc;(try dsimp only at hc);kst_p)
     have ncl: l≠c := fun q=>by subst q;rw[n1]at hc;cases hc
     have nca: a≠c := fun q=>by subst q;rw[n2]at hc;cases hc
     have Sc: Sub m (mu.set c (.lst ([(e,k)].map eW))) := S.new hc
     (kst_p;repeat (simp only[bs,g3];kst_p))
     refine sp_joined G [(e,k)] f asL_new (asL_ref (by rw[Mt.set_ne _ _ nca];exact n2)) (fun p hp'=>by rw[List.mem_singleton]at hp';subst hp';rw[wf'.1];exact hp) (fun l hl=>⟨(wf'.2 l hl).1,fun p hp=>((wf'.2 l hl).2 p hp).2⟩) (by simp) (by rw[wf'.1];exact hN) ?_
     kst_p
     have lj := (joined_wf (l := [(e,k)]) hN wf').1
     refine loops_t1 (l := l) (e := e) (k := k) (lazy := lazy) (M := joined [(e,k)] f) (by simp[look_put,g1]) (by simp[look_put,g5]) (by simp[look_put]) (by simp[look_put]) (by simp[look_put];rfl) rfl (by rw[Mt.set_ne _ _ ncl];exact n1) (by omega) (by omega) fun mu' Sm=>?_
     refine hK' _ ⟨us,vs++[(e,k)],rfl,by simpa using hv,by simp[look_put,g1],by simp[look_put,g2],by simp[look_put,g3],by simp[look_put,g4],by simp[look_put,g5],?_,?_,(Sc.trans Sm).put hml⟩
     ·dsimp only;rw[Mt.set_self,List.flatMap_append,List.flatMap_cons,List.flatMap_nil,hone,List.append_nil]
     ·dsimp only;rw[Mt.set_ne _ _ nla];exact Sm _ _ (by rw[Mt.set_ne _ _ nca];exact n2)
end
section
def eT (t: Table): DV := .lst (t.map eWs)
theorem nthB_of {text: List Nat} {k: Nat} (h: k<text.length) (hb: ∀ x∈text,x<256): nthB (text.map UInt8.ofNat).toArray (k: Int)=some (.int (text.getD k 0: Nat)) := by
 show((text.map UInt8.ofNat).toArray.toList[k]?).map _=_
 rw[List.toList_toArray,List.getElem?_map,List.getElem?_eq_getElem h,List.getD_eq_getElem?_getD,List.getElem?_eq_getElem h]
 have := hb _ (List.getElem_mem h)
 simp
 omega
theorem table_rows (t: Table): (List.range t.length).map (row t)=t := by
 apply List.ext_getElem
 ·simp
 ·intro i h1 h2
  simp[row,h2]
variable {W: Wd} (G: Gd W) {n: Nat} {m: Mt} {Q X: DV->Mt->Prop}
theorem newL_done {mu: Mt} {l: List DV} {loc: Loc} (S: Sub m mu) (h: Q (.lst l) m): newL l (fun d σ=>∃ m' d',Fz σ.mu d m' d'/\Q d' m') ⟨loc,mu⟩ := fun b hb=>⟨m,_,(S.new hb).list (Mt.set_self _ _ _) (S.absent hb),h⟩
theorem joined_cond {N: Nat} {l: List Way} {t: Table} (hl: Wf N l) (ht: WfT N t): (∀ p∈l,p.1<t.length/\p.2.length<=4)/\(∀ l∈t,l.length<=5/\∀ p∈l,p.2.length<=4) :=
 ⟨fun p hp=>by rw[ht.1];exact hl.2 p hp,fun l hl=>⟨(ht.2 l hl).1,fun p hp=>((ht.2 l hl).2 p hp).2⟩⟩
include G
theorem meant_t1 {loc: Loc} (text: List Nat) (lazy: Bool) (tt: Table) (hL: text.length<=4) (wf: WfT (text.length+1) tt) (h1: look loc 566630696248834=some (.bool lazy)) (h2: look loc 28481783181=some (eT tt)) (h3: look loc 4172336439038=some (.rng 0 (Int.ofNat text.length+1) 1))
  (h: Q (eT ((List.range (text.length+1)).map fun a=>first (if lazy then[(a,kNone)]++row tt a else row tt a++[(a,kNone)]))) m): wpSs W 45 T0 (n+3) c_meant_t1 (fun r σ=>∃ m' d',Fz σ.mu (r.getD .none) m' d'/\Q d' m') (fun d σ=>X d σ.mu) ⟨loc,m⟩ := by
 have hit: upTo (rngLen 0 (Int.ofNat text.length+1) 1) 0 1=(List.range (text.length+1)).map fun i=>DV.int (i: Nat) := by
  have := iter_range m (text.length+1)
  simp only[iterL,Option.some.injEq]at this
  exact this
 have hro: rngOk (.rng 0 ((text.length+1: Nat): Int) 1) := ⟨bigI_of (k := 0) (by omega),bigI_of (by omega),.inl rfl⟩
 have hsm: small ((List.range (text.length+1)).map fun i: Nat=>DV.int (i: Nat)).length := small_of (by simp;omega)
 have hat: ∀{a: Nat},a∈List.range (text.length+1)->a<text.length+1 := fun h=>List.mem_range.mp h
 have fin: ∀ loc: Loc,newL ((List.range (text.length+1)).map fun a=>eWs (first (if lazy then[(a,kNone)]++row tt a else row tt a++[(a,kNone)]))) (fun d σ=>∃ m' d',Fz σ.mu d m' d'/\Q d' m') ⟨loc,m⟩ := by
  intro loc
  refine newL_done Sub.rfl ?_
  unfold eT at h
  rwa [List.map_map]at h
 have hrow: ∀ a,a<text.length+1->(tt.map eWs)[a]?=some (eWs (row tt a)) := fun a ha=>by
  rw[List.getElem?_map,row_get (by rw[wf.1];exact ha)];rfl
 have e0: ∀ a: Nat,DV.tup [.int (a: Nat),eK kNone]=eW (a,kNone) := fun _=>rfl
 unfold c_meant_t1
 (kst_p;repeat (simp only[bs,h1];kst_p))
 cases lazy with
 |true=>
  (kst_p;repeat (simp only[bs,h3];kst_p))
  rw[hit]
  refine⟨hro,hsm,compW_of _ (fun a=>eWs (first ([(a,kNone)]++row tt a))) trivial ?_ (fin _)⟩
  intro a ha K hK
  have ha' := hat ha
  have w1 := row_wf wf a
  kst_p
  refine sp_none G ?_
  kst_p
  (intro b hb;(try dsimp only at hb);kst_p)
  (kst_p;repeat (simp only[bs,h2];kst_p))
  refine subW_of (m := m) (o := eT tt) (l := tt.map eWs) rfl (k := a) (by omega) (hrow a ha') ?_
  (kst_p;repeat (simp only[bs,asL_new,e0];kst_p))
  refine⟨small_of (by have := w1.1;simp;omega),?_⟩
  (intro c hc;(try dsimp only at hc);kst_p)
  have S1 := (Sub.rfl.new hb).new (o := .lst (eW (a,kNone)::(row tt a).map eW)) hc
  refine sp_first G ((a,kNone)::row tt a) (asL_ref (by rw[Mt.set_self,List.map_cons])) (by have := w1.1;simp;omega) ?_
  kst_p
  exact⟨m,_,Sub.fz S1,hK⟩
 |false=>
  (kst_p;repeat (simp only[bs,h3];kst_p))
  rw[hit]
  refine⟨hro,hsm,compW_of _ (fun a=>eWs (first (row tt a++[(a,kNone)]))) trivial ?_ (fin _)⟩
  intro a ha K hK
  have ha' := hat ha
  have w1 := row_wf wf a
  (kst_p;repeat (simp only[bs,h2];kst_p))
  refine subW_of (m := m) (o := eT tt) (l := tt.map eWs) rfl (k := a) (by omega) (hrow a ha') ?_
  kst_p
  refine sp_none G ?_
  kst_p
  (intro b hb;(try dsimp only at hb);kst_p)
  (kst_p;repeat (simp only[bs,asL_new,e0];kst_p))
  refine⟨small_of (by have := w1.1;simp;omega),?_⟩
  (intro c hc;(try dsimp only at hc);kst_p)
  have S1 := (Sub.rfl.new hb).new (o := .lst ((row tt a).map eW++[eW (a,kNone)])) hc
  refine sp_first G (row tt a++[(a,kNone)]) (asL_ref (by rw[Mt.set_self,List.map_append];rfl)) (by have := w1.1;simp;omega) ?_
  kst_p
  exact⟨m,_,Sub.fz S1,hK⟩
theorem sp_meant {dt dh: DV} (o: Ord) (tables: List Table) (r: Row) (text holds: List Nat) (ht: asL m dt=some (tables.map eT)) (hh: asL m dh=some (holds.map eN)) (hL: text.length<=4) (hT: ∀ x∈text,x<256) (hH: holds.length=5) (wf: ∀ t∈tables,WfT (text.length+1) t) (hm: tables.length=many o) (h: Q (eT (meant o tables r text holds)) m): CallOk W 45 (n+4) 371 [eO o,dt,eR r,eB text,dh] m Q X := by
 refine G.fn G.k_law_meant .nil rfl ?_
 unfold c_law_meant
 kst_p
 have hsz: (text.map UInt8.ofNat).toArray.size=text.length := by simp
 have hc: Int.ofNat text.length+1=((text.length+1: Nat): Int) := rfl
 simp only[hsz,hc]
 kst_all
 have hit: upTo (rngLen 0 (Int.ofNat text.length+1) 1) 0 1=(List.range (text.length+1)).map fun i=>DV.int (i: Nat) := by
  have := iter_range m (text.length+1)
  simp only[iterL,Option.some.injEq]at this
  exact this
 have hro: rngOk (.rng 0 ((text.length+1: Nat): Int) 1) := ⟨bigI_of (k := 0) (by omega),bigI_of (by omega),.inl rfl⟩
 have hsm: small ((List.range (text.length+1)).map fun i: Nat=>DV.int (i: Nat)).length := small_of (by simp;omega)
 have fin: ∀(f: Nat->List Way),meant o tables r text holds=(List.range (text.length+1)).map f->∀ loc: Loc,newL ((List.range (text.length+1)).map fun a=>eWs (f a)) (fun d σ=>∃ m' d',Fz σ.mu d m' d'/\Q d' m') ⟨loc,m⟩ := by
  intro f hf loc
  refine newL_done Sub.rfl ?_
  rw[hf]at h
  unfold eT at h
  rwa [List.map_map]at h
 have hat: ∀{a: Nat},a∈List.range (text.length+1)->a<text.length+1 := fun h=>List.mem_range.mp h
 have htab: ∀ k,k<tables.length->(tables.map eT)[k]?=some (eT (tab tables k)) := fun k hk=>by
  rw[List.getElem?_map,List.getElem?_eq_getElem hk];unfold tab;rw[List.getD_eq_getElem?_getD,List.getElem?_eq_getElem hk];rfl
 have hrow: ∀ k,k<tables.length->∀ a,a<text.length+1->((tab tables k).map eWs)[a]?=some (eWs (row (tab tables k) a)) := fun k hk a ha=>by
  rw[List.getElem?_map,row_get (by rw[(tab_wf wf k hk).1];exact ha)];rfl
 cases o<;>simp only[many]at hm<;>kst_p<;>(try rw[hit])
 case none=>
  refine⟨hro,hsm,compW_of _ (fun _=>eWs []) trivial ?_ (fin _ rfl _)⟩
  intro a ha K hK
  kst_p
  (intro b hb;(try dsimp only at hb);kst_p)
  exact⟨m,_,Sub.list (Sub.rfl.new hb) (Mt.set_self _ _ _) hb,hK⟩
 case nop=>
  refine⟨hro,hsm,compW_of _ (fun a=>eWs [(a,kNone)]) trivial ?_ (fin _ rfl _)⟩
  intro a ha K hK
  kst_p
  refine sp_none G ?_
  kst_p
  (intro b hb;(try dsimp only at hb);kst_p)
  exact⟨m,_,Sub.list (Sub.rfl.new hb) (Mt.set_self _ _ _) hb,hK⟩
 case empty=>
  refine⟨hro,hsm,compW_of _ (fun a=>eWs (if emptyAt r.bits holds a then[(a,kNone)]else[])) trivial ?_ (fin _ rfl _)⟩
  intro a ha K hK
  have := hat ha
  kst_p
  refine subW_of hh (k := a) (d := eN (holds.getD a 0)) (by omega) (by rw[List.getElem?_map,List.getElem?_eq_getElem (by omega),List.getD_eq_getElem?_getD,List.getElem?_eq_getElem (by omega)];rfl) ?_
  kst_p
  refine⟨Int.natCast_nonneg _,Int.natCast_nonneg _,?_⟩
  (kst_p;repeat (simp only[bs,cmpV];kst_p))
  have hE: emptyAt r.bits holds a=decide (Int.ofNat ((Int.toNat (holds.getD a 0: Nat))&&& (Int.toNat (r.bits: Nat)))=(r.bits: Int)) := by
   unfold emptyAt
   rw[Int.toNat_natCast,Int.toNat_natCast,decide_eq_decide]
   constructor
   ·intro h;exact congrArg Int.ofNat h
   ·intro h;exact Int.ofNat.inj h
  cases hd: emptyAt r.bits holds a<;>rw[hd]at hE hK<;>simp only[<-hE]
  ·(intro b hb;(try dsimp only at hb);kst_p)
   exact⟨m,_,Sub.list (Sub.rfl.new hb) (Mt.set_self _ _ _) hb,hK⟩
  ·kst_p
   refine sp_none G ?_
   kst_p
   (intro b hb;(try dsimp only at hb);kst_p)
   exact⟨m,_,Sub.list (Sub.rfl.new hb) (Mt.set_self _ _ _) hb,hK⟩
 case range=>
  refine⟨hro,hsm,compW_of _ (fun a=>eWs (if rangeAt r.lo r.hi r.fold text a then[(a+1,kNone)]else[])) trivial ?_ (fin _ rfl _)⟩
  intro a ha K hK
  have := hat ha
  kst_p
  simp only[hsz]
  refine⟨small_of (by omega),?_⟩
  (kst_p;repeat (simp only[bs,cmpV];kst_p))
  unfold rangeAt at hK
  cases hd: decide ((a: Int)<Int.ofNat text.length)<;>simp at hd<;>kst_p
  ·rw[decide_eq_false (by omega)]at hK
   (intro b hb;(try dsimp only at hb);kst_p)
   exact⟨m,_,Sub.list (Sub.rfl.new hb) (Mt.set_self _ _ _) hb,hK⟩
  ·rw[decide_eq_true (by omega)]at hK
   refine⟨bigI_of (by omega),?_⟩
   kst_p
   simp only[hsz,nthB_of hd hT]
   refine⟨small_of (by omega),?_⟩
   kst_p
   refine sp_fits G _ _ _ _ ?_
   cases hf: fits r.lo r.hi r.fold (text.getD a 0)<;>rw[hf]at hK<;>kst_p
   ·(intro b hb;(try dsimp only at hb);kst_p)
    exact⟨m,_,Sub.list (Sub.rfl.new hb) (Mt.set_self _ _ _) hb,hK⟩
   ·refine sp_none G ?_
    kst_p
    (intro b hb;(try dsimp only at hb);kst_p)
    exact⟨m,_,Sub.list (Sub.rfl.new hb) (Mt.set_self _ _ _) hb,hK⟩
 case cat=>
  refine⟨hro,hsm,compW_of _ (fun a=>eWs (joined (row (tab tables 0) a) (tab tables 1))) trivial ?_ (fin _ rfl _)⟩
  intro a ha K hK
  have ha' := hat ha
  kst_p
  refine subW_of ht (k := 0) (by omega) (htab 0 (by omega)) ?_
  kst_p
  refine subW_of (m := m) (o := eT (tab tables 0)) (l := (tab tables 0).map eWs) rfl (k := a) (by omega) (hrow 0 (by omega) a ha') ?_
  kst_p
  refine subW_of ht (k := 1) (by omega) (htab 1 (by omega)) ?_
  kst_p
  have w1 := row_wf (tab_wf wf 0 (by omega)) a
  have w2 := tab_wf wf 1 (by omega)
  have jc := joined_cond w1 w2
  refine sp_joined G _ _ rfl rfl jc.1 jc.2 w1.1 (by rw[w2.1];omega) ?_
  kst_p
  exact⟨_,_,.refl,hK⟩
 case alt=>
  refine⟨hro,hsm,compW_of _ (fun a=>eWs (first (row (tab tables 0) a++row (tab tables 1) a))) trivial ?_ (fin _ rfl _)⟩
  intro a ha K hK
  have ha' := hat ha
  have w1 := row_wf (tab_wf wf 0 (by omega)) a
  have w2 := row_wf (tab_wf wf 1 (by omega)) a
  kst_p
  refine subW_of ht (k := 0) (by omega) (htab 0 (by omega)) ?_
  kst_p
  refine subW_of (m := m) (o := eT (tab tables 0)) (l := (tab tables 0).map eWs) rfl (k := a) (by omega) (hrow 0 (by omega) a ha') ?_
  kst_p
  refine subW_of ht (k := 1) (by omega) (htab 1 (by omega)) ?_
  kst_p
  refine subW_of (m := m) (o := eT (tab tables 1)) (l := (tab tables 1).map eWs) rfl (k := a) (by omega) (hrow 1 (by omega) a ha') ?_
  kst_p
  refine⟨small_of (by have := w1.1;have := w2.1;simp;omega),?_⟩
  (intro b hb;(try dsimp only at hb);kst_p)
  refine sp_first G (row (tab tables 0) a++row (tab tables 1) a) (asL_ref (by rw[Mt.set_self,List.map_append])) (by have := w1.1;have := w2.1;simp;omega) ?_
  kst_p
  exact⟨m,_,Sub.fz (Sub.rfl.new hb),hK⟩
 case capture=>
  refine⟨hro,hsm,compW_of _ (fun a=>eWs (group (row (tab tables 0) a) a r.s0 r.s1)) trivial ?_ (fin _ rfl _)⟩
  intro a ha K hK
  have ha' := hat ha
  have w1 := row_wf (tab_wf wf 0 (by omega)) a
  kst_p
  refine subW_of ht (k := 0) (by omega) (htab 0 (by omega)) ?_
  kst_p
  refine subW_of (m := m) (o := eT (tab tables 0)) (l := (tab tables 0).map eWs) rfl (k := a) (by omega) (hrow 0 (by omega) a ha') ?_
  kst_p
  refine sp_group G _ a _ _ rfl (fun p hp=>(w1.2 p hp).2) (by have := w1.1;omega) ?_
  kst_p
  exact⟨_,_,.refl,hK⟩
 case plus=>
  refine subW_of ht (k := 0) (by omega) (htab 0 (by omega)) ?_
  kst_p
  refine sp_loops G _ r.lazy rfl (text.length+1) (by omega) (tab_wf wf 0 (by omega)) ?_
  kst_p
  refine⟨_,_,.refl,?_⟩
  have := loops_wf (lazy := r.lazy) (by omega) (tab_wf wf 0 (by omega))
  have e: meant .plus tables r text holds=loops (tab tables 0) r.lazy := by
   conv=>rhs;rw[<-table_rows (loops (tab tables 0) r.lazy),this.1]
   rfl
  rw[e]at h
  exact h
 case quest=>
  refine subW_of ht (k := 0) (by omega) (htab 0 (by omega)) ?_
  kst_p
  exact meant_t1 G text r.lazy (tab tables 0) hL (tab_wf wf 0 (by omega)) rfl rfl rfl h
 case star=>
  refine subW_of ht (k := 0) (by omega) (htab 0 (by omega)) ?_
  kst_p
  refine sp_loops G _ r.lazy rfl (text.length+1) (by omega) (tab_wf wf 0 (by omega)) ?_
  kst_p
  exact meant_t1 G text r.lazy (loops (tab tables 0) r.lazy) hL (loops_wf (by omega) (tab_wf wf 0 (by omega))) rfl rfl rfl h
end
section
theorem nat_beq (a b: Nat): Nat.beq a b=decide (a=b) := by rw[Bool.eq_iff_iff];simp
variable {W: Wd} (G: Gd W) {n: Nat} {m: Mt} {Q X: DV->Mt->Prop}
include G
theorem sp_needs {ds: DV} (o: Ord) (shapes: List Shape) (hs: asL m ds=some (shapes.map eS)) (hm: shapes.length=many o) (h: Q (.int (needs o shapes: Nat)) m): CallOk W 45 (n+1) 376 [eO o,ds] m Q X := by
 refine G.fn G.k_law_needs .nil rfl ?_
 unfold c_law_needs
 (kst_p;repeat (simp only[bs,iterL_of hs];kst_p))
 have hl: shapes.length<=2 := by rw[hm];cases o<;>decide
 refine⟨rngOk_of hs,small_of (by simp;omega),?_⟩
 refine compW_of eS (fun s=>.bool s.1) (guardL_of hs) ?_ ?_
 ·intro s _ K hK
  kst_p
  kst_all
  exact⟨_,_,.refl,hK⟩
 ·(intro a ha;(try dsimp only at ha);kst_p)
  have S0: Sub m (m.set a (.lst (shapes.map fun s=>.bool s.1))) := Sub.rfl.new ha
  have ma: (m.set a (.lst (shapes.map fun s=>.bool s.1))) a=some (.lst (shapes.map fun s=>.bool s.1)) := Mt.set_self _ _ _
  generalize m.set a (.lst (shapes.map fun s=>.bool s.1))=mu at S0 ma
  have hs' := asL_sub S0 hs
  cases o<;>simp only[many]at hm
  case range=>kst_p;exact⟨_,_,Sub.fz S0,h⟩
  case cat=>kst_p;exact⟨_,_,Sub.fz S0,h⟩
  case quest=>kst_p;exact⟨_,_,Sub.fz S0,h⟩
  case empty=>kst_p;exact⟨_,_,Sub.fz S0,h⟩
  case nop=>kst_p;exact⟨_,_,Sub.fz S0,h⟩
  case none=>kst_p;exact⟨_,_,Sub.fz S0,h⟩
  case alt=>
   match shapes,hm with
   |[(a1,b1),(a2,b2)],_=>
    cases a1<;>cases a2<;>(kst_p;repeat (simp only[bs,cmpV,inV,ma];kst_p))<;>exact⟨_,_,Sub.fz S0,h⟩
  case plus=>
   match shapes,hm with
   |[(a1,b1)],_=>
    cases a1<;>(kst_p;repeat (simp only[bs,cmpV,inV,ma];kst_p))<;>exact⟨_,_,Sub.fz S0,h⟩
  case capture=>
   match shapes,hm with
   |[(a1,b1)],_=>
    cases a1<;>(kst_p;repeat (simp only[bs,cmpV,inV,ma];kst_p))<;>exact⟨_,_,Sub.fz S0,h⟩
  case star=>
   match shapes,hm with
   |[(a1,b1)],_=>
    (kst_p;repeat (simp only[bs,cmpV,inV,ma];kst_p))
    refine subW_of hs' (k := 0) (d := eS (a1,b1)) (by omega) rfl ?_
    kst_p
    kst_all
    cases b1<;>kst_p<;>exact⟨_,_,Sub.fz S0,h⟩
theorem sp_shape {ds: DV} (o: Ord) (shapes: List Shape) (hs: asL m ds=some (shapes.map eS)) (hm: shapes.length=many o) (h: Q (eS (shape o shapes)) m): CallOk W 45 (n+1) 383 [eO o,ds] m Q X := by
 refine G.fn G.k_law_shape .nil rfl ?_
 unfold c_law_shape
 cases o<;>simp only[many]at hm
 case range=>kst_p;refine⟨_,_,.refl,?_⟩;simp[Ord.code,nat_beq];simpa [shape,eS]using h
 case quest=>kst_p;refine⟨_,_,.refl,?_⟩;simp[Ord.code,nat_beq];simpa [shape,eS]using h
 case empty=>kst_p;refine⟨_,_,.refl,?_⟩;simp[Ord.code,nat_beq];simpa [shape,eS]using h
 case nop=>kst_p;refine⟨_,_,.refl,?_⟩;simp[Ord.code,nat_beq];simpa [shape,eS]using h
 case none=>kst_p;refine⟨_,_,.refl,?_⟩;simp[Ord.code,nat_beq];simpa [shape,eS]using h
 case star=>kst_p;refine⟨_,_,.refl,?_⟩;simp[Ord.code,nat_beq];simpa [shape,eS]using h
 case plus=>
  match shapes,hm with
  |[(a1,b1)],_=>
   kst_p
   refine subW_of hs (k := 0) (d := eS (a1,b1)) (by omega) rfl ?_
   exact⟨_,_,.refl,h⟩
 case capture=>
  match shapes,hm with
  |[(a1,b1)],_=>
   kst_p
   refine subW_of hs (k := 0) (d := eS (a1,b1)) (by omega) rfl ?_
   exact⟨_,_,.refl,h⟩
 case cat=>
  match shapes,hm with
  |[(a1,b1),(a2,b2)],_=>
   kst_p
   refine subW_of hs (k := 0) (d := eS (a1,b1)) (by omega) rfl ?_
   kst_p;kst_all
   cases a1<;>kst_p
   ·refine subW_of hs (k := 1) (d := eS (a2,b2)) (by omega) rfl ?_
    kst_p;kst_all
    cases a2<;>kst_p
    ·refine subW_of hs (k := 0) (d := eS (_,b1)) (by omega) rfl ?_
     kst_p;kst_all
     cases b1<;>kst_p
     ·exact⟨_,_,.refl,h⟩
     ·refine subW_of hs (k := 1) (d := eS (_,b2)) (by omega) rfl ?_
      kst_p;kst_all
      exact⟨_,_,.refl,h⟩
    ·exact⟨_,_,.refl,h⟩
   ·exact⟨_,_,.refl,h⟩
 case alt=>
  match shapes,hm with
  |[(a1,b1),(a2,b2)],_=>
   kst_p
   refine subW_of hs (k := 0) (d := eS (a1,b1)) (by omega) rfl ?_
   kst_p;kst_all
   cases a1<;>kst_p
   ·refine subW_of hs (k := 0) (d := eS (_,b1)) (by omega) rfl ?_
    kst_p;kst_all
    cases b1<;>kst_p
    ·refine subW_of hs (k := 1) (d := eS (_,b2)) (by omega) rfl ?_
     kst_p;kst_all
     exact⟨_,_,.refl,h⟩
    ·exact⟨_,_,.refl,h⟩
   ·refine subW_of hs (k := 1) (d := eS (a2,b2)) (by omega) rfl ?_
    kst_p;refine⟨by kst_mem,?_⟩;kst_p
    refine subW_of hs (k := 0) (d := eS (_,b1)) (by omega) rfl ?_
    kst_p;kst_all
    cases b1<;>kst_p
    ·refine subW_of hs (k := 1) (d := eS (_,b2)) (by omega) rfl ?_
     kst_p;kst_all
     exact⟨_,_,.refl,h⟩
    ·exact⟨_,_,.refl,h⟩
end
def insN: List Nat := [14689,1962331,1745597,2011477,227146788,7806419509700087986,543339266573686]
def Ins.vals (i: Ins): List DV := [.int (i.op: Nat),.int (i.out: Nat),.int (i.arg: Nat),.int (i.low: Nat),.int (i.high: Nat),.bool i.fold,.bool false]
structure Lay where
 M: Addr
 D: Addr
 L: Addr
 ps: List (Addr×Addr)
structure Mk (l: Lay) (most: Nat) (is: List Ins) (r m: Mt): Prop where
 hM: m l.M=some (.inst 200 l.D)
 hD: m l.D=some (.attrs [253107527,32376161590] [.int (most: Nat),.ref l.L])
 hL: m l.L=some (.lst (l.ps.map fun p=>.ref p.1))
 len: l.ps.length=is.length
 hI: ∀ k p,l.ps[k]?=some p->m p.1=some (.inst 65 p.2)/\m p.2=some (.attrs insN (insAt is k).vals)
 nd1: (l.ps.map (·.1)).Nodup
 nd2: (l.ps.map (·.2)).Nodup
 out: ∀ b,b≠l.M->b≠l.D->b≠l.L->(∀ p∈l.ps,b≠p.1/\b≠p.2)->m b=r b
 dis: r l.M=none/\r l.D=none/\r l.L=none/\∀ p∈l.ps,r p.1=none/\r p.2=none
theorem Mk.at {l: Lay} {most: Nat} {is: List Ins} {r m: Mt} (H: Mk l most is r m) {k: Nat} (hk: k<is.length): ∃ p,l.ps[k]?=some p/\m p.1=some (.inst 65 p.2)/\m p.2=some (.attrs insN (insAt is k).vals) := by
 have: k<l.ps.length := by rw[H.len];exact hk
 exact⟨l.ps[k],List.getElem?_eq_getElem this,H.hI k _ (List.getElem?_eq_getElem this)⟩
theorem nodup_idx {α: Type} {l: List α} (nd: l.Nodup) {i j: Nat} {x: α} (hi: l[i]?=some x) (hj: l[j]?=some x): i=j := by
 obtain⟨h1,e1⟩ := List.getElem?_eq_some_iff.mp hi
 obtain⟨h2,e2⟩ := List.getElem?_eq_some_iff.mp hj
 exact(List.getElem_inj nd).mp (e1.trans e2.symm)
theorem Mk.setI {l: Lay} {most: Nat} {is: List Ins} {r m: Mt} (H: Mk l most is r m) {k: Nat} {p: Addr×Addr} (hp: l.ps[k]?=some p) (i: Ins): Mk l most (is.set k i) r (m.set p.2 (.attrs insN i.vals)) := by
 obtain⟨h1,h2⟩ := H.hI k p hp
 have hk: k<is.length := by rw[<-H.len];exact(List.getElem?_eq_some_iff.mp hp).1
 refine⟨?_,?_,?_,by rw[List.length_set];exact H.len,?_,H.nd1,H.nd2,?_,H.dis⟩
 ·rw[Mt.set_ne _ _ (fun e=>by have := H.hM;rw[e,h2]at this;cases this)];exact H.hM
 ·rw[Mt.set_ne _ _ (fun e=>by have := H.hD;rw[e,h2]at this;cases this)];exact H.hD
 ·rw[Mt.set_ne _ _ (fun e=>by have := H.hL;rw[e,h2]at this;cases this)];exact H.hL
 ·intro j q hq
  obtain⟨g1,g2⟩ := H.hI j q hq
  refine⟨by rw[Mt.set_ne _ _ (fun e=>by rw[e,h2]at g1;cases g1)];exact g1,?_⟩
  rw[insAt_set hk]
  by_cases e: j=k
  ·subst e
   rw[hp]at hq;cases hq
   rw[Mt.set_self,if_pos rfl]
  ·rw[if_neg e,Mt.set_ne _ _ (fun e'=>e (nodup_idx H.nd2 (x := q.2) (by rw[List.getElem?_map,hq];rfl) (by rw[List.getElem?_map,hp,e'];rfl)))]
   exact g2
 ·intro b b1 b2 b3 b4
  rw[Mt.set_ne _ _ (b4 p (List.mem_of_getElem? hp)).2]
  exact H.out b b1 b2 b3 b4
theorem Mk.setMost {l: Lay} {most: Nat} {is: List Ins} {r m: Mt} (H: Mk l most is r m) (most': Nat): Mk l most' is r (m.set l.D (.attrs [253107527,32376161590] [.int (most': Nat),.ref l.L])) := by
 refine⟨?_,Mt.set_self _ _ _,?_,H.len,?_,H.nd1,H.nd2,?_,H.dis⟩
 ·rw[Mt.set_ne _ _ (fun e=>by have := H.hM;rw[e,H.hD]at this;cases this)];exact H.hM
 ·rw[Mt.set_ne _ _ (fun e=>by have := H.hL;rw[e,H.hD]at this;cases this)];exact H.hL
 ·intro j q hq
  obtain⟨g1,g2⟩ := H.hI j q hq
  refine⟨by rw[Mt.set_ne _ _ (fun e=>by rw[e,H.hD]at g1;cases g1)];exact g1,?_⟩
  rw[Mt.set_ne _ _ (fun e=>by rw[e,H.hD]at g2;unfold insN at g2;simp at g2)];exact g2
 ·intro b b1 b2 b3 b4
  rw[Mt.set_ne _ _ b2]
  exact H.out b b1 b2 b3 b4
theorem Mk.fresh {l: Lay} {most: Nat} {is: List Ins} {r m: Mt} (H: Mk l most is r m) {a: Addr} (h: m a=none): a≠l.M/\a≠l.D/\a≠l.L/\(∀ p∈l.ps,a≠p.1/\a≠p.2) := by
 refine⟨(fun e=>by rw[e,H.hM]at h;cases h),(fun e=>by rw[e,H.hD]at h;cases h),(fun e=>by rw[e,H.hL]at h;cases h),fun p hp=>?_⟩
 obtain⟨k,hk⟩ := List.getElem?_of_mem hp
 obtain⟨g1,g2⟩ := H.hI k p hk
 exact⟨(fun e=>by rw[e,g1]at h;cases h),(fun e=>by rw[e,g2]at h;cases h)⟩
theorem Mk.push {l: Lay} {most: Nat} {is: List Ins} {r m mu: Mt} (H: Mk l most is r m) {a b: Addr} {i: Ins} (ha: m a=none) (hb: m b=none) (h1: mu a=some (.inst 65 b)) (h2: mu b=some (.attrs insN i.vals)) (h3: mu l.L=some (.lst (l.ps.map (fun p=>.ref p.1)++[.ref a]))) (h4: ∀ c,c≠a->c≠b->c≠l.L->mu c=m c) :
  Mk {l with ps := l.ps++[(a,b)]} most (is++[i]) r mu := by
 obtain⟨a1,a2,a3,a4⟩ := H.fresh ha
 obtain⟨b1,b2,b3,b4⟩ := H.fresh hb
 have MD: l.M≠l.L := fun e=>by have := H.hM;rw[e,H.hL]at this;cases this
 have DL: l.D≠l.L := fun e=>by have := H.hD;rw[e,H.hL]at this;cases this
 refine⟨?_,?_,?_,by simp[H.len],?_,?_,?_,?_,?_⟩
 ·show mu l.M=_;rw[h4 _ a1.symm b1.symm MD];exact H.hM
 ·show mu l.D=_;rw[h4 _ a2.symm b2.symm DL];exact H.hD
 ·show mu l.L=_;rw[h3];simp
 ·intro k p hk
  by_cases g: k<l.ps.length
  ·have hk: l.ps[k]?=some p := by rw[<-hk];exact(List.getElem?_append_left g).symm
   obtain⟨g1,g2⟩ := H.hI k p hk
   have hp := List.mem_of_getElem? hk
   rw[insAt_push,if_neg (by rw[<-H.len];omega)]
   rw[h4 _ (a4 p hp).1.symm (b4 p hp).1.symm (fun e=>by rw[e,H.hL]at g1;cases g1),h4 _ (a4 p hp).2.symm (b4 p hp).2.symm (fun e=>by rw[e,H.hL]at g2;cases g2)]
   exact⟨g1,g2⟩
  ·have: k=l.ps.length := by
    have := (List.getElem?_eq_some_iff.mp hk).1
    simp at this;omega
   subst this
   have hk: some (a,b)=some p := by rw[<-hk];simp
   cases hk
   rw[insAt_push,if_pos H.len]
   exact⟨h1,h2⟩
 ·rw[List.map_append,List.nodup_append]
  refine⟨H.nd1,by simp,fun x hx y hy=>?_⟩
  obtain⟨p,hp,rfl⟩ := List.mem_map.mp hx
  simp at hy;subst hy
  exact(a4 p hp).1.symm
 ·rw[List.map_append,List.nodup_append]
  refine⟨H.nd2,by simp,fun x hx y hy=>?_⟩
  obtain⟨p,hp,rfl⟩ := List.mem_map.mp hx
  simp at hy;subst hy
  exact(b4 p hp).2.symm
 ·intro c c1 c2 c3 c4
  have c5 := c4 (a,b) (by simp)
  rw[h4 c c5.1 c5.2 c3]
  exact H.out c c1 c2 c3 fun p hp=>c4 p (by simp[hp])
 ·refine⟨H.dis.1,H.dis.2.1,H.dis.2.2.1,fun p hp=>?_⟩
  rcases List.mem_append.mp hp with hp|hp
  ·exact H.dis.2.2.2 p hp
  ·simp at hp;subst hp
   exact⟨by rw[<-H.out a a1 a2 a3 a4];exact ha,by rw[<-H.out b b1 b2 b3 b4];exact hb⟩
theorem Mk.rest {l: Lay} {most: Nat} {is: List Ins} {r m: Mt} (H: Mk l most is r m): Sub r m := by
 intro b o h
 rw[H.out b (fun e=>by rw[e,H.dis.1]at h;cases h) (fun e=>by rw[e,H.dis.2.1]at h;cases h) (fun e=>by rw[e,H.dis.2.2.1]at h;cases h) (fun p hp=>⟨(fun e=>by rw[e,(H.dis.2.2.2 p hp).1]at h;cases h),(fun e=>by rw[e,(H.dis.2.2.2 p hp).2]at h;cases h)⟩)]
 exact h
theorem Mk.grow {l: Lay} {most: Nat} {is: List Ins} {r m r' m': Mt} (H: Mk l most is r m) (h1: ∀ b,r b=none->m b≠none->m' b=m b/\r' b=none) (h2: ∀ b,¬(r b=none/\m b≠none)->m' b=r' b): Mk l most is r' m' := by
 have K: ∀ b o,r b=none->m b=some o->m' b=some o/\r' b=none := fun b o e1 e2=>by
  obtain⟨g1,g2⟩ := h1 b e1 (by rw[e2];simp)
  exact⟨g1.trans e2,g2⟩
 refine⟨(K _ _ H.dis.1 H.hM).1,(K _ _ H.dis.2.1 H.hD).1,(K _ _ H.dis.2.2.1 H.hL).1,H.len,fun k p hp=>?_,H.nd1,H.nd2,fun b b1 b2 b3 b4=>?_,(K _ _ H.dis.1 H.hM).2,(K _ _ H.dis.2.1 H.hD).2,(K _ _ H.dis.2.2.1 H.hL).2,fun p hp=>?_⟩
 ·obtain⟨g1,g2⟩ := H.hI k p hp
  have := H.dis.2.2.2 p (List.mem_of_getElem? hp)
  exact⟨(K _ _ this.1 g1).1,(K _ _ this.2 g2).1⟩
 ·refine h2 b fun⟨e1,e2⟩=>e2 ?_
  rw[H.out b b1 b2 b3 b4];exact e1
 ·obtain⟨k,hk⟩ := List.getElem?_of_mem hp
  obtain⟨g1,g2⟩ := H.hI k p hk
  have := H.dis.2.2.2 p hp
  exact⟨(K _ _ this.1 g1).2,(K _ _ this.2 g2).2⟩
section
variable {W: Wd} (G: Gd W) {n: Nat} {m: Mt} {Q X: DV->Mt->Prop}
include G
theorem sp_Inst {x dx: Addr} (op: Nat) (h1: m x=some (.inst 65 dx)) (h2: m dx=some (.attrs [] [])) (h: Q .none (m.set dx (.attrs insN (opI op).vals))): CallOk W 45 (n+1) 62 [.ref x,.int (op: Nat)] m Q X := by
 have ne: x≠dx := fun e=>by rw[e,h2]at h1;cases h1
 refine G.fn G.k_Inst_init (.cons (.int _ _) (.cons (.int _ _) (.cons (.int _ _) (.cons (.int _ _) (.cons (.bool _) .nil))))) rfl ?_
 unfold c_Inst_init
 (kst_p;repeat (simp only[bs,setAt,h1,h2,Mt.look,ne,Mt.set_set];kst_p))
 refine⟨_,_,.refl,h⟩
theorem sp_Frag4 {x dx: Addr} (f: Fr) (h1: m x=some (.inst 137 dx)) (h2: m dx=some (.attrs [] [])) (h: Q .none (m.set dx (.attrs [30967732746,250711086,131251851267392784618517] [.int (f.b: Nat),.tup [.int (f.e0: Nat),.int (f.e1: Nat)],.bool f.nl]))): CallOk W 45 (n+1) 134 [.ref x,.int (f.b: Nat),.tup [.int (f.e0: Nat),.int (f.e1: Nat)],.bool f.nl] m Q X := by
 have ne: x≠dx := fun e=>by rw[e,h2]at h1;cases h1
 refine G.fn G.k_Frag_init4 .nil rfl ?_
 unfold c_Frag_init
 (kst_p;repeat (simp only[bs,setAt,h1,h2,Mt.look,ne,Mt.set_set];kst_p))
 refine⟨_,_,.refl,h⟩
theorem sp_Frag3 {x dx: Addr} (b e0 e1: Nat) (h1: m x=some (.inst 137 dx)) (h2: m dx=some (.attrs [] [])) (h: Q .none (m.set dx (.attrs [30967732746,250711086,131251851267392784618517] [.int (b: Nat),.tup [.int (e0: Nat),.int (e1: Nat)],.bool false]))): CallOk W 45 (n+1) 134 [.ref x,.int (b: Nat),.tup [.int (e0: Nat),.int (e1: Nat)]] m Q X := by
 have ne: x≠dx := fun e=>by rw[e,h2]at h1;cases h1
 refine G.fn G.k_Frag_init3 (.cons (.bool _) .nil) rfl ?_
 unfold c_Frag_init
 (kst_p;repeat (simp only[bs,setAt,h1,h2,Mt.look,ne,Mt.set_set];kst_p))
 refine⟨_,_,.refl,h⟩
theorem sp_Frag2 {x dx: Addr} (b: Nat) (h1: m x=some (.inst 137 dx)) (h2: m dx=some (.attrs [] [])) (h: Q .none (m.set dx (.attrs [30967732746,250711086,131251851267392784618517] [.int (b: Nat),.tup [.int 0,.int 0],.bool false]))): CallOk W 45 (n+1) 134 [.ref x,.int (b: Nat)] m Q X := by
 have ne: x≠dx := fun e=>by rw[e,h2]at h1;cases h1
 refine G.fn G.k_Frag_init (.cons G.f119 (.cons (.bool _) .nil)) rfl ?_
 unfold c_Frag_init
 (kst_p;repeat (simp only[bs,setAt,h1,h2,Mt.look,ne,Mt.set_set];kst_p))
 refine⟨_,_,.refl,h⟩
theorem sp_ends_one (k: Nat) (h: Q (.tup [.int (k: Nat),.int (k: Nat)]) m): CallOk W 45 (n+1) 211 [.int (k: Nat)] m Q X := by
 refine G.fn G.k_ends_one .nil rfl ?_
 unfold c_ends_one
 kst_p
 exact⟨_,_,.refl,h⟩
theorem sp_need {l: Lay} {most: Nat} {is: List Ins} {r: Mt} (k: Nat) (H: Mk l most is r m) (hs: is.length<=1000) (hX: most<is.length+k->X (.int (most: Nat)) m) (hQ: is.length+k<=most->Q .none m): CallOk W 45 (n+1) 162 [.ref l.M,.int (k: Nat)] m Q X := by
 refine G.fn G.k_need .nil rfl ?_
 unfold c_need
 (kst_p;repeat (simp only[bs,getA,H.hM,H.hD,lenV,seqV,asL,H.hL];kst_p))
 simp only[List.length_map,H.len]
 refine⟨small_of (by omega),?_⟩
 (kst_p;repeat (simp only[bs,getA,H.hM,H.hD];kst_p))
 (kst_p;repeat (simp only[bs,cmpV];kst_p))
 cases hd: decide ((most: Int)<Int.ofNat is.length+(k: Int))<;>simp at hd<;>(kst_p;repeat (simp only[bs,getA,H.hM,H.hD];kst_p))
 ·exact⟨_,_,.refl,hQ (by omega)⟩
 ·exact hX (by omega)
theorem sp_new {l: Lay} {most: Nat} {is: List Ins} {r: Mt} (op: Nat) (H: Mk l most is r m) (hs: is.length<=1000) (hX: most<is.length+1->X (.int (most: Nat)) m)
  (hQ: is.length+1<=most->∀ a b m',l.ps++[(a,b)]≠[]->Mk {l with ps := l.ps++[(a,b)]} most (is++[opI op]) r m'->Q (.int (is.length: Nat)) m'): CallOk W 45 (n+3) 169 [.ref l.M,.int (op: Nat)] m Q X := by
 refine G.fn G.k_new .nil rfl ?_
 unfold c_new
 (kst_p;repeat (simp only[bs,calOf,H.hM,H.hD];kst_p))
 refine sp_need G 1 H hs hX fun hle=>?_
 (kst_p;repeat (simp only[bs,getA,H.hM,H.hD,calOf,H.hL];kst_p))
 intro a b ha hb hab
 obtain⟨a1,a2,a3,a4⟩ := H.fresh ha
 obtain⟨b1,b2,b3,b4⟩ := H.fresh hb
 have hab': a≠b := hab
 refine sp_Inst G op (x := a) (dx := b) (Mt.set_self _ _ _) (by rw[Mt.set_ne _ _ (Ne.symm hab),Mt.set_self]) ?_
 refine⟨rfl,?_⟩
 (kst_p;repeat (simp only[bs,Mt.look,a3.symm,b3.symm,H.hL];kst_p))
 refine⟨small_of (by simp[H.len];omega),?_⟩
 have HK := H.push (mu := (((m.set b (.attrs [] [])).set a (.inst 65 b)).set b (.attrs insN (opI op).vals)).set l.L (.lst (l.ps.map (fun p=>.ref p.1)++[.ref a]))) (i := opI op) ha hb (by simp[Mt.look,a3,hab]) (by simp[Mt.look,b3]) (by simp[Mt.look]) (fun c c1 c2 c3=>by simp[Mt.look,c1,c2,c3])
 generalize (((m.set b (.attrs [] [])).set a (.inst 65 b)).set b (.attrs insN (opI op).vals)).set l.L (.lst (l.ps.map (fun p=>.ref p.1)++[.ref a]))=mu at HK ⊢
 have hM := HK.hM
 have hD := HK.hD
 have hL := HK.hL
 dsimp only at hM hD hL
 (kst_p;repeat (simp only[bs,getA,hM,hD,lenV,seqV,asL,hL];kst_p))
 refine⟨small_of (by simp[H.len];omega),?_⟩
 kst_p
 refine⟨_,_,.refl,?_⟩
 have e: Int.ofNat (List.map (fun p=>DV.ref p.1) (l.ps++[(a,b)])).length-1=(is.length: Int) := by simp[H.len]
 show Q (.int (Int.ofNat (List.map (fun p=>DV.ref p.1) (l.ps++[(a,b)])).length-1)) mu
 rw[e]
 exact hQ hle a b mu (by simp) HK
end
section
def MkM (M: Addr) (most: Nat) (is: List Ins) (r m: Mt): Prop := ∃ l,l.M=M/\Mk l most is r m
theorem MkM.get {M: Addr} {most: Nat} {is: List Ins} {r m: Mt} (H: MkM M most is r m): ∃ D L ps,m M=some (.inst 200 D)/\m D=some (.attrs [253107527,32376161590] [.int (most: Nat),.ref L])/\m L=some (.lst ((ps: List (Addr×Addr)).map fun p=>.ref p.1))/\ps.length=is.length/\
  (∀ k,k<is.length->∃ p,(ps.map fun p: Addr×Addr=>DV.ref p.1)[k]?=some (.ref p.1)/\ps[k]?=some p/\m p.1=some (.inst 65 p.2)/\m p.2=some (.attrs insN (insAt is k).vals)/\p.1≠p.2/\∀ i: Ins,MkM M most (is.set k i) r (m.set p.2 (.attrs insN i.vals))) := by
 obtain⟨l,rfl,H⟩ := H
 refine⟨l.D,l.L,l.ps,H.hM,H.hD,H.hL,H.len,fun k hk=>?_⟩
 obtain⟨p,hp,h1,h2⟩ := H.at hk
 exact⟨p,by rw[List.getElem?_map,hp];rfl,hp,h1,h2,(fun e=>by rw[e,h2]at h1;cases h1),fun i=>⟨l,rfl,H.setI hp i⟩⟩
theorem MkM.rest {M: Addr} {most: Nat} {is: List Ins} {r m: Mt} (H: MkM M most is r m): Sub r m := by
 obtain⟨l,rfl,H⟩ := H
 exact H.rest
theorem MkM.drop {M: Addr} {most: Nat} {is: List Ins} {r m mu: Mt} (H: MkM M most is r m) (S: Sub m mu): Sub m mu := S
variable {W: Wd} (G: Gd W) {n: Nat} {m: Mt} {Q X: DV->Mt->Prop} {M: Addr} {most: Nat} {is: List Ins} {r: Mt}
include G
theorem sM_need (k: Nat) (H: MkM M most is r m) (hs: is.length<=1000) (hX: most<is.length+k->X (.int (most: Nat)) m) (hQ: is.length+k<=most->Q .none m): CallOk W 45 (n+1) 162 [.ref M,.int (k: Nat)] m Q X := by
 obtain⟨l,rfl,H⟩ := H
 exact sp_need G k H hs hX hQ
theorem sM_new (op: Nat) (H: MkM M most is r m) (hs: is.length<=1000) (hX: most<is.length+1->X (.int (most: Nat)) m) (hQ: is.length+1<=most->∀ m',MkM M most (is++[opI op]) r m'->Q (.int (is.length: Nat)) m'): CallOk W 45 (n+3) 169 [.ref M,.int (op: Nat)] m Q X := by
 obtain⟨l,rfl,H⟩ := H
 exact sp_new G op H hs hX fun hle a b m' _ H'=>hQ hle m' ⟨{l with ps := l.ps++[(a,b)]},rfl,H'⟩
theorem sM_way (k: Nat) (H: MkM M most is r m) (hk: k / 2<is.length) (hs: is.length<=1000) (h: Q (.int (wayP is k: Nat)) m): CallOk W 45 (n+1) 176 [.ref M,.int (k: Nat)] m Q X := by
 obtain⟨D,L,ps,hM,hD,hL,hl,hI⟩ := H.get
 obtain⟨p,g0,g1,g2,g3,_,_⟩ := hI _ hk
 refine G.fn G.k_way .nil rfl ?_
 unfold c_way
 (kst_p;repeat (simp only[bs,getA,hM,hD];kst_p))
 refine⟨by omega,bigI_of (k := 2) (by omega),?_⟩
 refine subW_of (asL_ref hL) (k := k / 2) (by omega) g0 ?_
 kst_p
 refine⟨by omega,?_⟩
 (kst_p;repeat (simp only[bs,cmpV];kst_p))
 unfold wayP at h
 have e: (k: Int) % 2=((k % 2: Nat): Int) := rfl
 cases hd: decide ((k: Int) % 2=0)<;>rw[e]at hd<;>simp at hd<;>(kst_p;repeat (simp only[bs,getA,g2,g3];kst_p))
 ·rw[if_neg (by omega)]at h
  exact⟨_,_,.refl,h⟩
 ·rw[if_pos (by omega)]at h
  exact⟨_,_,.refl,h⟩
theorem sM_lead (k v: Nat) (H: MkM M most is r m) (hk: k / 2<is.length) (hs: is.length<=1000) (h: ∀ m',MkM M most (leadP is k v) r m'->Q .none m'): CallOk W 45 (n+1) 183 [.ref M,.int (k: Nat),.int (v: Nat)] m Q X := by
 obtain⟨D,L,ps,hM,hD,hL,hl,hI⟩ := H.get
 obtain⟨p,g0,g1,g2,g3,_,g4⟩ := hI _ hk
 refine G.fn G.k_lead .nil rfl ?_
 unfold c_lead
 (kst_p;repeat (simp only[bs,getA,hM,hD];kst_p))
 refine⟨by omega,bigI_of (k := 2) (by omega),?_⟩
 refine subW_of (asL_ref hL) (k := k / 2) (by omega) g0 ?_
 kst_p
 refine⟨by omega,?_⟩
 (kst_p;repeat (simp only[bs,cmpV];kst_p))
 unfold leadP leadI at h
 have e: (k: Int) % 2=((k % 2: Nat): Int) := rfl
 cases hd: decide ((k: Int) % 2=0)<;>rw[e]at hd<;>simp at hd<;>(kst_p;repeat (simp only[bs,setAt,g2,g3];kst_p))
 ·rw[if_neg (by omega)]at h
  exact⟨_,_,.refl,h _ (g4 _)⟩
 ·rw[if_pos (by omega)]at h
  exact⟨_,_,.refl,h _ (g4 _)⟩
theorem sM_joined (a0 a1 b0 b1: Nat) (H: MkM M most is r m) (hk: a0≠0->b0≠0->a1 / 2<is.length) (hs: is.length<=1000) (h: ∀ m',MkM M most (joinI is a0 a1 b0) r m'->Q (.tup [.int ((joinE a0 a1 b0 b1).1: Nat),.int ((joinE a0 a1 b0 b1).2: Nat)]) m'): CallOk W 45 (n+2) 197 [.ref M,.tup [.int (a0: Nat),.int (a1: Nat)],.tup [.int (b0: Nat),.int (b1: Nat)]] m Q X := by
 refine G.fn G.k_joined .nil rfl ?_
 unfold c_joined
 kst_p
 kst_all
 unfold joinI joinE at h
 (kst_p;repeat (simp only[bs,cmpV];kst_p))
 cases hd: decide ((a0: Int)=0)<;>simp at hd
 ·rw[if_neg hd,if_neg hd]at h
  (kst_p;repeat (simp only[bs,cmpV];kst_p))
  kst_all
  cases hd': decide ((b0: Int)=0)<;>simp at hd'
  ·rw[if_neg hd',if_neg hd']at h
   obtain⟨D,L,ps,hM,hD,hL,hl,hI⟩ := H.get
   (kst_p;repeat (simp only[bs,calOf,hM,hD];kst_p))
   kst_all
   refine sM_lead G a1 b0 H (hk hd hd') hs fun m' H'=>?_
   kst_p
   kst_all
   exact⟨_,_,.refl,h _ H'⟩
  ·rw[if_pos hd',if_pos hd']at h
   kst_p
   exact⟨_,_,.refl,h _ H⟩
 ·rw[if_pos hd,if_pos hd]at h
  kst_p
  exact⟨_,_,.refl,h _ H⟩
end
section
variable {W: Wd} (G: Gd W) {n: Nat} {m: Mt} {Q X: DV->Mt->Prop} {M: Addr} {most: Nat} {is: List Ins} {r: Mt}
include G
theorem ret4 (b e0 e1: Nat) (nl: Bool) {X': DV->Mt->Prop} (h: Q (eF ⟨b,e0,e1,nl⟩) m): ∀ x dx,m x=none->m dx=none->x≠dx->CallOk W 45 (n+1) 134 [.ref x,.int (b: Nat),.tup [.int (e0: Nat),.int (e1: Nat)],.bool nl] ((m.set dx (.attrs [] [])).set x (.inst 137 dx)) (fun d m'=>d=.none/\∃ m'' d',Fz m' ((some (DV.ref x)).getD .none) m'' d'/\Q d' m'') X' := by
 intro x dx hx hd ne
 refine sp_Frag4 G ⟨b,e0,e1,nl⟩ (x := x) (dx := dx) (Mt.set_self _ _ _) (by rw[Mt.set_ne _ _ ne.symm,Mt.set_self]) ⟨rfl,m,_,?_,h⟩
 refine Sub.inst (a := x) (x := dx) (((Sub.rfl.put hd).put hx).put hd) ?_ (Mt.set_self _ _ _) hx hd ne
 rw[Mt.set_ne _ _ ne,Mt.set_self]
theorem ret3 (b e0 e1: Nat) {X': DV->Mt->Prop} (h: Q (eF ⟨b,e0,e1,false⟩) m): ∀ x dx,m x=none->m dx=none->x≠dx->CallOk W 45 (n+1) 134 [.ref x,.int (b: Nat),.tup [.int (e0: Nat),.int (e1: Nat)]] ((m.set dx (.attrs [] [])).set x (.inst 137 dx)) (fun d m'=>d=.none/\∃ m'' d',Fz m' ((some (DV.ref x)).getD .none) m'' d'/\Q d' m'') X' := by
 intro x dx hx hd ne
 refine sp_Frag3 G b e0 e1 (x := x) (dx := dx) (Mt.set_self _ _ _) (by rw[Mt.set_ne _ _ ne.symm,Mt.set_self]) ⟨rfl,m,_,?_,h⟩
 refine Sub.inst (a := x) (x := dx) (((Sub.rfl.put hd).put hx).put hd) ?_ (Mt.set_self _ _ _) hx hd ne
 rw[Mt.set_ne _ _ ne,Mt.set_self]
theorem ret2 (b: Nat) {X': DV->Mt->Prop} (h: Q (eF ⟨b,0,0,false⟩) m): ∀ x dx,m x=none->m dx=none->x≠dx->CallOk W 45 (n+1) 134 [.ref x,.int (b: Nat)] ((m.set dx (.attrs [] [])).set x (.inst 137 dx)) (fun d m'=>d=.none/\∃ m'' d',Fz m' ((some (DV.ref x)).getD .none) m'' d'/\Q d' m'') X' := by
 intro x dx hx hd ne
 refine sp_Frag2 G b (x := x) (dx := dx) (Mt.set_self _ _ _) (by rw[Mt.set_ne _ _ ne.symm,Mt.set_self]) ⟨rfl,m,_,?_,h⟩
 refine Sub.inst (a := x) (x := dx) (((Sub.rfl.put hd).put hx).put hd) ?_ (Mt.set_self _ _ _) hx hd ne
 rw[Mt.set_ne _ _ ne,Mt.set_self]
theorem sM_patch (e0 e1 t: Nat) (ms: List Nat) (H: MkM M most is r m) (hs: is.length<=1000) (hc: Chain is e0 ms) (nd: ms.Nodup) (h: ∀ m',MkM M most (patchL is ms t) r m'->Q .none m'): CallOk W 45 (n+2) 190 [.ref M,.tup [.int (e0: Nat),.int (e1: Nat)],.int (t: Nat)] m Q X := by
 refine G.fn G.k_patch .nil rfl ?_
 unfold c_patch
 kst_p
 kst_all
 refine whileN_ind (fun j σ=>∃(ms': List Nat) (is': List Ins) (e: Nat),ms'.length=j/\look σ.loc 222936110=some (.ref M)/\look σ.loc 4208068358925=some (.int (t: Nat))/\look σ.loc 233768879=some (.int (e: Nat))/\MkM M most is' r σ.mu/\is'.length<=1000/\Chain is' e ms'/\ms'.Nodup/\patchL is' ms' t=patchL is ms t) ?_ ms.length _ ⟨ms,is,e0,rfl,rfl,rfl,rfl,H,hs,hc,nd,rfl⟩
 rintro j ⟨loc,mu⟩ K ⟨ms',is',e,hj,l1,l2,l3,H',hs',hc',nd',hp⟩ hK
 dsimp only at l1 l2 l3 H'
 (kst_p;repeat (simp only[bs,l3];kst_p))
 (kst_p;repeat (simp only[bs,cmpV,l3,eqTop,asL,plainN,eqN,Option.map_some];kst_p))
 cases ms' with
 |nil=>
  have: e=0 := hc'
  subst this
  kst_p
  refine⟨_,_,.refl,h _ ?_⟩
  rw[<-hp];exact H'
 |cons k rs=>
  obtain⟨rfl,k0,k1,k2⟩ := hc'
  have: (decide ((e: Int)=0))=false := decide_eq_false (by omega)
  rw[this]
  obtain⟨D,L,ps,hM,hD,hL,hl,hI⟩ := H'.get
  rw[List.nodup_cons]at nd'
  (kst_p;repeat (simp only[bs,l1,l2,l3,calOf,hM,hD];kst_p))
  refine sM_way G e H' k1 hs' ?_
  (kst_p;repeat (simp only[bs,l1,l2,l3,calOf,hM,hD];kst_p))
  refine sM_lead G e t H' k1 hs' fun m' H2=>?_
  (kst_p;repeat (simp only[bs,l1,l2,l3];kst_p))
  exact hK rs.length _ (by rw[<-hj];simp) ⟨rs,leadP is' e t,wayP is' e,rfl,by simp[look_put,l1],by simp[look_put,l2],by simp[look_put],H2,by rw[leadP_len];exact hs',k2.lead t k1 nd'.1,nd'.2,hp⟩
end
section
theorem set_push {is: List Ins} {i j: Ins}: (is++[i]).set is.length j=is++[j] := by
 apply List.ext_getElem?
 intro k
 simp only[List.getElem?_set,List.getElem?_append]
 by_cases h: is.length=k
 ·subst h;simp
 ·simp only[h,if_false]
  by_cases g: k<is.length
  ·simp[g]
  ·have: k-is.length≠0 := by omega
   simp[g]
   rw[List.getElem?_eq_none (by simp;omega),List.getElem?_eq_none (by simp;omega)]
variable {W: Wd} (G: Gd W) {n: Nat} {m: Mt} {Q X: DV->Mt->Prop} {M: Addr} {most: Nat} {is: List Ins} {r: Mt}
include G
theorem sf_none (h: Q (eF noneF) m): CallOk W 45 (n+3) 218 [] m Q X := by
 refine G.fn G.k_frag_none .nil rfl ?_
 unfold c_frag_none
 kst_p
 exact ret2 G 0 h
theorem sf_is_none (f: Fr) (h: Q (.bool (decide (f.b=0))) m): CallOk W 45 (n+1) 225 [eF f] m Q X := by
 refine G.fn G.k_frag_is_none .nil rfl ?_
 unfold c_frag_is_none
 (kst_p;repeat (simp only[bs,cmpV,eqTop,asL,plainN,eqN];kst_p))
 refine⟨_,_,.refl,?_⟩
 have: decide ((f.b: Int)=0)=decide (f.b=0) := by rw[decide_eq_decide];omega
 rw[this];exact h
theorem sf_nop (H: MkM M most is r m) (hs: is.length<=900) (hX: most<is.length+1->X (.int (most: Nat)) m) (hQ: is.length+1<=most->∀ m',MkM M most (nopP is).1 r m'->Q (eF (nopP is).2.f) m'): CallOk W 45 (n+4) 232 [.ref M] m Q X := by
 obtain⟨D,L,ps,hM,hD,hL,hl,hI⟩ := H.get
 refine G.fn G.k_frag_nop .nil rfl ?_
 unfold c_frag_nop
 (kst_p;repeat (simp only[bs,calOf,hM,hD];kst_p))
 refine sM_new G 5 H (by omega) hX fun hle m' H'=>?_
 kst_p
 refine⟨bigI_of (by omega),bigI_of (k := 2) (by omega),?_⟩
 kst_p
 refine sp_ends_one G (is.length * 2) ?_
 kst_p
 exact ret4 G is.length (is.length * 2) (is.length * 2) true (hQ hle m' H')
theorem sf_is_nop (f: Fr) (H: MkM M most is r m) (hs: is.length<=900) (hb: f.b<is.length) (h: Q (.bool (isNopP is f)) m): CallOk W 45 (n+4) 239 [.ref M,eF f] m Q X := by
 obtain⟨D,L,ps,hM,hD,hL,hl,hI⟩ := H.get
 obtain⟨p,g0,g1,g2,g3,_,g4⟩ := hI _ hb
 refine G.fn G.k_frag_is_nop .nil rfl ?_
 unfold c_frag_is_nop
 (kst_p;repeat (simp only[bs,getA,hM,hD];kst_p))
 refine subW_of (asL_ref hL) (k := f.b) (by omega) g0 ?_
 (kst_p;repeat (simp only[bs,getA,g2,g3];kst_p))
 (kst_p;repeat (simp only[bs,cmpV,eqTop,asL,plainN,eqN];kst_p))
 unfold isNopP at h
 have e1: decide (((insAt is f.b).op: Int)=5)=decide ((insAt is f.b).op=5) := by rw[decide_eq_decide];omega
 rw[e1]
 cases hd: decide ((insAt is f.b).op=5)<;>rw[hd]at h<;>kst_p
 ·exact⟨_,_,.refl,h⟩
 ·refine⟨bigI_of (by omega),bigI_of (k := 2) (by omega),?_⟩
  kst_p
  refine sp_ends_one G (f.b * 2) ?_
  (kst_p;repeat (simp only[bs,cmpV,eqTop,asL,plainN,eqN,eqL,List.all_cons,List.all_nil,Bool.and_true];kst_p))
  have a1: decide ((f.e0: Int)=((f.b * 2: Nat): Int))=decide (f.e0=f.b * 2) := by rw[decide_eq_decide];omega
  have a2: decide ((f.e1: Int)=((f.b * 2: Nat): Int))=decide (f.e1=f.b * 2) := by rw[decide_eq_decide];omega
  rw[a1,a2]
  cases h1: decide (f.e0=f.b * 2)<;>cases h2: decide (f.e1=f.b * 2)<;>rw[h1,h2]at h<;>exact⟨_,_,.refl,h⟩
theorem sf_range (lo hi: Nat) (fold: Bool) (H: MkM M most is r m) (hs: is.length<=900) (hX: most<is.length+1->X (.int (most: Nat)) m)
  (hQ: is.length+1<=most->∀ m',MkM M most (is++[(⟨1,0,0,lo,hi,fold⟩: Ins)]) r m'->Q (eF (oneF is.length (is.length * 2) false)) m'): CallOk W 45 (n+4) 247 [.ref M,.int (lo: Nat),.int (hi: Nat),.bool fold] m Q X := by
 obtain⟨D,L,ps,hM,hD,hL,hl,hI⟩ := H.get
 refine G.fn G.k_frag_range4 .nil rfl ?_
 unfold c_frag_range
 (kst_p;repeat (simp only[bs,calOf,hM,hD];kst_p))
 refine sM_new G 1 H (by omega) hX fun hle m' H'=>?_
 obtain⟨D,L,ps,hM,hD,hL,hl,hI⟩ := H'.get
 obtain⟨p,g0,g1,g2,g3,ne,g4⟩ := hI is.length (by simp)
 rw[insAt_push,if_pos rfl]at g3
 (kst_p;repeat (simp only[bs,getA,hM,hD];kst_p))
 refine subW_of (asL_ref hL) (k := is.length) (by omega) g0 ?_
 (kst_p;repeat (simp only[bs,setAt,g2,g3,Mt.look,ne,Mt.set_set];kst_p))
 refine⟨bigI_of (by omega),bigI_of (k := 2) (by omega),?_⟩
 kst_p
 refine sp_ends_one G (is.length * 2) ?_
 kst_p
 refine ret3 G is.length (is.length * 2) (is.length * 2) (hQ hle _ ?_)
 have := g4 (⟨1,0,0,lo,hi,fold⟩: Ins)
 rw[set_push]at this
 exact this
theorem sf_empty (bits: Nat) (H: MkM M most is r m) (hs: is.length<=900) (hX: most<is.length+1->X (.int (most: Nat)) m)
  (hQ: is.length+1<=most->∀ m',MkM M most (is++[(⟨3,0,bits,0,0,false⟩: Ins)]) r m'->Q (eF (oneF is.length (is.length * 2) true)) m'): CallOk W 45 (n+4) 254 [.ref M,.int (bits: Nat)] m Q X := by
 obtain⟨D,L,ps,hM,hD,hL,hl,hI⟩ := H.get
 refine G.fn G.k_frag_empty .nil rfl ?_
 unfold c_frag_empty
 (kst_p;repeat (simp only[bs,calOf,hM,hD];kst_p))
 refine sM_new G 3 H (by omega) hX fun hle m' H'=>?_
 obtain⟨D,L,ps,hM,hD,hL,hl,hI⟩ := H'.get
 obtain⟨p,g0,g1,g2,g3,ne,g4⟩ := hI is.length (by simp)
 rw[insAt_push,if_pos rfl]at g3
 (kst_p;repeat (simp only[bs,getA,hM,hD];kst_p))
 refine subW_of (asL_ref hL) (k := is.length) (by omega) g0 ?_
 (kst_p;repeat (simp only[bs,setAt,g2,g3,Mt.look,ne,Mt.set_set];kst_p))
 refine⟨bigI_of (by omega),bigI_of (k := 2) (by omega),?_⟩
 kst_p
 refine sp_ends_one G (is.length * 2) ?_
 kst_p
 refine ret4 G is.length (is.length * 2) (is.length * 2) true (hQ hle _ ?_)
 have := g4 (⟨3,0,bits,0,0,false⟩: Ins)
 rw[set_push]at this
 exact this
theorem sf_match (H: MkM M most is r m) (hs: is.length<=900) (hle: is.length+1<=most)
  (hQ: ∀ m',MkM M most (is++[opI 4]) r m'->Q (eF ⟨is.length,0,0,false⟩) m'): CallOk W 45 (n+4) 261 [.ref M,.int 0] m Q X := by
 obtain⟨D,L,ps,hM,hD,hL,hl,hI⟩ := H.get
 refine G.fn G.k_frag_match .nil rfl ?_
 unfold c_frag_match
 (kst_p;repeat (simp only[bs,calOf,hM,hD];kst_p))
 refine sM_new G 4 H (by omega) (fun h=>by omega) fun hle m' H'=>?_
 obtain⟨D,L,ps,hM,hD,hL,hl,hI⟩ := H'.get
 obtain⟨p,g0,g1,g2,g3,ne,g4⟩ := hI is.length (by simp)
 rw[insAt_push,if_pos rfl]at g3
 (kst_p;repeat (simp only[bs,getA,hM,hD];kst_p))
 refine subW_of (asL_ref hL) (k := is.length) (by omega) g0 ?_
 (kst_p;repeat (simp only[bs,setAt,g2,g3];kst_p))
 refine ret2 G is.length (hQ _ ?_)
 have := g4 (opI 4)
 rw[set_push]at this
 exact this
theorem sf_choice (b: Nat) (lazy: Bool) (H: MkM M most is r m) (hs: is.length<=900) (hX: most<is.length+1->X (.int (most: Nat)) m)
  (hQ: is.length+1<=most->∀ m',MkM M most (is++[choiceI b lazy]) r m'->Q (.tup [.int (is.length: Nat),.tup [.int (pastOf is.length lazy: Nat),.int (pastOf is.length lazy: Nat)]]) m'): CallOk W 45 (n+4) 282 [.ref M,.int (b: Nat),.bool lazy] m Q X := by
 obtain⟨D,L,ps,hM,hD,hL,hl,hI⟩ := H.get
 refine G.fn G.k_frag_choice .nil rfl ?_
 unfold c_frag_choice
 (kst_p;repeat (simp only[bs,calOf,hM,hD];kst_p))
 refine sM_new G 0 H (by omega) hX fun hle m' H'=>?_
 obtain⟨D,L,ps,hM,hD,hL,hl,hI⟩ := H'.get
 obtain⟨p,g0,g1,g2,g3,ne,g4⟩ := hI is.length (by simp)
 rw[insAt_push,if_pos rfl]at g3
 (kst_p;repeat (simp only[bs,getA,hM,hD];kst_p))
 refine subW_of (asL_ref hL) (k := is.length) (by omega) g0 ?_
 have := g4 (choiceI b lazy)
 rw[set_push]at this
 have hQ := hQ hle _ this
 cases lazy with
 |true=>
  (kst_p;repeat (simp only[bs,setAt,g2,g3,Mt.look,ne,Mt.set_set];kst_p))
  refine⟨bigI_of (by omega),bigI_of (k := 2) (by omega),?_⟩
  kst_p
  refine sp_ends_one G (is.length * 2) ?_
  kst_p
  exact⟨_,_,.refl,hQ⟩
 |false=>
  (kst_p;repeat (simp only[bs,setAt,g2,g3,Mt.look,ne,Mt.set_set];kst_p))
  refine⟨bigI_of (by omega),bigI_of (k := 2) (by omega),?_⟩
  kst_p
  refine sp_ends_one G (is.length * 2+1) ?_
  kst_p
  exact⟨_,_,.refl,hQ⟩
end
section
variable {W: Wd} (G: Gd W) {n: Nat} {m: Mt} {Q X: DV->Mt->Prop} {M: Addr} {most: Nat} {is: List Ins} {r: Mt}
include G
theorem sf_cat (a b: Part) (H: MkM M most is r m) (hs: is.length<=900) (pa: PartOk is a) (pb: PartOk is b) (dj: ∀ k∈a.ms,k∉b.ms)
  (hQ: ∀ m',MkM M most (catP is a b).1 r m'->Q (eF (catP is a b).2.f) m'): CallOk W 45 (n+5) 268 [.ref M,eF a.f,eF b.f] m Q X := by
 obtain⟨D,L,ps,hM,hD,hL,hl,hI⟩ := H.get
 refine G.fn G.k_frag_cat .nil rfl ?_
 unfold c_frag_cat
 kst_p
 have two: ∀ m',MkM M most (patchL is a.ms 0) r m'->Chain (patchL is a.ms 0) b.f.e0 b.ms := fun m' H'=>pb.ch.patch 0 fun k hk=>⟨(pa.ch.mem k hk).2,dj k hk⟩
 refine sf_is_none G a.f ?_
 cases ha: decide (a.f.b=0)<;>simp at ha<;>kst_p
 ·refine sf_is_none G b.f ?_
  cases hb: decide (b.f.b=0)<;>simp at hb
  ·have e: catP is a b=(if isNopP (patchL is a.ms b.f.b) a.f then(patchL is a.ms b.f.b,b)else(patchL is a.ms b.f.b,⟨⟨a.f.b,b.f.e0,b.f.e1,a.f.nl&&b.f.nl⟩,b.ms⟩)) := by
    unfold catP;rw[if_neg (by omega)]
   rw[e]at hQ
   (kst_p;repeat (simp only[bs,calOf,hM,hD];kst_p))
   refine sM_patch G a.f.e0 a.f.e1 b.f.b a.ms H (by omega) pa.ch pa.nd fun m' H'=>?_
   kst_p
   refine sf_is_nop G a.f H' (by rw[patchL_len];exact hs) (by rw[patchL_len];exact pa.b) ?_
   cases hn: isNopP (patchL is a.ms b.f.b) a.f<;>rw[hn]at hQ<;>kst_p
   ·cases hz: a.f.nl<;>rw[hz]at hQ<;>kst_p
    ·exact ret4 G a.f.b b.f.e0 b.f.e1 false (hQ m' H')
    ·exact ret4 G a.f.b b.f.e0 b.f.e1 b.f.nl (hQ m' H')
   ·exact⟨_,_,.refl,hQ m' H'⟩
  ·have e: catP is a b=(patchL (patchL is a.ms 0) b.ms 0,⟨noneF,[]⟩) := by unfold catP;rw[if_pos (.inr hb)]
   rw[e]at hQ
   (kst_p;repeat (simp only[bs,calOf,hM,hD];kst_p))
   refine sM_patch G a.f.e0 a.f.e1 0 a.ms H (by omega) pa.ch pa.nd fun m' H'=>?_
   obtain⟨D,L,ps,hM,hD,hL,hl,hI⟩ := H'.get
   (kst_p;repeat (simp only[bs,calOf,hM,hD];kst_p))
   refine sM_patch G b.f.e0 b.f.e1 0 b.ms H' (by rw[patchL_len];omega) (two _ H') pb.nd fun m' H'=>?_
   kst_p
   refine sf_none G ?_
   exact⟨_,_,.refl,hQ _ H'⟩
 ·have e: catP is a b=(patchL (patchL is a.ms 0) b.ms 0,⟨noneF,[]⟩) := by unfold catP;rw[if_pos (.inl ha)]
  rw[e]at hQ
  (kst_p;repeat (simp only[bs,calOf,hM,hD];kst_p))
  refine sM_patch G a.f.e0 a.f.e1 0 a.ms H (by omega) pa.ch pa.nd fun m' H'=>?_
  obtain⟨D,L,ps,hM,hD,hL,hl,hI⟩ := H'.get
  (kst_p;repeat (simp only[bs,calOf,hM,hD];kst_p))
  refine sM_patch G b.f.e0 b.f.e1 0 b.ms H' (by rw[patchL_len];omega) (two _ H') pb.nd fun m' H'=>?_
  kst_p
  refine sf_none G ?_
  exact⟨_,_,.refl,hQ _ H'⟩
theorem sf_alt (a b: Part) (H: MkM M most is r m) (hs: is.length<=900) (pa: PartOk is a) (pb: PartOk is b) (hX: a.f.b≠0->b.f.b≠0->most<is.length+1->X (.int (most: Nat)) m)
  (hQ: (a.f.b≠0->b.f.b≠0->is.length+1<=most)->∀ m',MkM M most (altP is a b).1 r m'->Q (eF (altP is a b).2.f) m'): CallOk W 45 (n+4) 275 [.ref M,eF a.f,eF b.f] m Q X := by
 obtain⟨D,L,ps,hM,hD,hL,hl,hI⟩ := H.get
 refine G.fn G.k_frag_alt .nil rfl ?_
 unfold c_frag_alt
 kst_p
 refine sf_is_none G a.f ?_
 unfold altP at hQ
 cases ha: decide (a.f.b=0)<;>simp at ha<;>kst_p
 ·rw[if_neg ha]at hQ
  refine sf_is_none G b.f ?_
  cases hb: decide (b.f.b=0)<;>simp at hb
  ·rw[if_neg hb]at hQ
   (kst_p;repeat (simp only[bs,calOf,hM,hD];kst_p))
   refine sM_new G 0 H (by omega) (hX ha hb) fun hle m' H'=>?_
   obtain⟨D,L,ps,hM,hD,hL,hl,hI⟩ := H'.get
   obtain⟨p,g0,g1,g2,g3,ne,g4⟩ := hI is.length (by simp)
   rw[insAt_push,if_pos rfl]at g3
   (kst_p;repeat (simp only[bs,getA,hM,hD];kst_p))
   refine subW_of (asL_ref hL) (k := is.length) (by omega) g0 ?_
   have H2 := g4 (⟨0,a.f.b,b.f.b,0,0,false⟩: Ins)
   rw[set_push]at H2
   have e: m'.set p.2 (.attrs insN (⟨0,a.f.b,b.f.b,0,0,false⟩: Ins).vals)=(m'.set p.2 (.attrs (fput insN (opI 0).vals 1962331 (.int (a.f.b: Nat))).1 (fput insN (opI 0).vals 1962331 (.int (a.f.b: Nat))).2)).set p.2 (.attrs (fput (fput insN (opI 0).vals 1962331 (.int (a.f.b: Nat))).1 (fput insN (opI 0).vals 1962331 (.int (a.f.b: Nat))).2 1745597 (.int (b.f.b: Nat))).1 (fput (fput insN (opI 0).vals 1962331 (.int (a.f.b: Nat))).1 (fput insN (opI 0).vals 1962331 (.int (a.f.b: Nat))).2 1745597 (.int (b.f.b: Nat))).2) := by
    rw[Mt.set_set];rfl
   (kst_p;repeat (simp only[bs,setAt,g2,g3,Mt.look,ne,<-e];kst_p))
   have hQ := hQ fun _ _=>hle
   generalize m'.set p.2 (.attrs insN (⟨0,a.f.b,b.f.b,0,0,false⟩: Ins).vals)=mu at H2 ⊢
   obtain⟨D,L,ps,hM,hD,hL,hl,hI⟩ := H2.get
   (kst_p;repeat (simp only[bs,calOf,hM,hD];kst_p))
   refine sM_joined G a.f.e0 a.f.e1 b.f.e0 b.f.e1 H2 (fun h _=>by have := pa.last h;simp;omega) (by simp;omega) fun m' H'=>?_
   kst_p
   cases hz: a.f.nl<;>rw[hz]at hQ<;>kst_p
   ·exact ret4 G is.length _ _ b.f.nl (hQ m' H')
   ·exact ret4 G is.length _ _ true (hQ m' H')
  ·rw[if_pos hb]at hQ
   kst_p
   exact⟨_,_,.refl,hQ (fun _ h=>absurd hb h) _ H⟩
 ·rw[if_pos ha]at hQ
  kst_p
  exact⟨_,_,.refl,hQ (fun h=>absurd ha h) _ H⟩
end
section
variable {W: Wd} (G: Gd W) {n: Nat} {m: Mt} {Q X: DV->Mt->Prop} {M: Addr} {most: Nat} {is: List Ins} {r: Mt}
include G
theorem sf_plus (a: Part) (lazy: Bool) (H: MkM M most is r m) (hs: is.length<=900) (pa: PartOk is a) (hX: a.f.b≠0->most<is.length+1->X (.int (most: Nat)) m)
  (hQ: (a.f.b≠0->is.length+1<=most)->∀ m',MkM M most (plusP is a lazy).1 r m'->Q (eF (plusP is a lazy).2.f) m'): CallOk W 45 (n+5) 289 [.ref M,eF a.f,.bool lazy] m Q X := by
 refine G.fn G.k_frag_plus .nil rfl ?_
 unfold c_frag_plus
 kst_p
 refine sf_is_none G a.f ?_
 unfold plusP at hQ
 cases ha: decide (a.f.b=0)<;>simp at ha<;>kst_p
 ·rw[if_neg ha]at hQ
  refine sf_choice G a.f.b lazy H hs (hX ha) fun hle m' H'=>?_
  obtain⟨D,L,ps,hM,hD,hL,hl,hI⟩ := H'.get
  (kst_p;repeat (simp only[bs,calOf,hM,hD];kst_p))
  refine sM_patch G a.f.e0 a.f.e1 is.length a.ms H' (by simp;omega) (pa.ch.push _) pa.nd fun m' H'=>?_
  kst_p
  exact ret4 G _ _ _ _ (hQ (fun _=>hle) _ H')
 ·rw[if_pos ha]at hQ
  refine sf_none G ?_
  kst_p
  exact⟨_,_,.refl,hQ (fun h=>absurd ha h) _ H⟩
theorem sf_quest (a: Part) (lazy: Bool) (H: MkM M most is r m) (hs: is.length<=900) (pa: PartOk is a) (hX: most<is.length+1->X (.int (most: Nat)) m)
  (hQ: is.length+1<=most->∀ m',MkM M most (questP is a lazy).1 r m'->Q (eF (questP is a lazy).2.f) m'): CallOk W 45 (n+5) 296 [.ref M,eF a.f,.bool lazy] m Q X := by
 refine G.fn G.k_frag_quest .nil rfl ?_
 unfold c_frag_quest
 kst_p
 refine sf_is_none G a.f ?_
 unfold questP at hQ
 cases ha: decide (a.f.b=0)<;>simp at ha<;>kst_p
 ·rw[if_neg ha]at hQ
  refine sf_choice G a.f.b lazy H hs hX fun hle m' H'=>?_
  obtain⟨D,L,ps,hM,hD,hL,hl,hI⟩ := H'.get
  (kst_p;repeat (simp only[bs,calOf,hM,hD];kst_p))
  refine sM_joined G (pastOf is.length lazy) (pastOf is.length lazy) a.f.e0 a.f.e1 H' (fun _ _=>by rw[past_half];simp) (by simp;omega) fun m' H'=>?_
  kst_p
  exact ret4 G _ _ _ _ (hQ hle _ H')
 ·rw[if_pos ha]at hQ
  refine sf_nop G H hs hX fun hle m' H'=>?_
  kst_p
  exact⟨_,_,.refl,hQ hle _ H'⟩
theorem sf_star (a: Part) (lazy: Bool) (H: MkM M most is r m) (hs: is.length<=800) (pa: PartOk is a) (hX: most<is.length+(if a.f.b≠0/\a.f.nl=true then 2 else 1)->X (.int (most: Nat)) m)
  (hQ: is.length+(if a.f.b≠0/\a.f.nl=true then 2 else 1)<=most->∀ m',MkM M most (starP is a lazy).1 r m'->Q (eF (starP is a lazy).2.f) m'): CallOk W 45 (n+6) 303 [.ref M,eF a.f,.bool lazy] m Q X := by
 refine G.fn G.k_frag_star .nil rfl ?_
 unfold c_frag_star
 kst_p
 refine sf_is_none G a.f ?_
 unfold starP at hQ
 cases ha: decide (a.f.b=0)<;>simp at ha<;>kst_p
 ·rw[if_neg ha]at hQ
  cases hz: a.f.nl<;>rw[hz]at hQ hX<;>kst_p
  ·rw[if_neg (by simp)]at hX hQ
   refine sf_choice G a.f.b lazy H (by omega) hX fun hle m' H'=>?_
   obtain⟨D,L,ps,hM,hD,hL,hl,hI⟩ := H'.get
   (kst_p;repeat (simp only[bs,calOf,hM,hD];kst_p))
   refine sM_patch G a.f.e0 a.f.e1 is.length a.ms H' (by simp;omega) (pa.ch.push _) pa.nd fun m' H'=>?_
   kst_p
   exact ret4 G _ _ _ _ (hQ hle _ H')
  ·rw[if_pos ⟨ha,rfl⟩]at hX hQ
   obtain⟨D,L,ps,hM,hD,hL,hl,hI⟩ := H.get
   (kst_p;repeat (simp only[bs,calOf,hM,hD];kst_p))
   refine sM_need G 2 H (by omega) hX fun hle=>?_
   kst_p
   have lp: (plusP is a lazy).1.length=is.length+1 := by unfold plusP;rw[if_neg ha];simp[patchL_len]
   refine sf_plus G a lazy H (by omega) pa (fun _ h=>by omega) fun _ m' H'=>?_
   kst_p
   refine sf_quest G _ lazy H' (by rw[lp];omega) (plus_ok pa lazy ha) (fun h=>by rw[lp]at h;omega) fun _ m' H'=>?_
   kst_p
   exact⟨_,_,.refl,hQ hle _ H'⟩
 ·rw[if_pos ha,if_neg (by simp[ha])]at hQ
  rw[if_neg (by simp[ha])]at hX
  refine sf_nop G H (by omega) hX fun hle m' H'=>?_
  kst_p
  exact⟨_,_,.refl,hQ hle _ H'⟩
omit G in
theorem asg_inst {loc: Loc} {mu: Mt} {x fld k: Nat} {d: DV} {i: Ins} {e: CE} {rest: CSs} {Q': Option DV->St->Prop} {X': DV->St->Prop} (H: MkM M most is r mu) (hs: is.length<=1000) (hk: k<is.length) (hl: look loc 32066903573=some (.ref M)) (hx: look loc x=some (.int (k: Nat))) (hf: T0.st 65 fld=true) (hp: fput insN (insAt is k).vals fld d=(insN,i.vals))
  (he: ∀ K: DV->St->Prop,K d ⟨loc,mu⟩->wpE W 45 T0 n e K X' ⟨loc,mu⟩) (K: ∀ mu',MkM M most (is.set k i) r mu'->wpSs W 45 T0 n rest Q' X' ⟨loc,mu'⟩): wpSs W 45 T0 n (.cons (.asg (.attr (.sub (.attr (.var 32066903573) 32376161590) (.var x)) fld) e) rest) Q' X' ⟨loc,mu⟩ := by
 refine he _ ?_
 obtain⟨D,L,ps,hM,hD,hL,hlen,hI⟩ := H.get
 obtain⟨p,g0,g1,g2,g3,ne,g4⟩ := hI k hk
 (kst_p;repeat (simp only[bs,hl];kst_p))
 (kst_p;repeat (simp only[bs,getA,hM,hD];kst_p))
 (kst_p;repeat (simp only[bs,hx];kst_p))
 refine subW_of (asL_ref hL) (k := k) (by omega) g0 ?_
 (kst_p;repeat (simp only[bs,setAt,g2,g3,hf];kst_p))
 rw[hp]
 exact K _ (g4 i)
theorem sf_capture (a: Part) (g: Nat) (rev: Bool) (H: MkM M most is r m) (hs: is.length<=800) (hg: g<=100) (pa: PartOk is a) (hX: a.f.b≠0->most<is.length+2->X (.int (most: Nat)) m)
  (hQ: (a.f.b≠0->is.length+2<=most)->∀ m',MkM M most (capP is a g rev).1 r m'->Q (eF (capP is a g rev).2.f) m'): CallOk W 45 (n+5) 311 [.ref M,eF a.f,.int (g: Nat),.bool rev] m Q X := by
 refine G.fn G.k_frag_capture4 .nil rfl ?_
 unfold c_frag_capture
 kst_p
 refine sf_is_none G a.f ?_
 unfold capP at hQ
 cases ha: decide (a.f.b=0)<;>simp at ha<;>kst_p
 ·rw[if_neg ha]at hQ
  obtain⟨D,L,ps,hM,hD,hL,hl,hI⟩ := H.get
  (kst_p;repeat (simp only[bs,calOf,hM,hD];kst_p))
  refine sM_need G 2 H (by omega) (hX ha) fun hle=>?_
  (kst_p;repeat (simp only[bs,calOf,hM,hD];kst_p))
  refine sM_new G 2 H (by omega) (fun h=>by omega) fun _ m' H'=>?_
  obtain⟨D,L,ps,hM,hD,hL,hl,hI⟩ := H'.get
  (kst_p;repeat (simp only[bs,calOf,hM,hD];kst_p))
  refine sM_new G 2 H' (by simp;omega) (fun h=>by simp at h;omega) fun _ m' H'=>?_
  rw[List.length_append,List.length_singleton]
  kst_p
  have i0: insAt (is++[opI 2]++[opI 2]) is.length=opI 2 := by rw[insAt_push,if_neg (by simp),insAt_push,if_pos rfl]
  have i1: insAt (is++[opI 2]++[opI 2]) (is.length+1)=opI 2 := by rw[insAt_push,if_pos (by simp)]
  unfold c_cap_t1
  refine asg_inst (k := is.length) (d := .int ((if rev then 2 * g+1 else 2 * g: Nat): Int)) (i := ⟨2,0,if rev then 2 * g+1 else 2 * g,0,0,false⟩) H' (by simp;omega) (by simp) rfl rfl rfl (by rw[i0];rfl) (fun K hK=>?_) fun m' H'=>?_
  ·kst_p
   cases rev<;>kst_p
   ·exact⟨bigI_of (k := 2) (by omega),bigI_of (by omega),hK⟩
   ·refine⟨bigI_of (k := 2) (by omega),bigI_of (by omega),?_⟩
    exact hK
  unfold c_cap_t2
  refine asg_inst (k := is.length+1) (d := .int ((if rev then 2 * g else 2 * g+1: Nat): Int)) (i := ⟨2,0,if rev then 2 * g else 2 * g+1,0,0,false⟩) H' (by simp;omega) (by simp) rfl rfl rfl (by rw[insAt_set (by simp),if_neg (by omega),i1];rfl) (fun K hK=>?_) fun m' H'=>?_
  ·kst_p
   cases rev<;>kst_p
   ·refine⟨bigI_of (k := 2) (by omega),bigI_of (by omega),?_⟩
    exact hK
   ·exact⟨bigI_of (k := 2) (by omega),bigI_of (by omega),hK⟩
  unfold c_cap_t3
  refine asg_inst (k := is.length) (d := .int (a.f.b: Nat)) (i := ⟨2,a.f.b,if rev then 2 * g+1 else 2 * g,0,0,false⟩) H' (by simp;omega) (by simp) rfl rfl rfl (by rw[insAt_set (by simp),if_neg (by omega),insAt_set (by simp),if_pos rfl];rfl) (fun K hK=>?_) fun m' H'=>?_
  ·kst_p
   exact hK
  have eI: (((is++[opI 2]++[opI 2]).set is.length ⟨2,0,if rev then 2 * g+1 else 2 * g,0,0,false⟩).set (is.length+1) ⟨2,0,if rev then 2 * g else 2 * g+1,0,0,false⟩).set is.length ⟨2,a.f.b,if rev then 2 * g+1 else 2 * g,0,0,false⟩=is++[(⟨2,a.f.b,if rev then 2 * g+1 else 2 * g,0,0,false⟩: Ins),⟨2,0,if rev then 2 * g else 2 * g+1,0,0,false⟩] := by
   apply List.ext_getElem?
   intro j
   simp only[List.getElem?_set,List.getElem?_append,List.append_assoc,List.length_append,List.length_set,List.cons_append,List.nil_append]
   by_cases h: j<is.length
   ·have e1: is.length≠j := by omega
    have e2: is.length+1≠j := by omega
    simp[h,e1,e2]
   ·by_cases h1: is.length=j
    ·subst h1;simp
    ·by_cases h2: is.length+1=j
     ·subst h2;simp
     ·simp only[if_neg h1,if_neg h2,if_neg h]
      rw[List.getElem?_eq_none (by simp;omega),List.getElem?_eq_none (by simp;omega)]
  rw[eI]at H'
  unfold c_cap_t4
  obtain⟨D,L,ps,hM,hD,hL,hl,hI⟩ := H'.get
  (kst_p;repeat (simp only[bs,calOf,hM,hD];kst_p))
  refine sM_patch G a.f.e0 a.f.e1 (is.length+1) a.ms H' (by simp;omega) (by
   have := (pa.ch.push (⟨2,a.f.b,if rev then 2 * g+1 else 2 * g,0,0,false⟩: Ins)).push (⟨2,0,if rev then 2 * g else 2 * g+1,0,0,false⟩: Ins)
   rwa [List.append_assoc]at this) pa.nd fun m' H'=>?_
  kst_p
  refine⟨bigI_of (k := is.length+1) (by omega),bigI_of (k := 2) (by omega),?_⟩
  kst_p
  refine sp_ends_one G ((is.length+1) * 2) ?_
  kst_p
  exact ret4 G _ _ _ _ (hQ (fun _=>hle) _ H')
 ·rw[if_pos ha]at hQ
  refine sf_none G ?_
  kst_p
  exact⟨_,_,.refl,hQ (fun h=>absurd ha h) _ H⟩
end
section
variable {W: Wd} (G: Gd W) {n: Nat} {m: Mt} {Q X: DV->Mt->Prop} {M: Addr} {most: Nat} {is: List Ins} {r: Mt}
include G
theorem sf_made {dp: DV} (o: Ord) (parts: List Part) (row: Row) (rev: Bool) (H: MkM M most is r m) (hs: is.length<=800) (hm0: is.length<=most) (hp: asL m dp=some (parts.map fun p=>eF p.f)) (hm: parts.length=many o) (ok: ∀ p∈parts,PartOk is p/\(p.f.b=0->p.f.nl=false)) (dj: o=.cat->∀ k∈(part parts 0).ms,k∉(part parts 1).ms) (h0: row.s0<=3) (h1: row.s1<=3)
  (hX: most<is.length+needs o (parts.map shpOf)->X (.int (most: Nat)) m)
  (hQ: is.length+needs o (parts.map shpOf)<=most->∀ m',MkM M most (made is o parts row rev).1 r m'->Q (eF (made is o parts row rev).2.f) m'): CallOk W 45 (n+7) 390 [.ref M,eO o,dp,eR row,.bool rev] m Q X := by
 refine G.fn G.k_law_made .nil rfl ?_
 unfold c_law_made
 cases o<;>simp only[many]at hm
 case range=>
  kst_p
  kst_all
  refine sf_range G row.lo row.hi row.fold H (by omega) hX fun hle m' H'=>?_
  exact⟨_,_,.refl,hQ hle m' H'⟩
 case nop=>
  kst_p
  refine sf_nop G H (by omega) hX fun hle m' H'=>?_
  exact⟨_,_,.refl,hQ hle m' H'⟩
 case none=>
  kst_p
  refine sf_none G ?_
  exact⟨_,_,.refl,hQ hm0 m H⟩
 case empty=>
  kst_p
  refine sf_empty G row.bits H (by omega) hX fun hle m' H'=>?_
  exact⟨_,_,.refl,hQ hle m' H'⟩
 case cat=>
  match parts,hm with
  |[a,b],_=>
   have pa := (ok a (by simp)).1
   have pb := (ok b (by simp)).1
   kst_p
   refine subW_of hp (k := 0) (d := eF a.f) (by omega) rfl ?_
   kst_p
   refine subW_of hp (k := 1) (d := eF b.f) (by omega) rfl ?_
   kst_p
   refine sf_cat G a b H (by omega) pa pb (dj rfl) fun m' H'=>?_
   exact⟨_,_,.refl,hQ hm0 m' H'⟩
 case alt=>
  match parts,hm with
  |[a,b],_=>
   have pa := (ok a (by simp)).1
   have pb := (ok b (by simp)).1
   kst_p
   refine subW_of hp (k := 0) (d := eF a.f) (by omega) rfl ?_
   kst_p
   refine subW_of hp (k := 1) (d := eF b.f) (by omega) rfl ?_
   kst_p
   refine sf_alt G a b H (by omega) pa pb (fun x y h=>hX ?_) fun hle m' H'=>?_
   ·simp[needs,shpOf,x,y];omega
   ·refine⟨_,_,.refl,hQ ?_ m' H'⟩
    by_cases x: a.f.b=0
    ·simp[needs,shpOf,x];exact hm0
    ·by_cases y: b.f.b=0
     ·simp[needs,shpOf,y];exact hm0
     ·simp[needs,shpOf,x,y];exact hle x y
 case plus=>
  match parts,hm with
  |[a],_=>
   have pa := (ok a (by simp)).1
   kst_p
   refine subW_of hp (k := 0) (d := eF a.f) (by omega) rfl ?_
   kst_p
   refine sf_plus G a row.lazy H (by omega) pa (fun x h=>hX ?_) fun hle m' H'=>?_
   ·simp[needs,shpOf,x];omega
   ·refine⟨_,_,.refl,hQ ?_ m' H'⟩
    by_cases x: a.f.b=0
    ·simp[needs,shpOf,x];exact hm0
    ·simp[needs,shpOf,x];exact hle x
 case quest=>
  match parts,hm with
  |[a],_=>
   have pa := (ok a (by simp)).1
   kst_p
   refine subW_of hp (k := 0) (d := eF a.f) (by omega) rfl ?_
   kst_p
   refine sf_quest G a row.lazy H (by omega) pa hX fun hle m' H'=>?_
   exact⟨_,_,.refl,hQ hle m' H'⟩
 case star=>
  match parts,hm with
  |[a],_=>
   have pa := (ok a (by simp)).1
   have en: needs .star ([a].map shpOf)=if a.f.b≠0/\a.f.nl=true then 2 else 1 := by
    have := (ok a (by simp)).2
    by_cases x: a.f.b=0
    ·simp[needs,shpOf,shp,x,this x]
    ·simp[needs,shpOf,shp,x]
   rw[en]at hX hQ
   kst_p
   refine subW_of hp (k := 0) (d := eF a.f) (by omega) rfl ?_
   kst_p
   refine sf_star G a row.lazy H (by omega) pa hX fun hle m' H'=>?_
   exact⟨_,_,.refl,hQ hle m' H'⟩
 case capture=>
  match parts,hm with
  |[a],_=>
   have pa := (ok a (by simp)).1
   kst_p
   refine subW_of hp (k := 0) (d := eF a.f) (by omega) rfl ?_
   kst_p
   refine⟨by omega,bigI_of (k := 2) (by omega),?_⟩
   kst_p
   have eg: (1: Int)+(if(row.s1: Int)<(row.s0: Int)then(row.s1: Int)else(row.s0: Int)) / 2=((1+min row.s0 row.s1 / 2: Nat): Int) := by
    split<;>omega
   rw[eg]
   refine sf_capture G a (1+min row.s0 row.s1 / 2) rev H (by omega) (by omega) pa (fun x h=>hX ?_) fun hle m' H'=>?_
   ·simp[needs,shpOf,x];omega
   ·refine⟨_,_,.refl,hQ ?_ m' H'⟩
    by_cases x: a.f.b=0
    ·simp[needs,shpOf,x];exact hm0
    ·simp[needs,shpOf,x];exact hle x
end
section
theorem eqL_same {f: DV->DV->Option Bool}: ∀{l: List DV},(∀ x∈l,f x x=some true)->eqL f l l=some true
 |[],_=>rfl
 |x::r,h=>by
  unfold eqL
  rw[h x (List.mem_cons_self ..)]
  exact eqL_same fun y hy=>h y (List.mem_cons_of_mem _ hy)
theorem eqN_same: ∀(n: Nat) (x: DV),plainN n x=true->eqN n x x=some true := by
 intro n
 induction n with
 |zero=>
  intro x h
  cases x<;>simp[plainN]at h<;>simp[eqN]
 |succ n ih=>
  intro x h
  cases x with
  |tup l=>
   simp only[plainN,List.all_eq_true]at h
   simp only[eqN]
   exact eqL_same fun y hy=>ih y (h y hy)
  |lst l=>
   simp only[plainN,List.all_eq_true]at h
   simp only[eqN]
   exact eqL_same fun y hy=>ih y (h y hy)
  |_=>simp[plainN]at h<;>simp[eqN]
theorem eqTop_same {m: Mt} {a b: DV} {x: List DV} (ha: asL m a=some x) (hb: asL m b=some x) (hp: x.all (plainN 8)=true): eqTop m a b=some true := by
 unfold eqTop
 rw[ha,hb]
 dsimp only
 rw[Nat.beq_refl]
 dsimp only
 rw[hp]
 exact eqL_same fun y hy=>eqN_same 8 y (List.all_eq_true.mp hp y hy)
theorem eqTop_len {m: Mt} {a b: DV} {x y: List DV} (ha: asL m a=some x) (hb: asL m b=some y) (h: x.length≠y.length): eqTop m a b=some false := by
 unfold eqTop
 rw[ha,hb]
 dsimp only
 rw[beq_false h]
theorem MkM.getM {M: Addr} {most: Nat} {is: List Ins} {r m: Mt} (H: MkM M most is r m): ∃ D L ps,m M=some (.inst 200 D)/\m D=some (.attrs [253107527,32376161590] [.int (most: Nat),.ref L])/\m L=some (.lst ((ps: List (Addr×Addr)).map fun p=>.ref p.1))/\ps.length=is.length/\
  (∀ k p,ps[k]?=some p->m p.1=some (.inst 65 p.2)/\m p.2=some (.attrs insN (insAt is k).vals))/\(∀ most': Nat,MkM M most' is r (m.set D (.attrs [253107527,32376161590] [.int (most': Nat),.ref L]))) := by
 obtain⟨l,rfl,H⟩ := H
 exact⟨l.D,l.L,l.ps,H.hM,H.hD,H.hL,H.len,H.hI,fun most'=>⟨l,rfl,H.setMost most'⟩⟩
def rowD (i: Ins): DV := .tup [.int (i.op: Nat),.int (i.out: Nat),.int (i.arg: Nat),.int (i.low: Nat),.int (i.high: Nat),.bool i.fold]
theorem range_map_get {α: Type} (l: List α) (d: α): (List.range l.length).map (fun k=>l.getD k d)=l := by
 apply List.ext_getElem
 ·simp
 ·intro i h1 h2
  simp[h2]
variable {W: Wd} (G: Gd W) {n: Nat} {m: Mt} {Q X: DV->Mt->Prop} {M: Addr} {most: Nat} {is: List Ins} {r: Mt}
include G
theorem sp_rows {L: Addr} {ps: List (Addr×Addr)} (hL: m L=some (.lst (ps.map fun p=>.ref p.1))) (hl: ps.length=is.length) (hI: ∀ k p,ps[k]?=some p->m p.1=some (.inst 65 p.2)/\m p.2=some (.attrs insN (insAt is k).vals)) (hs: is.length<=1000) (h: Q (.lst (is.map rowD)) m): CallOk W 45 (n+1) 395 [.ref L] m Q X := by
 refine G.fn G.k_law_rows .nil rfl ?_
 unfold c_law_rows
 kst_p
 have a0: asL m (.ref L)=some (ps.map fun p=>.ref p.1) := asL_ref hL
 (kst_p;repeat (simp only[bs,iterL_of a0];kst_p))
 refine⟨trivial,small_of (by simp;omega),?_⟩
 have e1: (ps.map fun p=>DV.ref p.1)=(List.range is.length).map fun k=>DV.ref (ps.getD k (0,0)).1 := by
  conv=>lhs;rw[<-range_map_get ps (0,0)]
  rw[List.map_map,hl];rfl
 have e2: is.map rowD=(List.range is.length).map fun k=>rowD (insAt is k) := by
  conv=>lhs;rw[<-range_map_get is (opI 6)]
  rw[List.map_map];rfl
 rw[e1]
 refine compW_of _ (fun k=>rowD (insAt is k)) ?_ ?_ ?_
 ·show m L=_;rw[hL,e1]
 ·intro k hk K hK
  have hk: k<ps.length := by rw[hl];exact List.mem_range.mp hk
  obtain⟨g1,g2⟩ := hI k _ (List.getElem?_eq_getElem hk)
  have e3: ps.getD k (0,0)=ps[k] := by rw[List.getD_eq_getElem?_getD,List.getElem?_eq_getElem hk];rfl
  rw[e3]
  (kst_p;repeat (simp only[bs,getA,g1,g2];kst_p))
  exact⟨_,_,.refl,hK⟩
 ·intro a ha
  dsimp only at ha
  refine⟨m,_,(Sub.rfl.new ha).list (Mt.set_self _ _ _) ha,?_⟩
  rw[<-e2];exact h
omit G in
theorem rows_plain (is: List Ins): (is.map rowD).all (plainN 8)=true := by
 rw[List.all_map,List.all_eq_true]
 intro i _
 rfl
theorem tried_t2 {loc: Loc} {mu: Mt} {N: Nat} {k: Nat} {d: DV} {is': List Ins} (H: MkM M most is' r mu) (hs: is'.length<=1000) (h1: look loc 32066903573=some (.ref M)) (h2: look loc 28181297528=some (.lst (is.map rowD))) (h3: look loc 32341580436=some (.int (k: Nat))) (h4: look loc 220655771=some d) (hl: is'.length=is.length+k) (h: Q d mu) :
  wpSs W 45 T0 (n+7) c_tried_t2 (fun r σ=>∃ m' d',Fz σ.mu (r.getD .none) m' d'/\Q d' m') (fun d σ=>X d σ.mu) ⟨loc,mu⟩ := by
 obtain⟨D,L,ps,hM,hD,hL,hl',hI⟩ := H.get
 unfold c_tried_t2
 (kst_p;repeat (simp only[bs,h1];kst_p))
 (kst_p;repeat (simp only[bs,getA,hM,hD,lenV,seqV,asL,hL];kst_p))
 simp only[List.length_map,hl']
 refine⟨small_of (by omega),?_⟩
 (kst_p;repeat (simp only[bs,h2];kst_p))
 simp only[List.length_map]
 refine⟨small_of (by omega),?_⟩
 (kst_p;repeat (simp only[bs,h3];kst_p))
 (kst_p;repeat (simp only[bs,cmpV,eqTop,asL,plainN,eqN,Option.map_some];kst_p))
 have e: decide (Int.ofNat is'.length=Int.ofNat is.length+(k: Int))=true := decide_eq_true (by simp;omega)
 rw[e]
 (kst_p;repeat (simp only[bs,h4];kst_p))
 exact⟨_,_,.refl,h⟩
theorem sp_tried {dp: DV} (o: Ord) (parts: List Part) (row: Row) (rev: Bool) (room: Nat) (H: MkM M most is r m) (hs: is.length<=800) (hr: room<=1000) (hp: asL m dp=some (parts.map fun p=>eF p.f)) (hpr: asL r dp=some (parts.map fun p=>eF p.f)) (hm: parts.length=many o) (ok: ∀ p∈parts,PartOk is p/\(p.f.b=0->p.f.nl=false)) (dj: o=.cat->∀ k∈(part parts 0).ms,k∉(part parts 1).ms) (h0: row.s0<=3) (h1: row.s1<=3)
  (hQ: ∀ most' m',MkM M most' (made is o parts row rev).1 r m'->Q (eF (made is o parts row rev).2.f) m'): CallOk W 45 (n+8) 402 [.ref M,.int (room: Nat),.int (needs o (parts.map shpOf): Nat),eO o,dp,eR row,.bool rev] m Q X := by
 obtain⟨D,L,ps,hM,hD,hL,hl,hI,hmost⟩ := H.getM
 refine G.fn G.k_law_tried .nil rfl ?_
 unfold c_law_tried
 (kst_p;repeat (simp only[bs,getA,hM,hD];kst_p))
 refine sp_rows G hL hl hI (by omega) ?_
 kst_p
 refine⟨small_of (by simp;omega),?_⟩
 (kst_p;repeat (simp only[bs,setAt,hM,hD];kst_p))
 simp only[List.length_map]
 have ml := made_len (row := row) (rev := rev) (is := is) hm (fun p hp=>(ok p hp).2)
 have mn: needs o (parts.map shpOf)<=2 := needs_le
 have H1 := hmost (is.length+room)
 have hmm: m.set D (.attrs (fput [253107527,32376161590] [.int (most: Nat),.ref L] 253107527 (.int (Int.ofNat is.length+(room: Int)))).1 (fput [253107527,32376161590] [.int (most: Nat),.ref L] 253107527 (.int (Int.ofNat is.length+(room: Int)))).2)=m.set D (.attrs [253107527,32376161590] [.int ((is.length+room: Nat): Int),.ref L]) := rfl
 rw[hmm]
 generalize m.set D (.attrs [253107527,32376161590] [.int ((is.length+room: Nat): Int),.ref L])=mu1 at H1 ⊢
 refine sf_made (is := is) (r := r) (most := is.length+room) G o parts row rev H1 hs (by omega) (asL_sub H1.rest hpr) hm ok dj h0 h1 (fun hlt=>?_) fun hle m' H'=>?_
 ·obtain⟨D,L,ps,hM,hD,hL,hl,hI,hmost⟩ := H1.getM
  unfold c_tried_t1
  kst_p
  (kst_p;repeat (simp only[bs,cmpV];kst_p))
  have e: decide ((room: Int)<((needs o (parts.map shpOf): Nat): Int))=true := decide_eq_true (by omega)
  rw[e]
  (kst_p;repeat (simp only[bs,eqTop,asL,plainN,eqN,Option.map_some];kst_p))
  simp only[List.length_map]
  refine⟨small_of (by omega),?_⟩
  kst_p
  (kst_p;repeat (simp only[bs,cmpV,eqTop,asL,plainN,eqN,Option.map_some];kst_p))
  have e2: decide (((is.length+room: Nat): Int)=Int.ofNat is.length+(room: Int))=true := decide_eq_true (by simp)
  rw[e2]
  (kst_p;repeat (simp only[bs,getA,hM,hD];kst_p))
  refine sp_rows G hL hl hI (by omega) ?_
  kst_p
  (kst_p;repeat (simp only[bs,cmpV];kst_p))
  rw[eqTop_same (x := is.map rowD) rfl rfl (rows_plain is)]
  (kst_p;repeat (simp only[bs,setAt,hM,hD];kst_p))
  have H2 := hmost 1000
  refine sf_made (is := is) (r := r) (most := 1000) G o parts row rev H2 hs (by omega) (asL_sub H2.rest hpr) hm ok dj h0 h1 (fun hlt=>by omega) fun hle m' H'=>?_
  kst_p
  exact tried_t2 G (N := 0) (is := is) (k := needs o (parts.map shpOf)) H' (by omega) rfl rfl rfl rfl ml (hQ _ _ H')
 ·unfold c_tried_t1
  kst_p
  (kst_p;repeat (simp only[bs,cmpV];kst_p))
  have e: decide ((room: Int)<((needs o (parts.map shpOf): Nat): Int))=false := decide_eq_false (by omega)
  rw[e]
  (kst_p;repeat (simp only[bs,eqTop,asL,plainN,eqN,Option.map_some];kst_p))
  exact tried_t2 G (N := 0) (is := is) (k := needs o (parts.map shpOf)) H' (by omega) rfl rfl rfl rfl ml (hQ _ _ H')
end
section
def eC (c: Conf): DV := .tup [.int (c.1: Nat),.int (c.2.1: Nat),eK c.2.2]
variable {W: Wd} (G: Gd W) {n: Nat} {m: Mt} {Q X: DV->Mt->Prop} {M: Addr} {most: Nat} {is: List Ins} {r: Mt}
theorem nat_dec (a: Nat) (b: Nat): decide ((a: Int)=(b: Int))=decide (a=b) := by rw[decide_eq_decide];omega
include G
theorem sp_ways {a x: Addr} {dh: DV} (i: Ins) (at_: Nat) (k: Kept) (text holds: List Nat) (h1: m a=some (.inst 65 x)) (h2: m x=some (.attrs insN i.vals)) (hh: asL m dh=some (holds.map eN)) (hH: holds.length=5) (hL: text.length<=4) (hT: ∀ x∈text,x<256) (hat: at_<=text.length) (hk: k.length<=4) (hc: i.op=2->2<=i.arg) (h: Q (.lst ((ways i at_ k text holds).map eC)) m): CallOk W 45 (n+2) 409 [.ref a,.int (at_: Nat),eK k,eB text,dh] m Q X := by
 refine G.fn G.k_law_ways .nil rfl ?_
 unfold c_law_ways
 have hsz: (text.map UInt8.ofNat).toArray.size=text.length := by simp
 have d0: decide ((i.op: Int)=0)=decide (i.op=0) := nat_dec i.op 0
 have d5: decide ((i.op: Int)=5)=decide (i.op=5) := nat_dec i.op 5
 have d3: decide ((i.op: Int)=3)=decide (i.op=3) := nat_dec i.op 3
 have d2: decide ((i.op: Int)=2)=decide (i.op=2) := nat_dec i.op 2
 have d1: decide ((i.op: Int)=1)=decide (i.op=1) := nat_dec i.op 1
 unfold ways at h
 (kst_p;repeat (simp only[bs,getA,h1,h2];kst_p))
 (kst_p;repeat (simp only[bs,cmpV,eqTop,asL,plainN,eqN,d0];kst_p))
 cases c0: decide (i.op=0)<;>simp only[decide_eq_true_eq,decide_eq_false_iff_not]at c0
 ·rw[if_neg c0]at h
  (kst_p;repeat (simp only[bs,getA,h1,h2];kst_p))
  (kst_p;repeat (simp only[bs,cmpV,eqTop,asL,plainN,eqN,d5];kst_p))
  cases c5: decide (i.op=5)<;>rw[c5]at h<;>simp only[decide_eq_true_eq,decide_eq_false_iff_not]at c5
  ·(kst_p;repeat (simp only[bs,getA,h1,h2];kst_p))
   (kst_p;repeat (simp only[bs,cmpV,eqTop,asL,plainN,eqN,d3];kst_p))
   have rest: (Q (.lst ((if i.op=2 then[(i.out,at_,kept k (kMark (i.arg-2) at_))]else if(decide (i.op=1)&&rangeAt i.low i.high i.fold text at_)=true then[(i.out,at_+1,k)]else[]).map eC)) m)->wpSs W 45 T0 (n+1) c_ways_t1 (fun r σ=>∃ m' d',Fz σ.mu (r.getD .none) m' d'/\Q d' m') (fun d σ=>X d σ.mu) ⟨[253107394,15191,253056312,253189449,32341698207].zip ([.ref a,.int (at_: Nat),eK k,eB text,dh]++[]),m⟩ := by
    intro h
    unfold c_ways_t1
    (kst_p;repeat (simp only[bs,getA,h1,h2];kst_p))
    (kst_p;repeat (simp only[bs,cmpV,eqTop,asL,plainN,eqN,d2];kst_p))
    cases c2: decide (i.op=2)<;>simp only[decide_eq_true_eq,decide_eq_false_iff_not]at c2
    ·rw[if_neg c2]at h
     (kst_p;repeat (simp only[bs,getA,h1,h2];kst_p))
     (kst_p;repeat (simp only[bs,cmpV,eqTop,asL,plainN,eqN,d1];kst_p))
     cases c1: decide (i.op=1)<;>rw[c1]at h
     ·kst_p
      (intro b hb;(try dsimp only at hb);kst_p)
      exact⟨m,_,(Sub.rfl.new hb).list (Mt.set_self _ _ _) hb,h⟩
     ·kst_p
      simp only[hsz]
      refine⟨small_of (by omega),?_⟩
      (kst_p;repeat (simp only[bs,cmpV];kst_p))
      unfold rangeAt at h
      cases hd: decide ((at_: Int)<Int.ofNat text.length)<;>simp at hd
      ·rw[decide_eq_false (by omega)]at h
       kst_p
       (intro b hb;(try dsimp only at hb);kst_p)
       exact⟨m,_,(Sub.rfl.new hb).list (Mt.set_self _ _ _) hb,h⟩
      ·rw[decide_eq_true (by omega)]at h
       (kst_p;repeat (simp only[bs,getA,h1,h2];kst_p))
       refine⟨bigI_of (by omega),?_⟩
       kst_p
       simp only[hsz,nthB_of hd hT]
       refine⟨small_of (by omega),?_⟩
       kst_p
       refine sp_fits G i.low i.high i.fold (text.getD at_ 0) ?_
       cases hf: fits i.low i.high i.fold (text.getD at_ 0)<;>rw[hf]at h
       ·kst_p
        (intro b hb;(try dsimp only at hb);kst_p)
        exact⟨m,_,(Sub.rfl.new hb).list (Mt.set_self _ _ _) hb,h⟩
       ·(kst_p;repeat (simp only[bs,getA,h1,h2];kst_p))
        (intro b hb;(try dsimp only at hb);kst_p)
        exact⟨m,_,(Sub.rfl.new hb).list (Mt.set_self _ _ _) hb,h⟩
    ·rw[if_pos c2]at h
     (kst_p;repeat (simp only[bs,getA,h1,h2];kst_p))
     refine sp_mark' G _ (i.arg-2) at_ (by have := hc c2;omega) ?_
     kst_p
     refine sp_kept G k _ hk (by simp[kMark_len]) ?_
     kst_p
     (intro b hb;(try dsimp only at hb);kst_p)
     exact⟨m,_,(Sub.rfl.new hb).list (Mt.set_self _ _ _) hb,h⟩
   cases c3: decide (i.op=3)<;>rw[c3]at h
   ·exact rest h
   ·kst_p
    refine subW_of hh (k := at_) (d := eN (holds.getD at_ 0)) (by omega) (by rw[List.getElem?_map,List.getElem?_eq_getElem (by omega),List.getD_eq_getElem?_getD,List.getElem?_eq_getElem (by omega)];rfl) ?_
    (kst_p;repeat (simp only[bs,getA,h1,h2];kst_p))
    refine⟨Int.natCast_nonneg _,Int.natCast_nonneg _,?_⟩
    (kst_p;repeat (simp only[bs,getA,h1,h2];kst_p))
    (kst_p;repeat (simp only[bs,cmpV,eqTop,asL,plainN,eqN];kst_p))
    have hE: emptyAt i.arg holds at_=decide (Int.ofNat ((Int.toNat (holds.getD at_ 0: Nat))&&& (Int.toNat (i.arg: Nat)))=(i.arg: Int)) := by
     unfold emptyAt
     rw[Int.toNat_natCast,Int.toNat_natCast,decide_eq_decide]
     constructor
     ·intro h;exact congrArg Int.ofNat h
     ·intro h;exact Int.ofNat.inj h
    rw[<-hE]
    cases hd: emptyAt i.arg holds at_<;>rw[hd]at h
    ·exact rest h
    ·(kst_p;repeat (simp only[bs,getA,h1,h2];kst_p))
     (intro b hb;(try dsimp only at hb);kst_p)
     exact⟨m,_,(Sub.rfl.new hb).list (Mt.set_self _ _ _) hb,h⟩
  ·(kst_p;repeat (simp only[bs,getA,h1,h2];kst_p))
   (intro b hb;(try dsimp only at hb);kst_p)
   exact⟨m,_,(Sub.rfl.new hb).list (Mt.set_self _ _ _) hb,h⟩
 ·rw[if_pos c0]at h
  (kst_p;repeat (simp only[bs,getA,h1,h2];kst_p))
  (intro b hb;(try dsimp only at hb);kst_p)
  refine⟨m,_,(Sub.rfl.new hb).list (Mt.set_self _ _ _) hb,h⟩
end
section
def dTof: List (Nat×Nat)->MObj
 |[]=>.dE
 |l=>.dT (l.map fun p=>[(p.1: Int),(p.2: Int)])
theorem in_dT {μ: Mt} {b: Addr} {met: List (Nat×Nat)} {i j: Nat} (h: μ b=some (dTof met)): inV μ (.tup [.int (i: Nat),.int (j: Nat)]) (.ref b)=some (decide ((i,j)∈met)) := by
 simp only[inV,h]
 have key: ∀ l: List (Nat×Nat),(l.map fun p=>[(p.1: Int),(p.2: Int)]).contains [(i: Int),(j: Int)]=decide ((i,j)∈l) := by
  intro l
  rw[Bool.eq_iff_iff,List.contains_iff_mem,decide_eq_true_eq,List.mem_map]
  constructor
  ·rintro⟨p,hp,e⟩
   simp only[List.cons.injEq,and_true]at e
   have: p=(i,j) := by cases p;simp only[Prod.mk.injEq];omega
   rwa [<-this]
  ·intro h;exact⟨_,h,rfl⟩
 cases met with
 |nil=>rfl
 |cons x r=>simp only[dTof,dctHas];rw[key]
theorem put_dT {met: List (Nat×Nat)} {i j: Nat} (hc: (i,j)∉met): dctPut (.tup [.int (i: Nat),.int (j: Nat)]) (dTof met)=some (dTof (met++[(i,j)])) := by
 cases met with
 |nil=>rfl
 |cons x r=>
  have: (List.map (fun p: Nat×Nat=>[(p.1: Int),(p.2: Int)]) (x::r)).contains [(i: Int),(j: Int)]=false := by
   rw[Bool.eq_false_iff];intro h
   rw[List.contains_iff_mem,List.mem_map]at h
   obtain⟨p,hp,e⟩ := h
   simp only[List.cons.injEq,and_true]at e
   have: p=(i,j) := by cases p;simp only[Prod.mk.injEq];omega
   exact hc (this▸hp)
  simp only[dTof,List.cons_append]
  simp only[dctPut,this]
  simp
theorem setSub_dT {loc: Loc} {mu: Mt} {b: Addr} {met: List (Nat×Nat)} {i j: Nat} {K: St->Prop} (h: mu b=some (dTof met)) (hc: (i,j)∉met) (hs: met.length<=1000) (k: K ⟨loc,mu.set b (dTof (met++[(i,j)]))⟩): setSub (.ref b) (.tup [.int (i: Nat),.int (j: Nat)]) (.bool true) K ⟨loc,mu⟩ := by
 unfold setSub
 simp only[h]
 have hl: dctLen (dTof met)=met.length := by cases met<;>simp[dTof,dctLen]
 have := put_dT hc
 cases met with
 |nil=>exact⟨small_of (by simp[dTof,dctLen]),k⟩
 |cons x r=>
  simp only[dTof]at this hl ⊢
  rw[this]
  exact⟨small_of (by rw[hl];omega),k⟩
theorem ways_kept {i: Ins} {at_: Nat} {k: Kept} {text holds: List Nat} (hk: k.length<=4): ∀ c∈ways i at_ k text holds,c.2.2.length<=4 := by
 intro c hc
 unfold ways at hc
 split at hc
 ·simp at hc;rcases hc with rfl|rfl<;>exact hk
 ·split at hc
  ·simp at hc;subst hc;exact hk
  ·split at hc
   ·simp at hc;subst hc;exact kept_len (by simp[kMark_len])
   ·split at hc
    ·simp at hc;subst hc;exact hk
    ·simp at hc
theorem ways_len {i: Ins} {at_: Nat} {k: Kept} {text holds: List Nat}: (ways i at_ k text holds).length<=2 := by
 unfold ways
 split
 ·simp
 ·split
  ·simp
  ·split
   ·simp
   ·split<;>simp
theorem whileN_dfs {is: List Ins} {text holds: List Nat} {B: (St->Prop)->St->Prop} (PP: List Conf->List (Nat×Nat)->List Way->St->Prop) {res: List Way}
  (hdone: ∀ met σ K,PP [] met res σ->B K σ)
  (hold: ∀ n a k left met found σ K,(n,a)∈met->left.length<=1000->PP ((n,a,k)::left) met found σ->(∀ σ',PP left met found σ'->K σ')->B K σ)
  (hnew: ∀ n a k left met found σ K,(n,a)∉met->n<is.length->a<=text.length->left.length<=1000->met.length<=1000->found.length<=1000->PP ((n,a,k)::left) met found σ->(∀ σ',PP (ways (insAt is n) a k text holds++left) ((n,a)::met) (if(insAt is n).op=4 then found++[(a,k)]else found) σ'->K σ')->B K σ) :
  ∀{S met found},Dfs is text holds S met found res->∃ k,∀ σ,PP S met found σ->whileN B k σ := by
 intro S met found D
 induction D with
 |done=>exact⟨1,fun σ hσ=>hdone _ σ _ hσ⟩
 |old h1 h2 _ ih=>
  obtain⟨k,hk⟩ := ih hdone
  exact⟨k+1,fun σ hσ=>hold _ _ _ _ _ _ σ _ h1 h2 hσ fun σ' h'=>hk σ' h'⟩
 |new h1 h2 h3 h4 h5 h6 _ ih=>
  obtain⟨k,hk⟩ := ih hdone
  exact⟨k+1,fun σ hσ=>hnew _ _ _ _ _ _ σ _ h1 h2 h3 h4 h5 h6 hσ fun σ' h'=>hk σ' h'⟩
theorem whileN_at {B: (St->Prop)->St->Prop} {PP: St->Prop} {σ: St} (h: PP σ) (k: ∃ k,∀ σ,PP σ->whileN B k σ): ∃ k,whileN B k σ := k.imp fun _ f=>f σ h
variable {W: Wd} (G: Gd W) {n: Nat} {m: Mt} {Q X: DV->Mt->Prop} {is: List Ins}
include G
theorem found_t1 {loc: Loc} {mu: Mt} {L l: Addr} {ps: List (Addr×Addr)} {dh: DV} {n' a: Nat} {k: Kept} {left: List Conf} (text holds: List Nat) (mL: mu L=some (.lst (ps.map fun p=>.ref p.1))) (hl: ps.length=is.length) (hI: ∀ k p,ps[k]?=some p->mu p.1=some (.inst 65 p.2)/\mu p.2=some (.attrs insN (insAt is k).vals)) (hs: is.length<=1000) (hn: n'<is.length)
  (hh: asL mu dh=some (holds.map eN)) (hH: holds.length=5) (hLt: text.length<=4) (hT: ∀ x∈text,x<256) (hat: a<=text.length) (hk: k.length<=4) (hop: (insAt is n').op=2->2<=(insAt is n').arg)
  (l3: look loc 252889903=some (.ref l)) (l4: look loc 32376161590=some (.ref L)) (l5: look loc 253189449=some (eB text)) (l6: look loc 32341698207=some dh) (l7: look loc 4136611441551=some (.int (n': Nat))) (l8: look loc 15191=some (.int (a: Nat))) (l9: look loc 253056312=some (eK k))
  (m3: mu l=some (.lst (left.reverse.map eC))) (hlen: left.length<=1000) {Qs: Option DV->St->Prop} {Xs: DV->St->Prop}
  (K: ∀ mu',Sub mu mu'->Qs none ⟨loc,mu'.set l (.lst ((ways (insAt is n') a k text holds++left).reverse.map eC))⟩): wpSs W 45 T0 (n+2) c_found_t1 Qs Xs ⟨loc,mu⟩ := by
 unfold c_found_t1
 (kst_p;repeat (simp only[bs,l3,calOf,m3];kst_p))
 (kst_p;repeat (simp only[bs,l4,l7];kst_p))
 have hn': n'<ps.length := by rw[hl];exact hn
 obtain⟨g1,g2⟩ := hI n' _ (List.getElem?_eq_getElem hn')
 refine subW_of (asL_ref mL) (k := n') (d := .ref (ps[n']).1) (by omega) (by rw[List.getElem?_map,List.getElem?_eq_getElem hn'];rfl) ?_
 (kst_p;repeat (simp only[bs,l8,l9,l5,l6];kst_p))
 refine sp_ways G (insAt is n') a k text holds g1 g2 hh hH hLt hT hat hk hop ?_
 kst_p
 refine⟨small_of (by have := @ways_len (insAt is n') a k text holds;simp;omega),?_⟩
 (intro c hc;(try dsimp only at hc);kst_p)
 have ncl: l≠c := fun e=>by subst e;rw[m3]at hc;cases hc
 (kst_p;repeat (simp only[bs,Mt.set_ne _ _ ncl,m3,asL_new];kst_p))
 refine⟨small_of (by have := @ways_len (insAt is n') a k text holds;simp;omega),?_⟩
 kst_p
 have := K _ (Sub.rfl.new (o := .lst (((ways (insAt is n') a k text holds).map eC).reverse)) hc)
 simpa using this
theorem sp_found {L: Addr} {ps: List (Addr×Addr)} {dh: DV} (b0: Nat) (text holds: List Nat) (res: List Way) (hL: m L=some (.lst (ps.map fun p=>.ref p.1))) (hl: ps.length=is.length) (hI: ∀ k p,ps[k]?=some p->m p.1=some (.inst 65 p.2)/\m p.2=some (.attrs insN (insAt is k).vals)) (hs: is.length<=1000)
  (hh: asL m dh=some (holds.map eN)) (hH: holds.length=5) (hLt: text.length<=4) (hT: ∀ x∈text,x<256) (hop: ∀ k,(insAt is k).op=2->2<=(insAt is k).arg) (D: Dfs is text holds [(b0,0,kNone)] [] [] res) (h: Q (eWs res) m): CallOk W 45 (n+3) 416 [.ref L,.int (b0: Nat),eB text,dh] m Q X := by
 refine G.fn G.k_law_found .nil rfl ?_
 unfold c_law_found
 kst_p
 (intro f hf;(try dsimp only at hf);kst_p)
 (intro b hb;(try dsimp only at hb);kst_p)
 have nbf: b≠f := fun e=>by subst e;rw[Mt.set_self]at hb;cases hb
 rw[Mt.set_ne _ _ nbf]at hb
 refine sp_none G ?_
 kst_p
 (intro l hl0;(try dsimp only at hl0);kst_p)
 have nlb: l≠b := fun e=>by subst e;rw[Mt.set_self]at hl0;cases hl0
 rw[Mt.set_ne _ _ nlb]at hl0
 have nlf: l≠f := fun e=>by subst e;rw[Mt.set_self]at hl0;cases hl0
 rw[Mt.set_ne _ _ nlf]at hl0
 have S0: Sub m (((m.set f (.lst [])).set b .dE).set l (.lst [eC (b0,0,kNone)])) := ((Sub.rfl.new hf).put hb).put hl0
 refine whileN_at (PP := fun σ=>_) ?_ (whileN_dfs (fun S met found σ=>(∀ c∈S,c.2.2.length<=4)/\look σ.loc 28209471649=some (.ref f)/\look σ.loc 1960265=some (.ref b)/\look σ.loc 252889903=some (.ref l)/\look σ.loc 32376161590=some (.ref L)/\look σ.loc 253189449=some (eB text)/\look σ.loc 32341698207=some dh/\
  σ.mu f=some (.lst (found.map eW))/\σ.mu b=some (dTof met.reverse)/\σ.mu l=some (.lst (S.reverse.map eC))/\Sub m σ.mu) ?_ ?_ ?_ D)
 ·refine⟨by simp[kNone],rfl,rfl,rfl,rfl,rfl,rfl,?_,?_,?_,S0⟩
  ·simp[Mt.look,nlf.symm,nbf.symm]
  ·simp[Mt.look,nlb.symm,dTof]
  ·simp[Mt.look,eC]
 ·rintro met ⟨loc,mu⟩ K ⟨hk,l1,l2,l3,l4,l5,l6,m1,m2,m3,S⟩
  dsimp only at l1 l2 l3 l4 l5 l6 m1 m2 m3 S
  (kst_p;repeat (simp only[bs,l3];kst_p))
  (intro c hc;(try dsimp only at hc);kst_p)
  have ncl: l≠c := fun e=>by subst e;rw[m3]at hc;cases hc
  (kst_p;repeat (simp only[bs,cmpV];kst_p))
  rw[eqTop_same (x := []) (asL_ref (by rw[Mt.set_ne _ _ ncl];exact m3)) asL_new rfl]
  (kst_p;repeat (simp only[bs,l1];kst_p))
  have ncf: f≠c := fun e=>by subst e;rw[m1]at hc;cases hc
  exact⟨m,_,(S.new hc).list (by rw[Mt.set_ne _ _ ncf];exact m1) hf,h⟩
 ·rintro n' a k left met found ⟨loc,mu⟩ K hin hlen ⟨hk,l1,l2,l3,l4,l5,l6,m1,m2,m3,S⟩ hK
  dsimp only at l1 l2 l3 l4 l5 l6 m1 m2 m3 S
  (kst_p;repeat (simp only[bs,l3];kst_p))
  (intro c hc;(try dsimp only at hc);kst_p)
  have ncl: l≠c := fun e=>by subst e;rw[m3]at hc;cases hc
  have ncb: b≠c := fun e=>by subst e;rw[m2]at hc;cases hc
  have ncf: f≠c := fun e=>by subst e;rw[m1]at hc;cases hc
  have Sc := S.new (o := .lst []) hc
  (kst_p;repeat (simp only[bs,cmpV];kst_p))
  rw[eqTop_len (x := ((n',a,k)::left).reverse.map eC) (y := []) (asL_ref (by rw[Mt.set_ne _ _ ncl];exact m3)) asL_new (by simp)]
  have g3: (mu.set c (.lst [])) l=some (.lst ((left.reverse.map eC)++[eC (n',a,k)])) := by rw[Mt.set_ne _ _ ncl,m3];simp
  have g2: (mu.set c (.lst [])) b=some (dTof met.reverse) := by rw[Mt.set_ne _ _ ncb,m2]
  have g1: (mu.set c (.lst [])) f=some (.lst (found.map eW)) := by rw[Mt.set_ne _ _ ncf,m1]
  generalize mu.set c (.lst [])=mu' at Sc g1 g2 g3 ⊢
  (kst_p;repeat (simp only[bs,l3,calOf,g3];kst_p))
  simp only[List.getLast?_append,List.getLast?_singleton,Option.some_or,List.dropLast_concat]
  refine⟨small_of (by simp;omega),?_⟩
  (kst_p;repeat (simp only[bs,l1,l2,l3];kst_p))
  (kst_p;repeat (simp only[bs,cmpV,in_dT (show(mu'.set l (.lst (left.reverse.map eC))) b=some (dTof met.reverse) by rw[Mt.set_ne _ _ nlb.symm];exact g2)];kst_p))
  rw[decide_eq_true (by simpa using hin)]
  kst_p
  refine hK _ ⟨fun c hc=>hk c (List.mem_cons_of_mem _ hc),by simp[look_put,l1],by simp[look_put,l2],by simp[look_put,l3],by simp[look_put,l4],by simp[look_put,l5],by simp[look_put,l6],?_,?_,Mt.set_self _ _ _,Sc.put hl0⟩
  ·dsimp only;rw[Mt.set_ne _ _ nlf.symm];exact g1
  ·dsimp only;rw[Mt.set_ne _ _ nlb.symm];exact g2
 ·rintro n' a k left met found ⟨loc,mu⟩ K hnot hn ha hlen hmet hfl ⟨hk,l1,l2,l3,l4,l5,l6,m1,m2,m3,S⟩ hK
  dsimp only at l1 l2 l3 l4 l5 l6 m1 m2 m3 S
  (kst_p;repeat (simp only[bs,l3];kst_p))
  (intro c hc;(try dsimp only at hc);kst_p)
  have ncl: l≠c := fun e=>by subst e;rw[m3]at hc;cases hc
  have ncb: b≠c := fun e=>by subst e;rw[m2]at hc;cases hc
  have ncf: f≠c := fun e=>by subst e;rw[m1]at hc;cases hc
  have Sc := S.new (o := .lst []) hc
  (kst_p;repeat (simp only[bs,cmpV];kst_p))
  rw[eqTop_len (x := ((n',a,k)::left).reverse.map eC) (y := []) (asL_ref (by rw[Mt.set_ne _ _ ncl];exact m3)) asL_new (by simp)]
  have g3: (mu.set c (.lst [])) l=some (.lst ((left.reverse.map eC)++[eC (n',a,k)])) := by rw[Mt.set_ne _ _ ncl,m3];simp
  have g2: (mu.set c (.lst [])) b=some (dTof met.reverse) := by rw[Mt.set_ne _ _ ncb,m2]
  have g1: (mu.set c (.lst [])) f=some (.lst (found.map eW)) := by rw[Mt.set_ne _ _ ncf,m1]
  generalize mu.set c (.lst [])=mu' at Sc g1 g2 g3 ⊢
  (kst_p;repeat (simp only[bs,l3,calOf,g3];kst_p))
  simp only[List.getLast?_append,List.getLast?_singleton,Option.some_or,List.dropLast_concat]
  refine⟨small_of (by simp;omega),?_⟩
  (kst_p;repeat (simp only[bs,l1,l2,l3];kst_p))
  (kst_p;repeat (simp only[bs,cmpV,in_dT (show(mu'.set l (.lst (left.reverse.map eC))) b=some (dTof met.reverse) by rw[Mt.set_ne _ _ nlb.symm];exact g2)];kst_p))
  rw[decide_eq_false (by simpa using hnot)]
  (kst_p;repeat (simp only[bs,l1,l2,l3];kst_p))
  refine setSub_dT (mu := mu'.set l (.lst (left.reverse.map eC))) (b := b) (met := met.reverse) (i := n') (j := a) (by rw[Mt.set_ne _ _ nlb.symm];exact g2) (by simpa using hnot) (by simp;omega) ?_
  have Sd := (Sc.put (o := .lst (left.reverse.map eC)) hl0).put (o := dTof (met.reverse++[(n',a)])) hb
  have e1: ((mu'.set l (.lst (left.reverse.map eC))).set b (dTof (met.reverse++[(n',a)]))) f=some (.lst (found.map eW)) := by rw[Mt.set_ne _ _ nbf.symm,Mt.set_ne _ _ nlf.symm];exact g1
  have e2: ((mu'.set l (.lst (left.reverse.map eC))).set b (dTof (met.reverse++[(n',a)]))) b=some (dTof ((n',a)::met).reverse) := by rw[Mt.set_self,List.reverse_cons]
  have e3: ((mu'.set l (.lst (left.reverse.map eC))).set b (dTof (met.reverse++[(n',a)]))) l=some (.lst (left.reverse.map eC)) := by rw[Mt.set_ne _ _ nlb,Mt.set_self]
  generalize (mu'.set l (.lst (left.reverse.map eC))).set b (dTof (met.reverse++[(n',a)]))=mu2 at Sd e1 e2 e3 ⊢
  have hn'': n'<ps.length := by rw[hl];exact hn
  obtain⟨q1,q2⟩ := hI n' _ (List.getElem?_eq_getElem hn'')
  (kst_p;repeat (simp only[bs,l4];kst_p))
  refine subW_of (asL_ref (Sd _ _ hL)) (k := n') (d := .ref (ps[n']).1) (by omega) (by rw[List.getElem?_map,List.getElem?_eq_getElem hn''];rfl) ?_
  (kst_p;repeat (simp only[bs,getA,Sd _ _ q1,Sd _ _ q2];kst_p))
  have d4: decide (((insAt is n').op: Int)=4)=decide ((insAt is n').op=4) := nat_dec _ 4
  (kst_p;repeat (simp only[bs,cmpV,eqTop,asL,plainN,eqN,d4];kst_p))
  have hk0 := hk _ (List.mem_cons_self ..)
  have hks: ∀ c∈ways (insAt is n') a k text holds++left,c.2.2.length<=4 := fun c hc=>by
   rcases List.mem_append.mp hc with hc|hc
   ·exact ways_kept hk0 c hc
   ·exact hk c (List.mem_cons_of_mem _ hc)
  cases c4: decide ((insAt is n').op=4)<;>simp only[decide_eq_true_eq,decide_eq_false_iff_not]at c4
  ·rw[if_neg c4]at hK
   kst_p
   refine found_t1 G (L := L) (l := l) (ps := ps) (dh := dh) (n' := n') (a := a) (k := k) (left := left) text holds (Sd _ _ hL) hl (fun k p hp=>⟨Sd _ _ (hI k p hp).1,Sd _ _ (hI k p hp).2⟩) hs hn (asL_sub Sd hh) hH hLt hT ha hk0 (hop n') (by simp[look_put,l3]) (by simp[look_put,l4]) (by simp[look_put,l5]) (by simp[look_put,l6]) (by simp[look_put]) (by simp[look_put]) (by simp[look_put]) e3 hlen fun mu' Sm=>?_
   refine hK _ ⟨hks,by simp[look_put,l1],by simp[look_put,l2],by simp[look_put,l3],by simp[look_put,l4],by simp[look_put,l5],by simp[look_put,l6],?_,?_,Mt.set_self _ _ _,(Sd.trans Sm).put hl0⟩
   ·dsimp only;rw[Mt.set_ne _ _ nlf.symm];exact Sm _ _ e1
   ·dsimp only;rw[Mt.set_ne _ _ nlb.symm];exact Sm _ _ e2
  ·rw[if_pos c4]at hK
   (kst_p;repeat (simp only[bs,l1,calOf,e1];kst_p))
   refine⟨small_of (by simp;omega),?_⟩
   kst_p
   have Se := Sd.put (o := .lst (found.map eW++[.tup [.int (a: Nat),eK k]])) hf
   refine found_t1 G (L := L) (l := l) (ps := ps) (dh := dh) (n' := n') (a := a) (k := k) (left := left) text holds (Se _ _ hL) hl (fun k p hp=>⟨Se _ _ (hI k p hp).1,Se _ _ (hI k p hp).2⟩) hs hn (asL_sub Se hh) hH hLt hT ha hk0 (hop n') (by simp[look_put,l3]) (by simp[look_put,l4]) (by simp[look_put,l5]) (by simp[look_put,l6]) (by simp[look_put]) (by simp[look_put]) (by simp[look_put]) (by rw[Mt.set_ne _ _ nlf];exact e3) hlen fun mu' Sm=>?_
   refine hK _ ⟨hks,by simp[look_put,l1],by simp[look_put,l2],by simp[look_put,l3],by simp[look_put,l4],by simp[look_put,l5],by simp[look_put,l6],?_,?_,Mt.set_self _ _ _,(Se.trans Sm).put hl0⟩
   ·dsimp only;rw[Mt.set_ne _ _ nlf.symm,Sm _ _ (Mt.set_self _ _ _)];simp[eW]
   ·dsimp only;rw[Mt.set_ne _ _ nlb.symm];exact Sm _ _ (by rw[Mt.set_ne _ _ nbf];exact e2)
end
section
variable {W: Wd} (G: Gd W) {n: Nat} {m: Mt} {Q X: DV->Mt->Prop} {is: List Ins}
include G
theorem sp_inst_fault {a x: Addr} {N: Nat} (i: Ins) (h1: m a=some (.inst 65 x)) (h2: m x=some (.attrs insN i.vals)) (ok: InsOk i N) (h: Q .none m): CallOk W 45 (n+1) 104 [.ref a] m Q X := by
 refine G.fn G.k_inst_fault .nil rfl ?_
 unfold c_inst_fault
 have d1: decide ((i.op: Int)=1)=decide (i.op=1) := nat_dec i.op 1
 have d2: decide ((i.op: Int)=2)=decide (i.op=2) := nat_dec i.op 2
 have d3: decide ((i.op: Int)=3)=decide (i.op=3) := nat_dec i.op 3
 have d4: decide ((i.op: Int)=4)=decide (i.op=4) := nat_dec i.op 4
 (kst_p;repeat (simp only[bs,getA,h1,h2];kst_p))
 (kst_p;repeat (simp only[bs,cmpV,eqTop,asL,plainN,eqN,d1];kst_p))
 by_cases c1: i.op=1
 ·obtain⟨o1,o2⟩ := ok.range c1
  rw[decide_eq_true c1]
  (kst_p;repeat (simp only[bs,getA,h1,h2];kst_p))
  (kst_p;repeat (simp only[bs,cmpV];kst_p))
  rw[decide_eq_true (show(i.low: Int)<=(i.high: Int) by omega)]
  (kst_p;repeat (simp only[bs,cmpV];kst_p))
  rw[decide_eq_true (show(i.high: Int)<=255 by omega)]
  (kst_p;repeat (simp only[bs,getA,h1,h2];kst_p))
  (kst_p;repeat (simp only[bs,cmpV,eqTop,asL,plainN,eqN,d2];kst_p))
  rw[decide_eq_false (by omega)]
  (kst_p;repeat (simp only[bs,getA,h1,h2];kst_p))
  (kst_p;repeat (simp only[bs,cmpV,eqTop,asL,plainN,eqN,d3];kst_p))
  rw[decide_eq_false (by omega)]
  (kst_p;repeat (simp only[bs,getA,h1,h2];kst_p))
  (kst_p;repeat (simp only[bs,cmpV,eqTop,asL,plainN,eqN,d4];kst_p))
  rw[decide_eq_false (by omega)]
  exact⟨_,_,.refl,h⟩
 ·rw[decide_eq_false c1]
  (kst_p;repeat (simp only[bs,getA,h1,h2];kst_p))
  (kst_p;repeat (simp only[bs,cmpV,eqTop,asL,plainN,eqN,d2];kst_p))
  by_cases c2: i.op=2
  ·have o1 := ok.cap c2
   rw[decide_eq_true c2]
   (kst_p;repeat (simp only[bs,getA,h1,h2];kst_p))
   (kst_p;repeat (simp only[bs,cmpV];kst_p))
   rw[decide_eq_false (show ¬ (i.arg: Int)<2 by omega)]
   (kst_p;repeat (simp only[bs,getA,h1,h2];kst_p))
   (kst_p;repeat (simp only[bs,cmpV,eqTop,asL,plainN,eqN,d3];kst_p))
   rw[decide_eq_false (by omega)]
   (kst_p;repeat (simp only[bs,getA,h1,h2];kst_p))
   (kst_p;repeat (simp only[bs,cmpV,eqTop,asL,plainN,eqN,d4];kst_p))
   rw[decide_eq_false (by omega)]
   exact⟨_,_,.refl,h⟩
  ·rw[decide_eq_false c2]
   (kst_p;repeat (simp only[bs,getA,h1,h2];kst_p))
   (kst_p;repeat (simp only[bs,cmpV,eqTop,asL,plainN,eqN,d3];kst_p))
   by_cases c3: i.op=3
   ·obtain⟨o1,o2⟩ := ok.empty c3
    rw[decide_eq_true c3]
    (kst_p;repeat (simp only[bs,getA,h1,h2];kst_p))
    (kst_p;repeat (simp only[bs,cmpV,eqTop,asL,plainN,eqN];kst_p))
    rw[decide_eq_false (show ¬ (i.arg: Int)=0 by omega)]
    (kst_p;repeat (simp only[bs,getA,h1,h2];kst_p))
    refine⟨Int.natCast_nonneg _,by omega,?_⟩
    (kst_p;repeat (simp only[bs,getA,h1,h2];kst_p))
    (kst_p;repeat (simp only[bs,cmpV,eqTop,asL,plainN,eqN,Option.map_some];kst_p))
    rw[decide_eq_true (show Int.ofNat ((Int.toNat (i.arg: Int))&&& (Int.toNat 63))=(i.arg: Int) by rw[Int.toNat_natCast];exact congrArg Int.ofNat o2)]
    (kst_p;repeat (simp only[bs,getA,h1,h2];kst_p))
    (kst_p;repeat (simp only[bs,cmpV,eqTop,asL,plainN,eqN,d4];kst_p))
    rw[decide_eq_false (by omega)]
    exact⟨_,_,.refl,h⟩
   ·rw[decide_eq_false c3]
    (kst_p;repeat (simp only[bs,getA,h1,h2];kst_p))
    (kst_p;repeat (simp only[bs,cmpV,eqTop,asL,plainN,eqN,d4];kst_p))
    by_cases c4: i.op=4
    ·rw[decide_eq_true c4]
     (kst_p;repeat (simp only[bs,getA,h1,h2];kst_p))
     exact⟨_,_,.refl,h⟩
    ·rw[decide_eq_false c4]
     exact⟨_,_,.refl,h⟩
end
section
def prN: List Nat := [32376161590,32648492339,131322104223801899105978,129907780876443790661926,693329460861025571136594217707607069,35998791720882497672107593410212,542699284915561,32341513866,4352065896212,4640661148044596755148102409466918,8965708764269794395]
def prV (L hd: Addr) (a b: Int): List DV := [.ref L,.int a,.int b,.bool false,.bool false,.bool false,.bool false,.ref hd,.bytes #[],.bool false,.none]
variable {W: Wd} (G: Gd W) {n: Nat} {m: Mt} {Q X: DV->Mt->Prop} {is: List Ins}
include G
theorem sp_ways_fault {p pd L hd hs: Addr} {ps: List (Addr×Addr)} {b0 b1: Int} (k: Nat) (hp: m p=some (.inst 86 pd)) (hpd: m pd=some (.attrs prN (prV L hd b0 b1))) (hL: m L=some (.lst (ps.map fun p=>.ref p.1))) (hl: ps.length=is.length) (hI: ∀ k p,ps[k]?=some p->m p.1=some (.inst 65 p.2)/\m p.2=some (.attrs insN (insAt is k).vals)) (hs': is.length<=1000) (hk: k<is.length)
  (ok: InsOk (insAt is k) is.length) (h: Q .none m): CallOk W 45 (n+1) 111 [.ref p,.int (k: Nat),.ref hs] m Q X := by
 refine G.fn G.k_program_ways_fault .nil rfl ?_
 unfold c_program_ways_fault
 have hk': k<ps.length := by rw[hl];exact hk
 obtain⟨g1,g2⟩ := hI k _ (List.getElem?_eq_getElem hk')
 have aL := asL_ref hL
 (kst_p;repeat (simp only[bs,getA,hp,hpd];kst_p))
 refine subW_of aL (k := k) (d := .ref (ps[k]).1) (by omega) (by rw[List.getElem?_map,List.getElem?_eq_getElem hk'];rfl) ?_
 have d4: decide ((4: Int)=((insAt is k).op: Int))=decide ((insAt is k).op=4) := by rw[decide_eq_decide];omega
 have d6: decide ((6: Int)=((insAt is k).op: Int))=decide ((insAt is k).op=6) := by rw[decide_eq_decide];omega
 have d0: decide (((insAt is k).op: Int)=0)=decide ((insAt is k).op=0) := nat_dec _ 0
 (kst_p;repeat (simp only[bs,getA,g1,g2];kst_p))
 (kst_p;repeat (simp only[bs,cmpV,inV,seqV,memV,plainN,List.all_cons,List.all_nil,memL,eqN,d4,d6];kst_p))
 by_cases c4: (insAt is k).op=4
 ·rw[decide_eq_true c4]
  exact⟨_,_,.refl,h⟩
 ·rw[decide_eq_false c4]
  by_cases c6: (insAt is k).op=6
  ·rw[decide_eq_true c6]
   exact⟨_,_,.refl,h⟩
  ·rw[decide_eq_false c6]
   have o1 := ok.out c4 c6
   (kst_p;repeat (simp only[bs,getA,g1,g2];kst_p))
   (kst_p;repeat (simp only[bs,cmpV,eqTop,asL,plainN,eqN,d0];kst_p))
   by_cases c0: (insAt is k).op=0
   ·have o2 := ok.alt c0
    rw[decide_eq_true c0]
    (kst_p;repeat (simp only[bs,getA,g1,g2];kst_p))
    (intro c hc;(try dsimp only at hc);kst_p)
    have Sc: Sub m (m.set c (.lst ([(insAt is k).out,(insAt is k).arg].map eN))) := Sub.rfl.new hc
    have mc: (m.set c (.lst ([(insAt is k).out,(insAt is k).arg].map eN))) c=some (.lst ([(insAt is k).out,(insAt is k).arg].map eN)) := Mt.set_self _ _ _
    have hw: ∀ w∈[(insAt is k).out,(insAt is k).arg],w<is.length := by simp;omega
    have q1 := Sc _ _ hp
    have q2 := Sc _ _ hpd
    have q3 := asL_ref (Sc _ _ hL)
    have eF: (m.set c (.lst [.int ((insAt is k).out: Nat),.int ((insAt is k).arg: Nat)]))=m.set c (.lst ([(insAt is k).out,(insAt is k).arg].map eN)) := rfl
    rw[eF]
    generalize m.set c (.lst ([(insAt is k).out,(insAt is k).arg].map eN))=mu at Sc mc q1 q2 q3 ⊢
    (kst_p;repeat (simp only[bs,iterL,seqV,asL,mc];kst_p))
    refine⟨trivial,?_⟩
    refine forW_ind (fun xs σ=>∃ us: List Nat,xs=us.map eN/\(∀ w∈us,w<is.length)/\look σ.loc 225134396=some (.ref p)/\σ.mu=mu) ?_ ?_ _ _ ⟨[(insAt is k).out,(insAt is k).arg],rfl,hw,rfl,rfl⟩
    ·rintro⟨loc,mu'⟩ ⟨us,hx,hw,l1,e⟩
     dsimp only at l1 e
     subst e
     refine⟨mc,?_⟩
     kst_p
     exact⟨m,_,Sub.fz Sc,h⟩
    ·rintro x xs ⟨loc,mu'⟩ K ⟨us,hx,hw,l1,e⟩ hK
     dsimp only at l1 e
     subst e
     refine⟨mc,?_⟩
     cases us with
     |nil=>cases hx
     |cons w us=>
     simp only[List.map_cons,List.cons.injEq]at hx
     obtain⟨rfl,rfl⟩ := hx
     have hw0 := hw w (List.mem_cons_self ..)
     (kst_p;repeat (simp only[bs,cmpV];kst_p))
     (kst_p;repeat (simp only[bs,l1];kst_p))
     (kst_p;repeat (simp only[bs,getA,q1,q2,lenV_of q3];kst_p))
     simp only[List.length_map,hl]
     refine⟨small_of (by omega),?_⟩
     (kst_p;repeat (simp only[bs,cmpV];kst_p))
     rw[decide_eq_true (show(w: Int)<Int.ofNat is.length by simp;omega)]
     (kst_p;repeat (simp only[bs,l1];kst_p))
     (kst_p;repeat (simp only[bs,getA,q1,q2];kst_p))
     exact hK _ ⟨us,rfl,fun w' h'=>hw w' (List.mem_cons_of_mem _ h'),by simp[look_put,l1],rfl⟩
   ·rw[decide_eq_false c0]
    (kst_p;repeat (simp only[bs,getA,g1,g2];kst_p))
    (intro c hc;(try dsimp only at hc);kst_p)
    have Sc: Sub m (m.set c (.lst ([(insAt is k).out].map eN))) := Sub.rfl.new hc
    have mc: (m.set c (.lst ([(insAt is k).out].map eN))) c=some (.lst ([(insAt is k).out].map eN)) := Mt.set_self _ _ _
    have hw: ∀ w∈[(insAt is k).out],w<is.length := by simp;omega
    have q1 := Sc _ _ hp
    have q2 := Sc _ _ hpd
    have q3 := asL_ref (Sc _ _ hL)
    have eF: (m.set c (.lst [.int ((insAt is k).out: Nat)]))=m.set c (.lst ([(insAt is k).out].map eN)) := rfl
    rw[eF]
    generalize m.set c (.lst ([(insAt is k).out].map eN))=mu at Sc mc q1 q2 q3 ⊢
    (kst_p;repeat (simp only[bs,iterL,seqV,asL,mc];kst_p))
    refine⟨trivial,?_⟩
    refine forW_ind (fun xs σ=>∃ us: List Nat,xs=us.map eN/\(∀ w∈us,w<is.length)/\look σ.loc 225134396=some (.ref p)/\σ.mu=mu) ?_ ?_ _ _ ⟨[(insAt is k).out],rfl,hw,rfl,rfl⟩
    ·rintro⟨loc,mu'⟩ ⟨us,hx,hw,l1,e⟩
     dsimp only at l1 e
     subst e
     refine⟨mc,?_⟩
     kst_p
     exact⟨m,_,Sub.fz Sc,h⟩
    ·rintro x xs ⟨loc,mu'⟩ K ⟨us,hx,hw,l1,e⟩ hK
     dsimp only at l1 e
     subst e
     refine⟨mc,?_⟩
     cases us with
     |nil=>cases hx
     |cons w us=>
     simp only[List.map_cons,List.cons.injEq]at hx
     obtain⟨rfl,rfl⟩ := hx
     have hw0 := hw w (List.mem_cons_self ..)
     (kst_p;repeat (simp only[bs,cmpV];kst_p))
     (kst_p;repeat (simp only[bs,l1];kst_p))
     (kst_p;repeat (simp only[bs,getA,q1,q2,lenV_of q3];kst_p))
     simp only[List.length_map,hl]
     refine⟨small_of (by omega),?_⟩
     (kst_p;repeat (simp only[bs,cmpV];kst_p))
     rw[decide_eq_true (show(w: Int)<Int.ofNat is.length by simp;omega)]
     (kst_p;repeat (simp only[bs,l1];kst_p))
     (kst_p;repeat (simp only[bs,getA,q1,q2];kst_p))
     exact hK _ ⟨us,rfl,fun w' h'=>hw w' (List.mem_cons_of_mem _ h'),by simp[look_put,l1],rfl⟩
end
section
theorem upTo_nat (k: Nat): upTo (rngLen 0 (k: Int) 1) 0 1=(List.range k).map eN := by
 rw[rngLen_nat,show(0: Int)=((0: Nat): Int) from rfl,upTo_map,List.range_eq_range'];rfl
variable {W: Wd} (G: Gd W) {n: Nat} {m: Mt} {Q X: DV->Mt->Prop} {is: List Ins}
include G
theorem sp_heads {p pd L hd: Addr} {ps: List (Addr×Addr)} {b0 b1: Int} (hp: m p=some (.inst 86 pd)) (hpd: m pd=some (.attrs prN (prV L hd b0 b1))) (hL: m L=some (.lst (ps.map fun p=>.ref p.1))) (hl: ps.length=is.length) (hI: ∀ k p,ps[k]?=some p->m p.1=some (.inst 65 p.2)/\m p.2=some (.attrs insN (insAt is k).vals)) (hs': is.length<=1000) (h0: 0<is.length)
  (h: Q (.lst [.int 0]) m): CallOk W 45 (n+1) 97 [.ref p] m Q X := by
 refine G.fn G.k_program_heads .nil rfl ?_
 unfold c_program_heads
 kst_p
 (intro f hf;(try dsimp only at hf);kst_p)
 have S0: Sub m (m.set f (.lst [.int 0])) := Sub.rfl.new hf
 have mf: (m.set f (.lst [.int 0])) f=some (.lst [.int 0]) := Mt.set_self _ _ _
 generalize m.set f (.lst [.int 0])=mu at S0 mf ⊢
 have q1 := S0 _ _ hp
 have q2 := S0 _ _ hpd
 have q3 := asL_ref (S0 _ _ hL)
 (kst_p;repeat (simp only[bs,getA,q1,q2,lenV_of q3];kst_p))
 simp only[List.length_map,hl]
 have e0: Int.ofNat is.length-1=((is.length-1: Nat): Int) := by simp;omega
 refine⟨small_of (by omega),?_⟩
 kst_p
 rw[e0]
 refine⟨bigI_of (by omega),?_⟩
 kst_p
 rw[upTo_nat]
 refine⟨⟨bigI_of (k := 0) (by omega),bigI_of (by omega),.inl rfl⟩,?_⟩
 refine forW_ind (fun xs σ=>∃ us: List Nat,xs=us.map eN/\(∀ w∈us,w<is.length)/\look σ.loc 225134396=some (.ref p)/\look σ.loc 28209471649=some (.ref f)/\σ.mu=mu) ?_ ?_ _ _ ⟨List.range (is.length-1),rfl,fun w hw=>by have := List.mem_range.mp hw;omega,rfl,rfl,rfl⟩
 ·rintro⟨loc,mu'⟩ ⟨us,hx,hw,l1,l2,e⟩
  dsimp only at l1 l2 e
  subst e
  refine⟨trivial,?_⟩
  (kst_p;repeat (simp only[bs,l2];kst_p))
  exact⟨m,_,S0.list mf hf,h⟩
 ·rintro x xs ⟨loc,mu'⟩ K ⟨us,hx,hw,l1,l2,e⟩ hK
  dsimp only at l1 l2 e
  subst e
  refine⟨trivial,?_⟩
  cases us with
  |nil=>cases hx
  |cons w us=>
  simp only[List.map_cons,List.cons.injEq]at hx
  obtain⟨rfl,rfl⟩ := hx
  have hw0 := hw w (List.mem_cons_self ..)
  have hk': w<ps.length := by rw[hl];exact hw0
  obtain⟨g1,g2⟩ := hI w _ (List.getElem?_eq_getElem hk')
  have g1 := S0 _ _ g1
  have g2 := S0 _ _ g2
  (kst_p;repeat (simp only[bs,l1];kst_p))
  (kst_p;repeat (simp only[bs,getA,q1,q2];kst_p))
  refine subW_of q3 (k := w) (d := .ref (ps[w]).1) (by omega) (by rw[List.getElem?_map,List.getElem?_eq_getElem hk'];rfl) ?_
  (kst_p;repeat (simp only[bs,getA,g1,g2];kst_p))
  exact hK _ ⟨us,rfl,fun w' h'=>hw w' (List.mem_cons_of_mem _ h'),by simp[look_put,l1],by simp[look_put,l2],rfl⟩
theorem sp_faults {p pd L hd: Addr} {ps: List (Addr×Addr)} (b: Nat) (hp: m p=some (.inst 86 pd)) (hpd: m pd=some (.attrs prN (prV L hd b b))) (hL: m L=some (.lst (ps.map fun p=>.ref p.1))) (hl: ps.length=is.length) (hI: ∀ k p,ps[k]?=some p->m p.1=some (.inst 65 p.2)/\m p.2=some (.attrs insN (insAt is k).vals)) (hs': is.length<=1000) (h0: 0<is.length)
  (f0: (insAt is 0).op=6) (ok: ∀ k<is.length,InsOk (insAt is k) is.length) (hb: b<is.length) (h: Q (.lst []) m): CallOk W 45 (n+2) 118 [.ref p] m Q X := by
 refine G.fn G.k_program_faults .nil rfl ?_
 unfold c_program_faults
 kst_p
 (intro f hf;(try dsimp only at hf);kst_p)
 have S0: Sub m (m.set f (.lst [])) := Sub.rfl.new hf
 have mf: (m.set f (.lst [])) f=some (.lst []) := Mt.set_self _ _ _
 generalize m.set f (.lst [])=mu at S0 mf ⊢
 have q1 := S0 _ _ hp
 have q2 := S0 _ _ hpd
 have qL := S0 _ _ hL
 (kst_p;repeat (simp only[bs,getA,q1,q2];kst_p))
 (intro c hc;(try dsimp only at hc);kst_p)
 have S1: Sub mu (mu.set c (.lst [])) := Sub.rfl.new hc
 have q3 := asL_sub S1 (asL_ref qL)
 (kst_p;repeat (simp only[bs,cmpV];kst_p))
 rw[eqTop_len (x := ps.map fun p=>.ref p.1) (y := []) q3 asL_new (by simp;intro e;rw[e]at hl;simp at hl;omega)]
 have hk0: 0<ps.length := by omega
 obtain⟨g1,g2⟩ := hI 0 _ (List.getElem?_eq_getElem hk0)
 have g1 := (S0.trans S1) _ _ g1
 have g2 := (S0.trans S1) _ _ g2
 (kst_p;repeat (simp only[bs,getA,S1 _ _ q1,S1 _ _ q2];kst_p))
 refine subW_of q3 (k := 0) (d := .ref (ps[0]).1) (by omega) (by rw[List.getElem?_map,List.getElem?_eq_getElem hk0];rfl) ?_
 (kst_p;repeat (simp only[bs,getA,g1,g2];kst_p))
 have d6: decide (((insAt is 0).op: Int)=6)=true := by rw[f0];rfl
 (kst_p;repeat (simp only[bs,cmpV,eqTop,asL,plainN,eqN,Option.map_some,d6];kst_p))
 refine sp_heads G (S1 _ _ q1) (S1 _ _ q2) (S1 _ _ qL) hl (fun k p hp=>⟨(S0.trans S1) _ _ (hI k p hp).1,(S0.trans S1) _ _ (hI k p hp).2⟩) hs' h0 ?_
 kst_p
 have S2 := S0.trans S1
 have mf2 := S1 _ _ mf
 generalize mu.set c (.lst [])=mu1 at S2 mf2 ⊢
 (intro e he;(try dsimp only at he);kst_p)
 have S3: Sub m (mu1.set e .dE) := S2.new he
 have nef: f≠e := fun q=>by subst q;rw[mf2]at he;cases he
 refine⟨trivial,trivial,?_⟩
 (kst_p;repeat (simp only[bs,setSub,Mt.set_self];kst_p))
 refine⟨small_of (by simp[dctLen]),?_⟩
 have S4: Sub m ((mu1.set e .dE).set e (.dI [0])) := S3.put (S2.absent he)
 have mf4: ((mu1.set e .dE).set e (.dI [0])) f=some (.lst []) := by rw[Mt.set_ne _ _ nef,Mt.set_ne _ _ nef];exact mf2
 generalize (mu1.set e .dE).set e (.dI [0])=mu2 at S4 mf4 ⊢
 have q1 := S4 _ _ hp
 have q2 := S4 _ _ hpd
 have qL := S4 _ _ hL
 have q3 := asL_ref qL
 refine⟨trivial,?_⟩
 (kst_p;repeat (simp only[bs,getA,q1,q2,lenV_of q3];kst_p))
 simp only[List.length_map,hl]
 refine⟨small_of (by omega),?_⟩
 kst_p
 refine⟨bigI_of (k := is.length) (by omega),?_⟩
 kst_p
 have eU: upTo (rngLen 0 (Int.ofNat is.length) 1) 0 1=(List.range is.length).map eN := upTo_nat is.length
 rw[eU]
 refine⟨⟨bigI_of (k := 0) (by omega),bigI_of (k := is.length) (by omega),.inl rfl⟩,?_⟩
 refine forW_ind (fun xs σ=>∃ us: List Nat,xs=us.map eN/\(∀ w∈us,w<is.length)/\look σ.loc 225134396=some (.ref p)/\look σ.loc 28209471649=some (.ref f)/\look σ.loc 32341513866=some (.ref e)/\σ.mu=mu2) ?_ ?_ _ _ ⟨List.range is.length,rfl,fun w hw=>List.mem_range.mp hw,rfl,rfl,rfl,rfl⟩
 ·rintro⟨loc,mu'⟩ ⟨us,hx,hw,l1,l2,l3,ee⟩
  dsimp only at l1 l2 l3 ee
  subst ee
  refine⟨trivial,?_⟩
  (kst_p;repeat (simp only[bs,l1,getA,q1,q2];kst_p))
  refine⟨trivial,trivial,?_⟩
  (kst_p;repeat (simp only[bs,l1,cmpV];kst_p))
  (kst_p;repeat (simp only[bs,getA,q1,q2,lenV_of q3];kst_p))
  simp only[List.length_map,hl]
  refine⟨small_of (by omega),?_⟩
  (kst_p;repeat (simp only[bs,cmpV];kst_p))
  rw[decide_eq_true (show(b: Int)<Int.ofNat is.length by simp;omega)]
  (kst_p;repeat (simp only[bs,l1];kst_p))
  (kst_p;repeat (simp only[bs,getA,q1,q2];kst_p))
  refine⟨trivial,?_⟩
  (kst_p;repeat (simp only[bs,l1,cmpV];kst_p))
  (kst_p;repeat (simp only[bs,getA,q1,q2,lenV_of q3];kst_p))
  simp only[List.length_map,hl]
  refine⟨small_of (by omega),?_⟩
  (kst_p;repeat (simp only[bs,cmpV];kst_p))
  rw[decide_eq_true (show(b: Int)<Int.ofNat is.length by simp;omega)]
  (kst_p;repeat (simp only[bs,l1];kst_p))
  (kst_p;repeat (simp only[bs,getA,q1,q2];kst_p))
  refine⟨trivial,?_⟩
  (kst_p;repeat (simp only[bs,l1];kst_p))
  (kst_p;repeat (simp only[bs,getA,q1,q2];kst_p))
  (kst_p;repeat (simp only[bs,l2];kst_p))
  exact⟨m,_,S4.list mf4 hf,h⟩
 ·rintro x xs ⟨loc,mu'⟩ K ⟨us,hx,hw,l1,l2,l3,ee⟩ hK
  dsimp only at l1 l2 l3 ee
  subst ee
  refine⟨trivial,?_⟩
  cases us with
  |nil=>cases hx
  |cons w us=>
  simp only[List.map_cons,List.cons.injEq]at hx
  obtain⟨rfl,rfl⟩ := hx
  have hw0 := hw w (List.mem_cons_self ..)
  have hk': w<ps.length := by rw[hl];exact hw0
  obtain⟨g1,g2⟩ := hI w _ (List.getElem?_eq_getElem hk')
  have g1 := S4 _ _ g1
  have g2 := S4 _ _ g2
  (kst_p;repeat (simp only[bs,l1];kst_p))
  (kst_p;repeat (simp only[bs,getA,q1,q2];kst_p))
  refine subW_of q3 (k := w) (d := .ref (ps[w]).1) (by omega) (by rw[List.getElem?_map,List.getElem?_eq_getElem hk'];rfl) ?_
  (kst_p;repeat (simp only[bs,l1];kst_p))
  refine sp_inst_fault G (N := is.length) (insAt is w) g1 g2 (ok w hw0) ?_
  (kst_p;repeat (simp only[bs,l1,l3];kst_p))
  refine sp_ways_fault G (is := is) w q1 q2 qL hl (fun k p hp=>⟨S4 _ _ (hI k p hp).1,S4 _ _ (hI k p hp).2⟩) hs' hw0 (ok w hw0) ?_
  (kst_p;repeat (simp only[bs,l1];kst_p))
  refine⟨trivial,trivial,?_⟩
  (kst_p;repeat (simp only[bs,l1];kst_p))
  refine⟨trivial,?_⟩
  (kst_p;repeat (simp only[bs,l1];kst_p))
  refine⟨trivial,?_⟩
  (kst_p;repeat (simp only[bs,l1,getA,q1,q2];kst_p))
  exact hK _ ⟨us,rfl,fun w' h'=>hw w' (List.mem_cons_of_mem _ h'),by simp[look_put,l1],by simp[look_put,l2],by simp[look_put,l3],rfl⟩
end
section
theorem set_none {m: Mt} {a b: Addr} {o: MObj} (h: m.set b o a=none): a≠b/\m a=none := by
 have ne: a≠b := fun e=>by subst e;rw[Mt.set_self]at h;cases h
 exact⟨ne,by rw[<-Mt.set_ne m o ne];exact h⟩
variable {W: Wd} (G: Gd W) {n: Nat} {m: Mt} {Q X: DV->Mt->Prop} {is: List Ins}
include G
theorem sp_Maker {x dx: Addr} (hx: m x=none) (hd: m dx=none) (ne: x≠dx) (h: ∀ m',MkM x 1 [opI 6] m m'->Q .none m'): CallOk W 45 (n+3) 155 [.ref x,.int 1] ((m.set dx (.attrs [] [])).set x (.inst 200 dx)) Q X := by
 refine G.fn G.k_Maker_init .nil rfl ?_
 unfold c_Maker_init
 have m1: ((m.set dx (.attrs [] [])).set x (.inst 200 dx)) x=some (.inst 200 dx) := Mt.set_self _ _ _
 have m2: ((m.set dx (.attrs [] [])).set x (.inst 200 dx)) dx=some (.attrs [] []) := by rw[Mt.set_ne _ _ ne.symm,Mt.set_self]
 (kst_p;repeat (simp only[bs,setAt,m1,m2];kst_p))
 intro a b ha hb hab
 obtain⟨a1,ha⟩ := set_none ha
 obtain⟨a2,ha⟩ := set_none ha
 obtain⟨_,ha⟩ := set_none ha
 obtain⟨b1,hb⟩ := set_none hb
 obtain⟨b2,hb⟩ := set_none hb
 obtain⟨_,hb⟩ := set_none hb
 have hab': a≠b := hab
 refine sp_Inst G 6 (x := a) (dx := b) (Mt.set_self _ _ _) (by rw[Mt.set_ne _ _ hab'.symm,Mt.set_self]) ⟨rfl,?_⟩
 kst_p
 intro L hL
 obtain⟨L1,hL⟩ := set_none hL
 obtain⟨L2,hL⟩ := set_none hL
 obtain⟨_,hL⟩ := set_none hL
 obtain⟨L3,hL⟩ := set_none hL
 obtain⟨L4,hL⟩ := set_none hL
 obtain⟨_,hL⟩ := set_none hL
 (kst_p;repeat (simp only[bs,setAt,Mt.look,a1,a2,b1,b2,L1,L2,L3,L4,L1.symm,L2.symm,L3.symm,L4.symm,a1.symm,a2.symm,b1.symm,b2.symm,hab',hab'.symm,ne,ne.symm];kst_p))
 refine⟨_,_,.refl,h _ ⟨⟨x,dx,L,[(a,b)]⟩,rfl,?_⟩⟩
 refine⟨?_,?_,?_,rfl,?_,by simp,by simp,?_,hx,hd,hL,?_⟩
 ·simp[Mt.look,a1,a2,b1,b2,L1,L2,L3,L4,L1.symm,L2.symm,L3.symm,L4.symm,a1.symm,a2.symm,b1.symm,b2.symm,hab',hab'.symm,ne,ne.symm]
 ·simp[Mt.look,a1,a2,b1,b2,L1,L2,L3,L4,L1.symm,L2.symm,L3.symm,L4.symm,a1.symm,a2.symm,b1.symm,b2.symm,hab',hab'.symm,ne,ne.symm];exact⟨rfl,rfl⟩
 ·simp[Mt.look,a1,a2,b1,b2,L1,L2,L3,L4,L1.symm,L2.symm,L3.symm,L4.symm,a1.symm,a2.symm,b1.symm,b2.symm,hab',hab'.symm,ne,ne.symm]
 ·intro k p hk
  match k,hk with
  |0,hk=>
   simp only[List.getElem?_cons_zero,Option.some.injEq]at hk
   subst hk
   constructor
   ·simp[Mt.look,a1,a2,b1,b2,L1,L2,L3,L4,L1.symm,L2.symm,L3.symm,L4.symm,a1.symm,a2.symm,b1.symm,b2.symm,hab',hab'.symm,ne,ne.symm]
   ·simp[Mt.look,a1,a2,b1,b2,L1,L2,L3,L4,L1.symm,L2.symm,L3.symm,L4.symm,a1.symm,a2.symm,b1.symm,b2.symm,hab',hab'.symm,ne,ne.symm];rfl
 ·intro c c1 c2 c3 c4
  obtain⟨c4,c5⟩ := c4 (a,b) (by simp)
  dsimp only at c1 c2 c3 c4 c5
  simp[Mt.look,c1,c2,c3,c4,c5]
 ·intro p hp
  simp only[List.mem_singleton]at hp
  subst hp
  exact⟨ha,hb⟩
theorem prog_t1 {loc: Loc} {mu: Mt} {x dx L: Addr} (l0: look loc 222936110=some (.ref x)) (m1: mu x=some (.inst 86 dx)) (m2: mu dx=some (.attrs [32376161590,32648492339,131322104223801899105978,129907780876443790661926,693329460861025571136594217707607069,35998791720882497672107593410212,542699284915561] [.ref L,.int 0,.int 0,.bool false,.bool false,.bool false,.bool false])) {Q' X': DV->Mt->Prop}
  (h: ∀ hd,mu hd=none->Q' .none ((mu.set hd (.lst [])).set dx (.attrs prN (prV L hd 0 0)))): wpSs W 45 T0 n c_prog_t1 (fun r σ=>∃ m' d',Fz σ.mu (r.getD .none) m' d'/\Q' d' m') (fun d σ=>X' d σ.mu) ⟨loc,mu⟩ := by
 have ne: x≠dx := fun e=>by subst e;rw[m1]at m2;cases m2
 unfold c_prog_t1
 kst_p
 (intro hd hh;(try dsimp only at hh);kst_p)
 have n1: x≠hd := fun e=>by subst e;rw[m1]at hh;cases hh
 have n2: dx≠hd := fun e=>by subst e;rw[m2]at hh;cases hh
 have m3: (mu.set hd (.lst [])) x=some (.inst 86 dx) := by rw[Mt.set_ne _ _ n1];exact m1
 have m4 := m2
 rw[<-Mt.set_ne mu (.lst []) n2]at m4
 have h := h hd hh
 generalize mu.set hd (.lst [])=mu' at m3 m4 h ⊢
 (kst_p;repeat (simp only[bs,l0,setAt,m3,m4,Mt.look,ne,Mt.set_set];kst_p))
 exact⟨_,_,.refl,h⟩
theorem sp_Program {x dx: Addr} (hx: m x=none) (hd: m dx=none) (ne: x≠dx) (h: ∀ L hd m',Sub m m'->m' x=some (.inst 86 dx)->m' dx=some (.attrs prN (prV L hd 0 0))->Q .none m'): CallOk W 45 (n+3) 83 [.ref x] ((m.set dx (.attrs [] [])).set x (.inst 86 dx)) Q X := by
 refine G.fn G.k_Program_init .nil rfl ?_
 unfold c_Program_init
 kst_p
 intro a b ha hb hab
 obtain⟨a1,ha⟩ := set_none ha
 obtain⟨a2,ha⟩ := set_none ha
 obtain⟨b1,hb⟩ := set_none hb
 obtain⟨b2,hb⟩ := set_none hb
 have hab': a≠b := hab
 refine sp_Inst G 6 (x := a) (dx := b) (Mt.set_self _ _ _) (by rw[Mt.set_ne _ _ hab'.symm,Mt.set_self]) ⟨rfl,?_⟩
 kst_p
 intro L hL
 obtain⟨L1,hL⟩ := set_none hL
 obtain⟨L2,hL⟩ := set_none hL
 obtain⟨_,hL⟩ := set_none hL
 obtain⟨L3,hL⟩ := set_none hL
 obtain⟨L4,hL⟩ := set_none hL
 have S0: Sub m ((((((m.set dx (.attrs [] [])).set x (.inst 86 dx)).set b (.attrs [] [])).set a (.inst 65 b)).set b (.attrs insN (opI 6).vals)).set L (.lst [.ref a])) := (((((Sub.rfl.put hd).put hx).put hb).put ha).put hb).put hL
 have m1: (((((((m.set dx (.attrs [] [])).set x (.inst 86 dx)).set b (.attrs [] [])).set a (.inst 65 b)).set b (.attrs insN (opI 6).vals)).set L (.lst [.ref a]))) x=some (.inst 86 dx) := by
  simp[Mt.look,a1.symm,b1.symm,L3.symm]
 have m2: (((((((m.set dx (.attrs [] [])).set x (.inst 86 dx)).set b (.attrs [] [])).set a (.inst 65 b)).set b (.attrs insN (opI 6).vals)).set L (.lst [.ref a]))) dx=some (.attrs [] []) := by
  simp[Mt.look,a2.symm,b2.symm,L4.symm,ne.symm]
 generalize (((((m.set dx (.attrs [] [])).set x (.inst 86 dx)).set b (.attrs [] [])).set a (.inst 65 b)).set b (.attrs insN (opI 6).vals)).set L (.lst [.ref a])=mu at S0 m1 m2 ⊢
 (kst_p;repeat (simp only[bs,setAt,m1,m2,Mt.look,ne,Mt.set_set];kst_p))
 refine prog_t1 G (loc := [(222936110,.ref x)]) (mu := mu.set dx (.attrs [32376161590,32648492339,131322104223801899105978,129907780876443790661926,693329460861025571136594217707607069,35998791720882497672107593410212,542699284915561] [.ref L,.int 0,.int 0,.bool false,.bool false,.bool false,.bool false])) (x := x) (dx := dx) (L := L) rfl (by rw[Mt.set_ne _ _ ne];exact m1) (Mt.set_self _ _ _) fun hd' hh=>?_
 obtain⟨q1,hh⟩ := set_none hh
 have n1: x≠hd' := fun e=>by subst e;rw[m1]at hh;cases hh
 exact h L hd' _ (((S0.put hd).new (by rw[Mt.set_ne _ _ q1];exact hh)).put hd) (by rw[Mt.set_ne _ _ ne,Mt.set_ne _ _ n1,Mt.set_ne _ _ ne];exact m1) (Mt.set_self _ _ _)
end
section
def eItem (it: Item): DV := .tup [eF it.part.f,eS it.sh,eT it.tb,.bool it.calm]
theorem ways_plain (l: List Way): (l.map eW).all (plainN 8)=true := by
 rw[List.all_map,List.all_eq_true]
 intro p _
 simp[eW,eK,plainN]
theorem allInts_map (l: List Int): allInts (l.map .int)=some l := by
 induction l with
 |nil=>rfl
 |cons x r ih=>simp only[List.map_cons,allInts,ih]
theorem ints_plain (l: List Int): (l.map DV.int).all (plainN 8)=true := by
 rw[List.all_map,List.all_eq_true]
 intro p _
 simp[plainN]
variable {W: Wd} (G: Gd W) {n: Nat} {m: Mt} {Q X: DV->Mt->Prop} {is: List Ins} {M: Addr} {most: Nat} {r: Mt}
include G
theorem law_t6 {loc: Loc} {mu: Mt} {aP: Addr} (it: Item) (f: Fr) (text holds: List Nat) (res: List Way) (l1: look loc 32066903573=some (.ref M)) (l2: look loc 28482000420=some (eF f)) (l3: look loc 253189449=some (eB text)) (l4: look loc 32341698207=some (.lst (holds.map eN))) (l5: look loc 244219938=some (.ref aP))
  {D' L: Addr} {ps: List (Addr×Addr)} (hM: mu M=some (.inst 200 D')) (hD: mu D'=some (.attrs [253107527,32376161590] [.int (most: Nat),.ref L])) (hL: mu L=some (.lst (ps.map fun p=>.ref p.1))) (hl: ps.length=is.length) (hI: ∀ k p,ps[k]?=some p->mu p.1=some (.inst 65 p.2)/\mu p.2=some (.attrs insN (insAt is k).vals)) (hs: is.length<=1000) (mP: mu aP=some (.lst [eItem it])) (tk: TextOk text holds) (hop: ∀ k,(insAt is k).op=2->2<=(insAt is k).arg) (D: Dfs is text holds [(f.b,0,kNone)] [] [] res) (hr: res.length<=60) (wf: WfT (text.length+1) it.tb)
  (hcalm: it.calm=true->res=row it.tb 0) (hperm: (res.map (·.1)).Perm ((row it.tb 0).map (·.1))) (S: Sub m mu) (h: Q (.bool true) m) :
  wpSs W 45 T0 (n+5) c_law_t6 (fun r σ=>∃ m' d',Fz σ.mu (r.getD .none) m' d'/\Q d' m') (fun d σ=>X d σ.mu) ⟨loc,mu⟩ := by
 have tL := tk.len
 have hrow: (it.tb.map eWs)[0]?=some (eWs (row it.tb 0)) := by
  rw[List.getElem?_map,row_get (by rw[wf.1];omega)];rfl
 have wr := row_wf wf 0
 unfold c_law_t6
 (kst_p;repeat (simp only[bs,l1,getA,hM,hD];kst_p))
 (kst_p;repeat (simp only[bs,l2,l3,l4,eF];kst_p))
 refine sp_found G f.b text holds res hL hl hI hs rfl tk.holds tk.len tk.byte hop D ?_
 (kst_p;repeat (simp only[bs,l5];kst_p))
 refine subW_of (asL_ref mP) (k := 0) (d := eItem it) (by omega) rfl ?_
 kst_p
 kst_all
 have hn: nth (it.tb.map eWs) 0=some (eWs (row it.tb 0)) := hrow
 simp only[hn]
 (kst_p;repeat (simp only[bs,l5,List.reverse_cons,List.reverse_nil];kst_p))
 refine subW_of (asL_ref mP) (k := 0) (d := eItem it) (by omega) rfl ?_
 kst_p
 kst_all
 cases hc: it.calm with
 |true=>
  (kst_p;repeat (simp only[bs,l5,cmpV];kst_p))
  rw[eqTop_same (x := (row it.tb 0).map eW) (by rw[hcalm hc];rfl) rfl (ways_plain _)]
  exact⟨m,_,Sub.fz S,h⟩
 |false=>
  (kst_p;repeat (simp only[bs,l5];kst_p))
  refine⟨trivial,small_of (by simp;omega),?_⟩
  refine compW_of eW (fun p=>.int (p.1: Nat)) trivial ?_ ?_
  ·intro p _ K hK
   kst_p
   exact⟨_,_,.refl,hK⟩
  ·(intro a ha;(try dsimp only at ha);kst_p)
   have e1: (res.map fun p=>DV.int (p.1: Nat))=(res.map fun p=>(p.1: Int)).map .int := by rw[List.map_map];rfl
   rw[e1]
   have S1: Sub mu (mu.set a (.lst ((res.map fun p=>(p.1: Int)).map .int))) := Sub.rfl.new ha
   (kst_p;repeat (simp only[bs,asL_new,allInts_map];kst_p))
   refine⟨by simp;omega,?_⟩
   intro s1 p1 o1
   (intro b hb;(try dsimp only at hb);kst_p)
   have S2 := S1.new (o := .lst (s1.map .int)) hb
   have mb: ((mu.set a (.lst ((res.map fun p=>(p.1: Int)).map .int))).set b (.lst (s1.map .int))) b=some (.lst (s1.map .int)) := Mt.set_self _ _ _
   generalize (mu.set a (.lst ((res.map fun p=>(p.1: Int)).map .int))).set b (.lst (s1.map .int))=mu2 at S2 mb ⊢
   (kst_p;repeat (simp only[bs,l5];kst_p))
   refine⟨trivial,small_of (by have := wr.1;simp;omega),?_⟩
   refine compW_of eW (fun p=>.int (p.1: Nat)) trivial ?_ ?_
   ·intro p _ K hK
    kst_p
    exact⟨_,_,.refl,hK⟩
   ·(intro c hc';(try dsimp only at hc');kst_p)
    have e2: ((row it.tb 0).map fun p=>DV.int (p.1: Nat))=((row it.tb 0).map fun p=>(p.1: Int)).map .int := by rw[List.map_map];rfl
    rw[e2]
    have S3: Sub mu2 (mu2.set c (.lst (((row it.tb 0).map fun p=>(p.1: Int)).map .int))) := Sub.rfl.new hc'
    (kst_p;repeat (simp only[bs,asL_new,allInts_map];kst_p))
    refine⟨by have := wr.1;simp;omega,?_⟩
    intro s2 p2 o2
    (intro d hd;(try dsimp only at hd);kst_p)
    have S4 := S3.new (o := .lst (s2.map .int)) hd
    have es: s1=s2 := by
     have pp: s1.Perm s2 := by
      refine p1.trans (.trans ?_ p2.symm)
      have := hperm.map (fun x: Nat=>(x: Int))
      rwa [List.map_map,List.map_map]at this
     exact pp.eq_of_pairwise (le := (·<=·)) (fun a b _ _ h1 h2=>Int.le_antisymm h1 h2) o1 o2
    subst es
    (kst_p;repeat (simp only[bs,cmpV];kst_p))
    rw[eqTop_same (x := s1.map .int) (asL_ref (S4 _ _ mb)) asL_new (ints_plain _)]
    exact⟨m,_,Sub.fz (S.trans (S2.trans S4)),h⟩
end
section
theorem PartOk.push {is: List Ins} {p: Part} (h: PartOk is p) (i: Ins): PartOk (is++[i]) p :=
 ⟨h.ch.push i,h.nd,by have := h.b;simp;omega,fun e=>by have := h.last e;simp;omega⟩
theorem match_ok (is: List Ins): PartOk (is++[opI 4]) (matchPart is.length) := ⟨rfl,by simp[matchPart],by simp[matchPart],fun e=>absurd rfl e⟩
theorem catP_len (is: List Ins) (a b: Part): (catP is a b).1.length=is.length := by
 unfold catP
 by_cases x: a.f.b=0\/b.f.b=0
 ·simp[if_pos x,patchL_len]
 ·simp only[if_neg x]
  cases isNopP (patchL is a.ms b.f.b) a.f<;>simp[patchL_len]
variable {W: Wd} (G: Gd W) {n: Nat} {m: Mt} {Q X: DV->Mt->Prop} {is: List Ins} {M: Addr} {most: Nat} {r: Mt}
include G
theorem law_t5 {loc: Loc} {mu: Mt} {aP: Addr} {Inv: List Nat->List Nat->List Ins->List Item->Prop} (LI: LawInv Inv) (it: Item) (text holds: List Nat) (l1: look loc 32066903573=some (.ref M)) (l3: look loc 253189449=some (eB text)) (l4: look loc 32341698207=some (.lst (holds.map eN))) (l5: look loc 244219938=some (.ref aP))
  (H: MkM M most is r mu) (hs: is.length<=60) (mP: r aP=some (.lst [eItem it])) (tk: TextOk text holds) (hi: Inv text holds is [it]) (S: Sub m mu) (hm0: Sub m r) (h: Q (.bool true) m) :
  wpSs W 45 T0 (n+6) c_law_t5 (fun r σ=>∃ m' d',Fz σ.mu (r.getD .none) m' d'/\Q d' m') (fun d σ=>X d σ.mu) ⟨loc,mu⟩ := by
 obtain⟨D,L,ps,hM,hD,hL,hl,hI,hmost⟩ := H.getM
 obtain⟨f0,fk,fb,res,hdfs,hcalm,hperm⟩ := LI.fin tk hi hs
 have iok := (LI.items tk hi).1 it (by simp)
 have wl: (wholeP is it).1.length=is.length+1 := by unfold wholeP;rw[catP_len];simp
 unfold c_law_t5
 (kst_p;repeat (simp only[bs,l1,setAt,hM,hD];kst_p))
 have H1 := hmost 1000
 have hmm: mu.set D (.attrs (fput [253107527,32376161590] [.int (most: Nat),.ref L] 253107527 (.int 1000)).1 (fput [253107527,32376161590] [.int (most: Nat),.ref L] 253107527 (.int 1000)).2)=mu.set D (.attrs [253107527,32376161590] [.int ((1000: Nat): Int),.ref L]) := rfl
 rw[hmm]
 generalize mu.set D (.attrs [253107527,32376161590] [.int ((1000: Nat): Int),.ref L])=mu1 at H1 ⊢
 (kst_p;repeat (simp only[bs,l5];kst_p))
 refine subW_of (asL_ref (H1.rest _ _ mP)) (k := 0) (d := eItem it) (by omega) rfl ?_
 kst_p
 kst_all
 (kst_p;repeat (simp only[bs,l1];kst_p))
 refine sf_match G H1 (by omega) (by omega) fun m2 H2=>?_
 (kst_p;repeat (simp only[bs,l1];kst_p))
 refine sf_cat G it.part (matchPart is.length) H2 (by simp;omega) (iok.ok.push _) (match_ok is) (fun k _ h=>by simp[matchPart]at h) fun m3 H3=>?_
 (kst_p;repeat (simp only[bs,l1];kst_p))
 intro x dx hx hdx ne
 refine sp_Program G hx hdx ne fun L' hd m4 S4 m4x m4d=>⟨rfl,?_⟩
 obtain⟨D3,L3,ps3,hM3,hD3,hL3,hl3,hI3,_⟩ := H3.getM
 have Sm3: Sub m m3 := hm0.trans H3.rest
 have ew: (catP (is++[opI 4]) it.part (matchPart is.length))=wholeP is it := rfl
 rw[ew]at hl3 hI3 ⊢
 (kst_p;repeat (simp only[bs,l1,getA,S4 _ _ hM3,S4 _ _ hD3,eF];kst_p))
 (kst_p;repeat (simp only[bs,setAt,m4x,m4d,Mt.look,ne,Mt.set_set];kst_p))
 have S5: Sub m3 (m4.set dx (.attrs prN (prV L3 hd (wholeP is it).2.f.b (wholeP is it).2.f.b))) := S4.put hdx
 have m5x: (m4.set dx (.attrs prN (prV L3 hd (wholeP is it).2.f.b (wholeP is it).2.f.b))) x=some (.inst 86 dx) := by rw[Mt.set_ne _ _ ne];exact m4x
 have m5d: (m4.set dx (.attrs prN (prV L3 hd (wholeP is it).2.f.b (wholeP is it).2.f.b))) dx=some (.attrs prN (prV L3 hd (wholeP is it).2.f.b (wholeP is it).2.f.b)) := Mt.set_self _ _ _
 refine sp_faults (m := m4.set dx (.attrs prN (prV L3 hd (wholeP is it).2.f.b (wholeP is it).2.f.b))) G (is := (wholeP is it).1) (wholeP is it).2.f.b m5x m5d (S5 _ _ hL3) hl3 (fun k p hp=>⟨S5 _ _ (hI3 k p hp).1,S5 _ _ (hI3 k p hp).2⟩) (by omega) (by omega) f0 fk fb ?_
 generalize m4.set dx (.attrs prN (prV L3 hd (wholeP is it).2.f.b (wholeP is it).2.f.b))=m5 at S5 m5x m5d ⊢
 kst_p
 (intro c hc;(try dsimp only at hc);kst_p)
 have S6 := S5.new (o := .lst []) hc
 (kst_p;repeat (simp only[bs,cmpV];kst_p))
 rw[eqTop_same (x := []) rfl asL_new rfl]
 kst_p
 generalize m5.set c (.lst [])=m6 at S6 ⊢
 have wr := row_wf iok.wf 0
 have lres: res.length<=60 := by
  have := hperm.length_eq
  have := wr.1
  simp at *;omega
 exact law_t6 G (n := n+1) (M := M) (most := 1000) (is := (wholeP is it).1) it (wholeP is it).2.f text holds res (by simp[look_put,l1]) (by simp[look_put,eF]) (by simp[look_put,l3]) (by simp[look_put,l4]) (by simp[look_put,l5])
  (S6 _ _ hM3) (S6 _ _ hD3) (S6 _ _ hL3) hl3 (fun k p hp=>⟨S6 _ _ (hI3 k p hp).1,S6 _ _ (hI3 k p hp).2⟩) (by omega) (S6 _ _ (H3.rest _ _ mP)) tk
  (fun k e=>by
   by_cases hk: k<(wholeP is it).1.length
   ·exact(fk k hk).cap e
   ·have: insAt (wholeP is it).1 k=opI 6 := by unfold insAt;rw[List.getD_eq_getElem?_getD,List.getElem?_eq_none (by omega)];rfl
    rw[this]at e;cases e) hdfs lres iok.wf hcalm hperm (Sm3.trans S6) h
end
section
theorem MkM.new {M: Addr} {most: Nat} {is: List Ins} {r mu: Mt} (H: MkM M most is r mu) {a: Addr} (o: MObj) (h: mu a=none): MkM M most is (r.set a o) (mu.set a o) := by
 obtain⟨l,rfl,H⟩ := H
 refine⟨l,rfl,H.grow (fun b h1 h2=>?_) (fun b hb=>?_)⟩
 ·have ne: b≠a := fun e=>h2 (e▸h)
  rw[Mt.set_ne _ _ ne,Mt.set_ne _ _ ne];exact⟨rfl,h1⟩
 ·by_cases e: b=a
  ·subst e;rw[Mt.set_self,Mt.set_self]
  ·rw[Mt.set_ne _ _ e,Mt.set_ne _ _ e]
   by_cases h1: r b=none
   ·have h2: mu b=none := Classical.byContradiction fun h2=>hb ⟨h1,h2⟩
    rw[h1,h2]
   ·cases e': r b with
    |none=>exact absurd e' h1
    |some o'=>exact H.rest b o' e'
theorem MkM.upd {M: Addr} {most: Nat} {is: List Ins} {r mu: Mt} (H: MkM M most is r mu) {a: Addr} (o: MObj) (h: r a≠none): MkM M most is (r.set a o) (mu.set a o) := by
 obtain⟨l,rfl,H⟩ := H
 refine⟨l,rfl,H.grow (fun b h1 h2=>?_) (fun b hb=>?_)⟩
 ·have ne: b≠a := fun e=>h (e▸h1)
  rw[Mt.set_ne _ _ ne,Mt.set_ne _ _ ne];exact⟨rfl,h1⟩
 ·by_cases e: b=a
  ·subst e;rw[Mt.set_self,Mt.set_self]
  ·rw[Mt.set_ne _ _ e,Mt.set_ne _ _ e]
   by_cases h1: r b=none
   ·have h2: mu b=none := Classical.byContradiction fun h2=>hb ⟨h1,h2⟩
    rw[h1,h2]
   ·cases e': r b with
    |none=>exact absurd e' h1
    |some o'=>exact H.rest b o' e'
theorem MkM.absent {M: Addr} {most: Nat} {is: List Ins} {r mu: Mt} (H: MkM M most is r mu) {a: Addr} (h: mu a=none): r a=none := H.rest.absent h
def calmF: DV->Option DV
 |.tup [a,b,c,.bool x]=>if x then none else some (.tup [a,b,c,.bool x])
 |_=>none
theorem calmF_nil (l: List Item): ((l.map eItem).filterMap calmF=[])↔l.all (·.calm)=true := by
 induction l with
 |nil=>simp
 |cons x r ih=>
  rw[List.map_cons,List.filterMap_cons,List.all_cons]
  cases h: x.calm
  ·simp[eItem,calmF,h]
  ·simp[eItem,calmF,h,ih]
theorem eqTop_int {m: Mt} (a b: Int): eqTop m (.int a) (.int b)=some (decide (a=b)) := rfl
theorem eqTop_S {m: Mt} (s: Shape): eqTop m (eS s) (eS s)=some true := by
 obtain⟨a,b⟩ := s
 cases a<;>cases b<;>rfl
variable {W: Wd} (G: Gd W) {n: Nat} {m: Mt} {is: List Ins} {M: Addr} {most: Nat} {r: Mt}
include G
theorem law_b3 {loc: Loc} {mu: Mt} {aS aG: Addr} (o: Ord) (given: List Item) (l2: look loc 32066789281=some (eO o)) (l3: look loc 4172364345482=some (.ref aS)) (l4: look loc 30959396126=some (.ref aG)) (mS: mu aS=some (.lst (given.map fun i=>eS i.sh))) (mG: mu aG=some (.lst (given.map eItem))) (hm: given.length=many o)
  {Qs: Option DV->St->Prop} {Xs: DV->St->Prop} (K: ∀ a b l,mu a=none->(mu.set a (.lst l)) b=none->wpSs W 45 T0 n c_law_b4 Qs Xs ⟨put loc 510831270252895 (.bool (calmOf o given)),(mu.set a (.lst l)).set b (.lst [])⟩): wpSs W 45 T0 n c_law_b3 Qs Xs ⟨loc,mu⟩ := by
 unfold c_law_b3
 (kst_p;repeat (simp only[bs,l4];kst_p))
 (kst_p;repeat (simp only[bs,iterL_of (asL_ref mG)];kst_p))
 have hl: given.length<=2 := by rw[hm];cases o<;>decide
 refine⟨trivial,small_of (by simp;omega),?_⟩
 refine compW_map calmF (guardL_of (asL_ref mG)) _ _ ?_ ?_
 ·intro x hx K hK
  obtain⟨it,_,rfl⟩ := List.mem_map.mp hx
  kst_p
  refine⟨by kst_mem,?_⟩
  kst_p
  cases hc: it.calm with
  |true=>
   kst_p
   simpa [eItem,calmF,hc]using hK
  |false=>
   kst_p
   refine⟨_,_,.refl,?_⟩
   simpa [eItem,calmF,hc]using hK
 ·rw[List.nil_append]
  (intro a ha;(try dsimp only at ha);kst_p)
  (intro b hb;(try dsimp only at hb);kst_p)
  have na: a≠b := fun e=>by subst e;rw[Mt.set_self]at hb;cases hb
  have K := K a b ((given.map eItem).filterMap calmF) ha hb
  (kst_p;repeat (simp only[bs,cmpV];kst_p))
  by_cases hc: given.all (·.calm)=true
  ·rw[eqTop_same (x := []) (asL_ref (by rw[Mt.set_ne _ _ na,Mt.set_self,(calmF_nil given).mpr hc])) asL_new rfl]
   (kst_p;repeat (simp only[bs,l2];kst_p))
   have S: Sub mu ((mu.set a (.lst ((given.map eItem).filterMap calmF))).set b (.lst [])) := (Sub.rfl.new ha).new hb
   cases o<;>simp only[calmOf,hc,Bool.true_and]at K<;>simp only[many]at hm<;>kst_p
   case star=>
    match given,hm with
    |[g],_=>
     (kst_p;repeat (simp only[bs,l3];kst_p))
     refine subW_of (asL_sub S (asL_ref mS)) (k := 0) (d := eS g.sh) (by omega) rfl ?_
     kst_p
     kst_all
     exact K
   case plus=>
    match given,hm with
    |[g],_=>
     (kst_p;repeat (simp only[bs,l3];kst_p))
     refine subW_of (asL_sub S (asL_ref mS)) (k := 0) (d := eS g.sh) (by omega) rfl ?_
     kst_p
     kst_all
     exact K
   all_goals exact K
  ·have: (given.map eItem).filterMap calmF≠[] := fun e=>hc ((calmF_nil given).mp e)
   rw[eqTop_len (x := (given.map eItem).filterMap calmF) (y := []) (asL_ref (by rw[Mt.set_ne _ _ na,Mt.set_self])) asL_new (by intro e;exact this (List.eq_nil_of_length_eq_zero e))]
   have e: calmOf o given=false := by unfold calmOf;rw[Bool.eq_false_iff.mpr hc,Bool.false_and]
   rw[e]at K
   exact K
theorem law_b2 {loc: Loc} {mu: Mt} {aS aQ aT aG aHp: Addr} {Inv: List Nat->List Nat->List Ins->List Item->Prop} (LI: LawInv Inv) (o: Ord) (heap given: List Item) (row: Row) (rev: Bool) (room: Nat) (text holds: List Nat)
  (l1: look loc 32066903573=some (.ref M)) (l2: look loc 32066789281=some (eO o)) (l3: look loc 238014145=some (.int (room: Nat))) (l4: look loc 2011483=some (eR row)) (l5: look loc 4172364345482=some (.ref aS)) (l6: look loc 32376143279=some (.ref aQ)) (l7: look loc 4172355774465=some (.ref aT)) (l8: look loc 30959396126=some (.ref aG)) (l9: look loc 244219938=some (.ref aHp)) (l10: look loc 474219854675971=some (.int (if rev then 1 else 0: Nat))) (l11: look loc 253189449=some (eB text)) (l12: look loc 32341698207=some (.lst (holds.map eN)))
  (H: MkM M most is r mu) (mS: r aS=some (.lst (given.map fun i=>eS i.sh))) (mQ: r aQ=some (.lst (given.map fun i=>eF i.part.f))) (mT: r aT=some (.lst (given.map fun i=>eT i.tb))) (mG: r aG=some (.lst (given.map eItem))) (mHp: r aHp=some (.lst (heap.map eItem)))
  (tk: TextOk text holds) (hi: Inv text holds is (heap++given)) (hm: given.length=many o) (hrow: o≠.cat->RowOk rev row) (hsl: row.s0<=3/\row.s1<=3) (hs: is.length<=100) (hr: room<=1000) (hhp: heap.length<=1000) {Qs: Option DV->St->Prop} {Xs: DV->St->Prop}
  (K: ∀ loc' mu' most' r',(∀ x,x≠220655771->x≠28490354198->x≠510831270252895->look loc' x=look loc x)->MkM M most' (made is o (given.map (·.part)) row rev).1 r' mu'->r' aHp=some (.lst ((heap++[newItem is o given row rev text holds]).map eItem))->(∀ b o,b≠aHp->r b=some o->r' b=some o)->Qs none ⟨loc',mu'⟩): wpSs W 45 T0 (n+8) c_law_b2 Qs Xs ⟨loc,mu⟩ := by
 obtain⟨hok,hpw⟩ := LI.items tk hi
 have okg: ∀ it∈given,ItemOk (text.length+1) is it := fun it h=>hok it (List.mem_append_right _ h)
 have hi' := LI.step tk hi hm hrow hs
 have okn := (LI.items tk hi').1 (newItem is o given row rev text holds) (by simp)
 have hcat: o=.cat->∀ k∈(part (given.map (·.part)) 0).ms,k∉(part (given.map (·.part)) 1).ms := by
  intro e
  subst e
  rw[List.pairwise_append]at hpw
  have h2 := hpw.2.1
  match given,hm,h2 with
  |[a,b],_,h2=>simpa [part]using h2
 have eshp: (given.map (·.part)).map shpOf=given.map (·.sh) := by
  rw[List.map_map]
  exact List.map_congr_left fun it h=>(okg it h).sh
 have dS := H.rest _ _ mS
 have dQ := H.rest _ _ mQ
 unfold c_law_b2
 (kst_p;repeat (simp only[bs,l1,l3,l2,l5];kst_p))
 refine sp_needs G o (given.map (·.sh)) (asL_ref (by rw[dS,List.map_map];rfl)) (by simpa using hm) ?_
 (kst_p;repeat (simp only[bs,l2,l6,l4,l10];kst_p))
 (kst_p;repeat (simp only[bs,cmpV,eqTop,asL,plainN,eqN];kst_p))
 have erev: decide (((if rev then 1 else 0: Nat): Int)=1)=rev := by cases rev<;>rfl
 rw[erev,<-eshp]
 refine sp_tried G o (given.map (·.part)) row rev room H (by omega) hr (asL_ref (by rw[dQ,List.map_map];rfl)) (asL_ref (by rw[mQ,List.map_map];rfl)) (by simpa using hm) (fun p hp=>by obtain⟨it,h,rfl⟩ := List.mem_map.mp hp;exact⟨(okg it h).ok,(okg it h).nl⟩) hcat hsl.1 hsl.2 fun most' mu1 H1=>?_
 rw[eshp]at *
 have dS1 := H1.rest _ _ mS
 have hg: given.length<=2 := by rw[hm];cases o<;>decide
 (kst_p;repeat (simp only[bs,l2,l5];kst_p))
 refine sp_shape G o (given.map (·.sh)) (asL_ref (by rw[dS1,List.map_map];rfl)) (by simpa using hm) ?_
 (kst_p;repeat (simp only[bs,l2,eF,getA];kst_p))
 (kst_p;repeat (simp only[bs,cmpV,eqTop_int];kst_p))
 have esh: (DV.tup [.bool (decide (((made is o (given.map (·.part)) row rev).2.f.b: Int)=0)),.bool (made is o (given.map (·.part)) row rev).2.f.nl])=eS (shape o (given.map (·.sh))) := by
  have e1: decide (((made is o (given.map (·.part)) row rev).2.f.b: Int)=0)=decide ((made is o (given.map (·.part)) row rev).2.f.b=0) := nat_dec _ 0
  have := okn.sh
  unfold newItem shpOf at this
  dsimp only at this
  rw[e1,<-this];rfl
 rw[esh,eqTop_S]
 (kst_p;repeat (simp only[bs,l2];kst_p))
 refine law_b3 G (aS := aS) (aG := aG) o given (by simp[look_put,l2]) (by simp[look_put,l5]) (by simp[look_put,l8]) dS1 (H1.rest _ _ mG) hm fun a b l ha hb=>?_
 have H2 := (H1.new (.lst l) ha).new (.lst []) hb
 have Srr: Sub r ((r.set a (.lst l)).set b (.lst [])) := (Sub.rfl.new (H1.absent ha)).new ((H1.new (.lst l) ha).absent hb)
 generalize (mu1.set a (.lst l)).set b (.lst [])=mu2 at H2 ⊢
 generalize (r.set a (.lst l)).set b (.lst [])=r2 at H2 Srr
 unfold c_law_b4
 have h9 := H2.rest _ _ (Srr _ _ mHp)
 (kst_p;repeat (simp only[bs,l9,calOf,h9];kst_p))
 (kst_p;repeat (simp only[bs,l2,l7,l4,l11,l12];kst_p))
 refine sp_meant G o (given.map (·.tb)) row text holds (asL_ref (by rw[H2.rest _ _ (Srr _ _ mT),List.map_map];rfl)) rfl tk.len tk.byte tk.holds (fun t ht=>by obtain⟨it,h,rfl⟩ := List.mem_map.mp ht;exact(okg it h).wf) (by simpa using hm) ?_
 (kst_p;repeat (simp only[bs,h9];kst_p))
 refine⟨small_of (by simp;omega),?_⟩
 kst_p
 refine K _ _ most' (r2.set aHp (.lst ((heap++[newItem is o given row rev text holds]).map eItem))) (fun x x1 x2 x3=>?_) ?_ (Mt.set_self _ _ _) (fun b o hb e=>by rw[Mt.set_ne _ _ hb];exact Srr _ _ e)
 ·have n1: Nat.beq 220655771 x=false := beq_false (Ne.symm x1)
  have n2: Nat.beq 28490354198 x=false := beq_false (Ne.symm x2)
  have n3: Nat.beq 510831270252895 x=false := beq_false (Ne.symm x3)
  simp[look_put,n1,n2,n3]
 ·have := H2.upd (a := aHp) (.lst ((heap++[newItem is o given row rev text holds]).map eItem)) (by rw[Srr _ _ mHp];simp)
  rw[List.map_append]at this
  rw[List.map_append]
  exact this
end
section
abbrev Order := Ord×Nat×Row
def eOrd (x: Order): DV := .tup [eO x.1,.int (x.2.1: Nat),eR x.2.2]
def neededL: List (Nat×DV) := dctV [(1959739,2),(1961156,2),(248515262,1),(32650705719,1),(250993736,1),(474184994492923,1)]
def pairsL: List (Nat×Nat×Bool) := [(97,97,false),(98,98,false),(97,98,false),(97,97,true),(0,255,false),(98,122,true),(10,65,false)]
def eP3 (p: Nat×Nat×Bool): DV := .tup [.int (p.1: Nat),.int (p.2.1: Nat),.bool p.2.2]
structure LL (M aN aP aO: Addr) (rev: Bool) (text holds: List Nat) (loc: Loc): Prop where
 maker: look loc 32066903573=some (.ref M)
 orders: look loc 4175940780565=some (.ref aO)
 needed: look loc 129906622853851102991730=some (.ref aN)
 pairs: look loc 1156415915808219961899=some (.ref aP)
 text: look loc 253189449=some (eB text)
 holds: look loc 32341698207=some (.lst (holds.map eN))
 rev: look loc 474219854675971=some (.int (if rev then 1 else 0: Nat))
def llN: List Nat := [32066903573,4175940780565,129906622853851102991730,1156415915808219961899,253189449,32341698207,474219854675971]
theorem LL.of {M aN aP aO: Addr} {rev: Bool} {text holds: List Nat} {loc loc': Loc} (h: LL M aN aP aO rev text holds loc) (e: ∀ x∈llN,look loc' x=look loc x): LL M aN aP aO rev text holds loc' :=
 ⟨(e _ (by simp[llN])).trans h.maker,(e _ (by simp[llN])).trans h.orders,(e _ (by simp[llN])).trans h.needed,(e _ (by simp[llN])).trans h.pairs,(e _ (by simp[llN])).trans h.text,(e _ (by simp[llN])).trans h.holds,(e _ (by simp[llN])).trans h.rev⟩
theorem LL.put {M aN aP aO: Addr} {rev: Bool} {text holds: List Nat} {loc: Loc} {k: Nat} {v: DV} (h: LL M aN aP aO rev text holds loc) (e: llN.all (fun x=>!(Nat.beq k x))=true): LL M aN aP aO rev text holds (put loc k v) :=
 h.of fun x hx=>by
  have := List.all_eq_true.mp e x hx
  rw[look_put]
  cases hb: Nat.beq k x with
  |true=>rw[hb]at this;cases this
  |false=>rfl
structure LM (m: Mt) (M aN aP aO aHp: Addr) (is: List Ins) (items: List Item) (orders: List Order) (holds: List Nat) (most: Nat) (r0 r mu: Mt): Prop where
 H: MkM M most is r mu
 S: Sub r0 r
 o0: r0 aO=none
 o: r aO=some (.lst (orders.map eOrd))
 N: r0 aN=some (.dS neededL)
 P: r0 aP=some (.lst (pairsL.map eP3))
 Hp: r0 aHp=some (.lst (items.map eItem))
 m0: Sub m r0
def LS (m: Mt) (M aN aP aO: Addr) (is: List Ins) (items: List Item) (orders: List Order) (rev: Bool) (text holds: List Nat) (σ: St): Prop :=
 LL M aN aP aO rev text holds σ.loc/\∃ aHp most r0 r,look σ.loc 244219938=some (.ref aHp)/\LM m M aN aP aO aHp is items orders holds most r0 r σ.mu
variable {W: Wd} (G: Gd W) {n: Nat} {m: Mt} {is: List Ins} {M aN aP aO: Addr}
include G
theorem law_b1 {loc: Loc} {mu: Mt} {aHp: Addr} {most: Nat} {r0 r: Mt} {Inv: List Nat->List Nat->List Ins->List Item->Prop} (LI: LawInv Inv) (o: Ord) (heap given: List Item) (orders: List Order) (row: Row) (rev: Bool) (room: Nat) (text holds: List Nat)
  (l: LL M aN aP aO rev text holds loc) (l1: look loc 32066789281=some (eO o)) (l2: look loc 238014145=some (.int (room: Nat))) (l3: look loc 2011483=some (eR row)) (l4: look loc 263755961=some (.int (many o: Nat))) (l5: look loc 244219938=some (.ref aHp))
  (H: LM m M aN aP aO aHp is (heap++given) orders holds most r0 r mu) (tk: TextOk text holds) (hi: Inv text holds is (heap++given)) (hm: given.length=many o) (hrow: o≠.cat->RowOk rev row) (hsl: row.s0<=3/\row.s1<=3) (hs: is.length<=100) (hr: room<=1000) (hhp: heap.length<=1000) {Qs: Option DV->St->Prop} {Xs: DV->St->Prop}
  (K: ∀ σ',LS m M aN aP aO (made is o (given.map (·.part)) row rev).1 (heap++[newItem is o given row rev text holds]) orders rev text holds σ'->Qs none σ'): wpSs W 45 T0 (n+8) c_law_b1 Qs Xs ⟨loc,mu⟩ := by
 have rHp := H.S _ _ H.Hp
 have dHp := H.H.rest _ _ rHp
 have hg: given.length<=2 := by rw[hm];cases o<;>decide
 unfold c_law_b1
 have eb: Int.ofNat ((heap++given).map eItem).length-(many o: Int)=((heap.length: Nat): Int) := by
  rw[List.length_map,List.length_append,hm];simp
 have d1 := asL_ref dHp
 (kst_p;repeat (simp only[bs,l5,lenV_of d1];kst_p))
 refine⟨small_of (by simp;omega),?_⟩
 (kst_p;repeat (simp only[bs,l4];kst_p))
 rw[eb]
 (kst_p;repeat (simp only[bs,d1];kst_p))
 have e1: List.drop heap.length (List.take ((heap++given).map eItem).length ((heap++given).map eItem))=given.map eItem := by
  rw[List.take_length,List.map_append,List.drop_left' (by simp)]
 have e2: List.drop 0 (List.take heap.length ((heap++given).map eItem))=heap.map eItem := by
  rw[List.drop_zero,List.map_append,List.take_left' (by simp)]
 rw[e1]
 refine⟨small_of (by simp;omega),?_⟩
 (intro aG hG;(try dsimp only at hG);kst_p)
 have H1 := H.H.new (.lst (given.map eItem)) hG
 have S1: Sub mu (mu.set aG (.lst (given.map eItem))) := Sub.rfl.new hG
 have R1: Sub r (r.set aG (.lst (given.map eItem))) := Sub.rfl.new (H.H.absent hG)
 have g1: (r.set aG (.lst (given.map eItem))) aG=some (.lst (given.map eItem)) := Mt.set_self _ _ _
 generalize mu.set aG (.lst (given.map eItem))=mu1 at H1 S1 ⊢
 generalize r.set aG (.lst (given.map eItem))=r1 at H1 R1 g1
 (kst_p;repeat (simp only[bs,l5,lenV_of (asL_sub S1 d1)];kst_p))
 refine⟨small_of (by simp;omega),?_⟩
 (kst_p;repeat (simp only[bs,l4];kst_p))
 rw[eb]
 (kst_p;repeat (simp only[bs,asL_sub S1 d1];kst_p))
 rw[e2]
 refine⟨small_of (by simp;omega),?_⟩
 (intro aN' hN';(try dsimp only at hN');kst_p)
 have hN0: r1 aN'=none := H1.absent hN'
 have H2 := H1.new (.lst (heap.map eItem)) hN'
 have R2: Sub r1 (r1.set aN' (.lst (heap.map eItem))) := Sub.rfl.new hN0
 have g2: (r1.set aN' (.lst (heap.map eItem))) aN'=some (.lst (heap.map eItem)) := Mt.set_self _ _ _
 generalize mu1.set aN' (.lst (heap.map eItem))=mu2 at H2 ⊢
 generalize r1.set aN' (.lst (heap.map eItem))=r2 at H2 R2 g2
 have q2 := H2.rest _ _ (R2 _ _ g1)
 (kst_p;repeat (simp only[bs,iterL_of (asL_ref q2),List.reverse_cons,List.reverse_nil];kst_p))
 refine⟨trivial,small_of (by simp;omega),?_⟩
 refine compW_of eItem (fun i=>eS i.sh) (guardL_of (asL_ref q2)) (fun it _ K hK=>?_) ?_
 ·kst_p
  refine⟨by kst_mem,?_⟩
  exact⟨_,_,.refl,hK⟩
 (intro aS hS;(try dsimp only at hS);kst_p)
 have H3 := H2.new (.lst (given.map fun i=>eS i.sh)) hS
 have R3: Sub r2 (r2.set aS (.lst (given.map fun i=>eS i.sh))) := Sub.rfl.new (H2.absent hS)
 have g3: (r2.set aS (.lst (given.map fun i=>eS i.sh))) aS=some (.lst (given.map fun i=>eS i.sh)) := Mt.set_self _ _ _
 generalize mu2.set aS (.lst (given.map fun i=>eS i.sh))=mu3 at H3 ⊢
 generalize r2.set aS (.lst (given.map fun i=>eS i.sh))=r3 at H3 R3 g3
 have q3 := H3.rest _ _ (R3 _ _ (R2 _ _ g1))
 (kst_p;repeat (simp only[bs,iterL_of (asL_ref q3)];kst_p))
 refine⟨trivial,small_of (by simp;omega),?_⟩
 refine compW_of eItem (fun i=>eF i.part.f) (guardL_of (asL_ref q3)) (fun it _ K hK=>?_) ?_
 ·kst_p
  refine⟨by kst_mem,?_⟩
  exact⟨_,_,.refl,hK⟩
 (intro aQ hQ;(try dsimp only at hQ);kst_p)
 have H4 := H3.new (.lst (given.map fun i=>eF i.part.f)) hQ
 have R4: Sub r3 (r3.set aQ (.lst (given.map fun i=>eF i.part.f))) := Sub.rfl.new (H3.absent hQ)
 have g4: (r3.set aQ (.lst (given.map fun i=>eF i.part.f))) aQ=some (.lst (given.map fun i=>eF i.part.f)) := Mt.set_self _ _ _
 generalize mu3.set aQ (.lst (given.map fun i=>eF i.part.f))=mu4 at H4 ⊢
 generalize r3.set aQ (.lst (given.map fun i=>eF i.part.f))=r4 at H4 R4 g4
 have q4 := H4.rest _ _ (R4 _ _ (R3 _ _ (R2 _ _ g1)))
 (kst_p;repeat (simp only[bs,iterL_of (asL_ref q4)];kst_p))
 refine⟨trivial,small_of (by simp;omega),?_⟩
 refine compW_of eItem (fun i=>eT i.tb) (guardL_of (asL_ref q4)) (fun it _ K hK=>?_) ?_
 ·kst_p
  refine⟨by kst_mem,?_⟩
  exact⟨_,_,.refl,hK⟩
 (intro aT hT;(try dsimp only at hT);kst_p)
 have H5 := H4.new (.lst (given.map fun i=>eT i.tb)) hT
 have R5: Sub r4 (r4.set aT (.lst (given.map fun i=>eT i.tb))) := Sub.rfl.new (H4.absent hT)
 have g5: (r4.set aT (.lst (given.map fun i=>eT i.tb))) aT=some (.lst (given.map fun i=>eT i.tb)) := Mt.set_self _ _ _
 generalize mu4.set aT (.lst (given.map fun i=>eT i.tb))=mu5 at H5 ⊢
 generalize r4.set aT (.lst (given.map fun i=>eT i.tb))=r5 at H5 R5 g5
 have Ra: Sub r r2 := R1.trans R2
 have Rb: Sub r2 r5 := R3.trans (R4.trans R5)
 refine law_b2 G (M := M) (most := most) (r := r5) (aS := aS) (aQ := aQ) (aT := aT) (aG := aG) (aHp := aN') LI o heap given row rev room text holds
  (by simp[puts,look_put,l.maker]) (by simp[puts,look_put,l1]) (by simp[puts,look_put,l2]) (by simp[puts,look_put,l3]) (by simp[puts,look_put]) (by simp[puts,look_put]) (by simp[puts,look_put]) (by simp[puts,look_put]) (by simp[puts,look_put]) (by simp[puts,look_put,l.rev]) (by simp[puts,look_put,l.text]) (by simp[puts,look_put,l.holds])
  H5 ((R4.trans R5) _ _ g3) (R5 _ _ g4) g5 (Rb _ _ (R2 _ _ g1)) (Rb _ _ g2) tk hi hm hrow hsl hs hr hhp ?_
 intro loc' mu' most' r' hlk H' hHp hR
 have R05: Sub r0 r5 := H.S.trans (Ra.trans Rb)
 have hN00: r aN'=none := R1.absent hN0
 have nO: aO≠aN' := fun e=>by subst e;rw[H.o]at hN00;cases hN00
 have n0: r0 aN'=none := H.S.absent hN00
 refine K _ ⟨?_,aN',most',r0.set aN' (.lst ((heap++[newItem is o given row rev text holds]).map eItem)),r',?_,⟨H',?_,?_,?_,?_,?_,Mt.set_self _ _ _,?_⟩⟩
 ·refine l.of fun x hx=>?_
  simp only[llN,List.mem_cons,List.not_mem_nil,or_false]at hx
  rcases hx with rfl|rfl|rfl|rfl|rfl|rfl|rfl<;>rw[hlk _ (by decide) (by decide) (by decide)]<;>simp[puts,look_put]
 ·rw[hlk _ (by decide) (by decide) (by decide)];simp[puts,look_put]
 ·intro b o' e
  by_cases eb: b=aN'
  ·subst eb;rw[Mt.set_self]at e;cases e;exact hHp
  ·rw[Mt.set_ne _ _ eb]at e;exact hR b o' eb (R05 _ _ e)
 ·rw[Mt.set_ne _ _ nO];exact H.o0
 ·exact hR _ _ nO ((Ra.trans Rb) _ _ H.o)
 ·exact(H.S.absent hN00|> fun _=>(Sub.rfl.new n0) _ _ H.N)
 ·exact(Sub.rfl.new n0) _ _ H.P
 ·exact H.m0.trans (Sub.rfl.new n0)
end
section
theorem lookS_needed (o: Ord): (lookS neededL o.code).getD (.int 0)=.int (many o: Nat) := by
 cases o<;>simp[neededL,dctV,lookS,Ord.code,nat_beq,many]
def row0: Row := ⟨false,97,97,false,0,1,1⟩
variable {W: Wd} (G: Gd W) {n: Nat} {m: Mt} {is: List Ins} {M aN aP aO: Addr}
include G
theorem law_go {loc: Loc} {mu: Mt} {aHp: Addr} {most: Nat} {r0 r: Mt} {Inv: List Nat->List Nat->List Ins->List Item->Prop} (LI: LawInv Inv) (o: Ord) (items: List Item) (orders: List Order) (row: Row) (rev: Bool) (room: Nat) (text holds: List Nat)
  (l: LL M aN aP aO rev text holds loc) (l1: look loc 32066789281=some (eO o)) (l2: look loc 238014145=some (.int (room: Nat))) (l3: look loc 2011483=some (eR row)) (l5: look loc 244219938=some (.ref aHp))
  (H: LM m M aN aP aO aHp is items orders holds most r0 r mu) (tk: TextOk text holds) (hi: Inv text holds is items) (hrow: RowOk rev row\/(row=row0/\o=.cat/\2<=items.length)) (hs: is.length<=100) (hr: room<=1000) (hhp: items.length<=1000) {Qs: Option DV->St->Prop} {Xs: DV->St->Prop}
  (K: ∀ is' items' σ',LS m M aN aP aO is' items' orders rev text holds σ'->Inv text holds is' items'->items'.length<=items.length+1->items'≠[]->is'.length<=is.length+2->(o=.cat->2<=items.length->items'.length+1=items.length/\is'.length=is.length)->Qs none σ'): 
  wpSs W 45 T0 (n+8) c_law_go Qs Xs ⟨loc,mu⟩ := by
 unfold c_law_go
 have hsl: row.s0<=3/\row.s1<=3 := by
  rcases hrow with h|⟨h,_⟩
  ·obtain⟨g,hg,h0,h1⟩ := h.slots
   rw[h0,h1];cases rev<;>simp<;>omega
  ·subst h;decide
 have lens: ∀(o: Ord) (heap given: List Item),heap++given=items->given.length=many o->(made is o (given.map (·.part)) row rev).1.length=is.length+needs o (given.map (·.sh)) := by
  intro o heap given e hm
  subst e
  have hok := (LI.items tk hi).1
  rw[made_len (by simpa using hm) (fun p hp=>by obtain⟨it,h,rfl⟩ := List.mem_map.mp hp;exact(hok it (List.mem_append_right _ h)).nl)]
  congr 1
  rw[List.map_map]
  congr 1
  exact List.map_congr_left fun it h=>(hok it (List.mem_append_right _ h)).sh
 have dN := H.H.rest _ _ (H.S _ _ H.N)
 have dHp := asL_ref (H.H.rest _ _ (H.S _ _ H.Hp))
 (kst_p;repeat (simp only[bs,l.needed,calOf,dN];kst_p))
 (kst_p;repeat (simp only[bs,l1,eO];kst_p))
 simp only[dN,lookS_needed]
 (kst_p;repeat (simp only[bs,l5,lenV_of dHp];kst_p))
 simp only[List.length_map]
 refine⟨small_of (by omega),?_⟩
 (kst_p;repeat (simp only[bs,cmpV];kst_p))
 cases hd: decide (Int.ofNat items.length<(many o: Int))<;>simp at hd
 ·have e0: items.take (items.length-many o)++items.drop (items.length-many o)=items := List.take_append_drop _ _
  have hg: (items.drop (items.length-many o)).length=many o := by rw[List.length_drop];omega
  have hr': o≠.cat->RowOk rev row := fun hne=>hrow.elim id fun h=>absurd h.2.1 hne
  rw[<-e0]at hi H
  have hi' := LI.step tk hi hg hr' hs
  kst_p
  refine law_b1 G LI o (items.take (items.length-many o)) (items.drop (items.length-many o)) orders row rev room text holds (l.put (by decide)) (by simp[look_put,l1]) (by simp[look_put,l2]) (by simp[look_put,l3]) (by simp[look_put]) (by simp[look_put,l5]) H tk hi hg hr' hsl hs hr (by simp;omega) fun σ' h'=>?_
  have hl := lens o _ _ e0 hg
  have hn: needs o ((items.drop (items.length-many o)).map (·.sh))<=2 := needs_le
  refine K _ _ σ' h' hi' (by simp) (by simp) (by omega) fun e h2=>?_
  subst e
  refine⟨by simp[many];omega,hl⟩
 ·have hne: o≠.cat\/¬ 2<=items.length := by
   by_cases e: o=.cat
   ·subst e;right;simp[many]at hd;omega
   ·exact .inl e
  have hrow': RowOk rev row := hrow.elim id fun h=>absurd h.2.2 (hne.elim (fun e=>absurd h.2.1 e) id)
  have e0: items++([]: List Item)=items := List.append_nil _
  rw[<-e0]at hi H
  have hi' := LI.step (o := .range) tk hi (given := []) rfl (fun _=>hrow') hs
  kst_p
  refine law_b1 G LI .range items [] orders row rev room text holds (((l.put (by decide)).put (by decide)).put (by decide)) (by simp[puts,look_put];rfl) (by simp[puts,look_put,l2]) (by simp[puts,look_put,l3]) (by simp[puts,look_put,many]) (by simp[puts,look_put,l5]) H tk hi rfl (fun _=>hrow') hsl hs hr (by omega) fun σ' h'=>?_
  have hl := lens .range items [] e0 rfl
  refine K _ _ σ' h' hi' (by simp) (by simp) (by rw[hl];simp[needs]) fun e h2=>?_
  exact absurd h2 (hne.elim (fun h=>absurd e h) id)
def OrdOk (rev: Bool) (x: Order): Prop := RowOk rev x.2.2/\x.2.1<=1000
def LP (Inv: List Nat->List Nat->List Ins->List Item->Prop) (m: Mt) (M aN aP aO: Addr) (rev: Bool) (text holds: List Nat) (j: Nat) (σ: St): Prop :=
 ∃ is items orders,LS m M aN aP aO is items orders rev text holds σ/\Inv text holds is items/\is.length+2 * orders.length<=60/\items.length+orders.length<=60/\(∀ x∈orders,OrdOk rev x)/\(items≠[]\/orders≠[])/\2 * orders.length+items.length=j
theorem law_t4 {loc: Loc} {mu: Mt} {Q X: DV->Mt->Prop} {Inv: List Nat->List Nat->List Ins->List Item->Prop} (LI: LawInv Inv) (orders: List Order) (rev: Bool) (text holds: List Nat) (j: Nat) (tk: TextOk text holds) (P: LP Inv m M aN aP aO rev text holds j ⟨loc,mu⟩) (h: Q (.bool true) m) :
  wpSs W 45 T0 (n+8) c_law_t4 (fun r σ=>∃ m' d',Fz σ.mu (r.getD .none) m' d'/\Q d' m') (fun d σ=>X d σ.mu) ⟨loc,mu⟩ := by
 unfold c_law_t4
 kst_p
 refine whileN_ind (LP Inv m M aN aP aO rev text holds) ?_ j _ P
 rintro j ⟨loc,mu⟩ K ⟨is,items,orders,⟨l,aHp,most,r0,r,l5,H⟩,hi,b1,b2,ho,hne,hj⟩ hK
 dsimp only at l l5 H
 have dO := H.H.rest _ _ H.o
 have dHp := H.H.rest _ _ (H.S _ _ H.Hp)
 have cont: ∀(mu': Mt) (r': Mt),MkM M most is r' mu'->Sub r r'->¬ (orders=[]/\items.length<=1)->wpSs W 45 T0 (n+8) c_law_b (fun f σ=>match f with|none=>K σ|some d=>∃ m' d',Fz σ.mu ((some d).getD .none) m' d'/\Q d' m') no ⟨loc,mu'⟩ := by
  intro mu' r' H' R' hcont
  have dO := H'.rest _ _ (R' _ _ H.o)
  have dP := H'.rest _ _ (R' _ _ (H.S _ _ H.P))
  unfold c_law_b
  (kst_p;repeat (simp only[bs,l.orders];kst_p))
  (intro c hc;(try dsimp only at hc);kst_p)
  have H1 := H'.new (.lst []) hc
  have S1: Sub mu' (mu'.set c (.lst [])) := Sub.rfl.new hc
  have R1: Sub r' (r'.set c (.lst [])) := Sub.rfl.new (H'.absent hc)
  have nc: asL (mu'.set c (.lst [])) (.ref c)=some [] := asL_new
  generalize mu'.set c (.lst [])=mu1 at H1 S1 nc ⊢
  generalize r'.set c (.lst [])=r1 at H1 R1
  have R2 := R'.trans R1
  (kst_p;repeat (simp only[bs,cmpV];kst_p))
  cases orders with
  |cons x os=>
   obtain⟨o,room,row⟩ := x
   have hx := ho _ (List.mem_cons_self ..)
   rw[eqTop_len (x := ((o,room,row)::os).map eOrd) (y := []) (asL_ref (S1 _ _ dO)) nc (by simp)]
   have dO1: mu1 aO=some (.lst (eOrd (o,room,row)::os.map eOrd)) := S1 _ _ dO
   (kst_p;repeat (simp only[bs,l.orders,calOf,dO1];kst_p))
   refine⟨small_of (by simp at b2;simp;omega),?_⟩
   have H2 := H1.upd (a := aO) (.lst (os.map eOrd)) (by rw[R2 _ _ H.o];simp)
   have L2: LM m M aN aP aO aHp is items os holds most r0 (r1.set aO (.lst (os.map eOrd))) (mu1.set aO (.lst (os.map eOrd))) :=
    ⟨H2,(H.S.trans R2).put H.o0,H.o0,Mt.set_self _ _ _,H.N,H.P,H.Hp,H.m0⟩
   generalize mu1.set aO (.lst (os.map eOrd))=mu2 at L2 ⊢
   kst_p
   refine law_go G LI o items os row rev room text holds (((l.put (by decide)).put (by decide)).put (by decide)) (by simp[puts,look_put]) (by simp[puts,look_put]) (by simp[puts,look_put]) (by simp[puts,look_put,l5]) L2 tk hi (.inl hx.1) (by simp at b1;omega) hx.2 (by omega) fun is' items' σ' h' hi' e1 e2 e3 e4=>?_
   refine hK (2 * os.length+items'.length) σ' ?_ ⟨is',items',os,h',hi',?_,?_,fun y hy=>ho y (List.mem_cons_of_mem _ hy),.inl e2,rfl⟩
   ·rw[<-hj];simp;omega
   ·simp at b1;omega
   ·simp at b2;omega
  |nil=>
   have h2: 2<=items.length := by simp at hcont;omega
   rw[eqTop_same (x := []) (asL_ref (S1 _ _ dO)) nc rfl]
   (kst_p;repeat (simp only[bs,l.pairs];kst_p))
   refine subW_of (asL_ref (S1 _ _ dP)) (k := 0) (d := eP3 (97,97,false)) (by omega) rfl ?_
   kst_p
   have L2: LM m M aN aP aO aHp is items [] holds most r0 r1 mu1 :=
    ⟨H1,H.S.trans R2,H.o0,R2 _ _ H.o,H.N,H.P,H.Hp,H.m0⟩
   refine law_go G LI .cat items [] row0 rev 0 text holds (((l.put (by decide)).put (by decide)).put (by decide)) (by simp[puts,look_put];rfl) (by simp[puts,look_put]) (by simp[puts,look_put];rfl) (by simp[puts,look_put,l5]) L2 tk hi (.inr ⟨rfl,rfl,h2⟩) (by simp at b1;omega) (by omega) (by omega) fun is' items' σ' h' hi' e1 e2 e3 e4=>?_
   obtain⟨e5,e6⟩ := e4 rfl h2
   refine hK (2 * 0+items'.length) σ' ?_ ⟨is',items',[],h',hi',?_,?_,fun y hy=>by simp at hy,.inl e2,rfl⟩
   ·rw[<-hj];simp;omega
   ·simp at b1 ⊢;omega
   ·simp at b2 ⊢;omega
 have stop: ∀(mu': Mt) (r': Mt),MkM M most is r' mu'->Sub r r'->(orders=[]/\items.length<=1)->wpSs W 45 T0 (n+8) c_law_t5 (fun r σ=>∃ m' d',Fz σ.mu (r.getD .none) m' d'/\Q d' m') (fun d σ=>X d σ.mu) ⟨loc,mu'⟩ := by
  rintro mu' r' H' R' ⟨rfl,hlen⟩
  obtain⟨it,rfl⟩: ∃ it,items=[it] := by
   match items,hlen,hne with
   |[it],_,_=>exact⟨it,rfl⟩
   |[],_,h=>simp at h
  have S0 := H.S.trans R'
  exact law_t5 G (n := n+2) LI it text holds l.maker l.text l.holds l5 H' (by simp at b1;omega) (S0 _ _ H.Hp) tk hi ((H.m0.trans S0).trans H'.rest) (H.m0.trans S0) h
 (kst_p;repeat (simp only[bs,l.orders];kst_p))
 (intro c hc;(try dsimp only at hc);kst_p)
 have H1 := H.H.new (.lst []) hc
 have S1: Sub mu (mu.set c (.lst [])) := Sub.rfl.new hc
 have R1: Sub r (r.set c (.lst [])) := Sub.rfl.new (H.H.absent hc)
 have nc: asL (mu.set c (.lst [])) (.ref c)=some [] := asL_new
 generalize mu.set c (.lst [])=mu1 at H1 S1 nc ⊢
 generalize r.set c (.lst [])=r1 at H1 R1
 (kst_p;repeat (simp only[bs,cmpV];kst_p))
 cases orders with
 |cons x os=>
  rw[eqTop_len (x := (x::os).map eOrd) (y := []) (asL_ref (S1 _ _ dO)) nc (by simp)]
  exact cont mu1 r1 H1 R1 (by simp)
 |nil=>
  rw[eqTop_same (x := []) (asL_ref (S1 _ _ dO)) nc rfl]
  (kst_p;repeat (simp only[bs,l5,lenV_of (asL_ref (S1 _ _ dHp))];kst_p))
  simp only[List.length_map]
  refine⟨small_of (by omega),?_⟩
  (kst_p;repeat (simp only[bs,cmpV];kst_p))
  cases hd: decide ((1: Int)<Int.ofNat items.length)<;>simp at hd
  ·exact stop mu1 r1 H1 R1 ⟨rfl,by omega⟩
  ·exact cont mu1 r1 H1 R1 (by simp;omega)
end
section
def ordersL: List Ord := [.range,.cat,.range,.alt,.star,.range,.capture,.quest,.plus,.range,.empty,.cat,.nop,.none,.alt,.capture]
def askedL: List Nat := [1,2,4,8,16,32,5,10,40,63]
def basesL: List Nat := [16,7,2,4,2,10]
def mkRow (rev: Bool) (p: Nat×Nat×Bool) (lazy group bits: Nat): Row :=
 ⟨decide (lazy=1),p.1,p.2.1,p.2.2,if rev then 2 * group+1 else 2 * group,if rev then 2 * group else 2 * group+1,bits⟩
def mkOrder (rev: Bool) (kind pair lazy room group bits: Nat): Order :=
 (ordersL.getD kind .range,if room=3 then 1000 else room,mkRow rev (pairsL.getD pair (97,97,false)) lazy group (askedL.getD bits 1))
theorem mkOrder_ok (rev: Bool) {kind pair lazy room group bits: Nat} (hp: pair<7) (hr: room<4) (hg: group<2) (hb: bits<10): OrdOk rev (mkOrder rev kind pair lazy room group bits) := by
 refine⟨⟨?_,?_,⟨group,by omega,rfl,rfl⟩⟩,?_⟩
 ·have: ∀ p: Fin 7,(pairsL.getD p.1 (97,97,false)).1<=(pairsL.getD p.1 (97,97,false)).2.1/\(pairsL.getD p.1 (97,97,false)).2.1<=255 := by decide
  exact this ⟨pair,hp⟩
 ·have: ∀ p: Fin 10,askedL.getD p.1 1≠0/\askedL.getD p.1 1&&& 63=askedL.getD p.1 1 := by decide
  exact this ⟨bits,hb⟩
 ·show(if room=3 then 1000 else room)<=1000
  split<;>omega
variable {W: Wd} (G: Gd W) {n: Nat} {m: Mt} {is: List Ins} {M aN aP aO: Addr}
include G
theorem law_f {loc: Loc} {mu: Mt} {aHp aK aA: Addr} {r0 r: Mt} (rev: Bool) (text holds: List Nat) (acc: List Order) (cell: Nat) (l: LL M aN aP aO rev text holds loc) (l5: look loc 244219938=some (.ref aHp)) (l6: look loc 149177348187315714245916=some (.ref aK)) (l7: look loc 1007032309778334464532=some (.ref aA)) (l8: look loc 235816228=some (.int (cell: Nat)))
  (H: LM m M aN aP aO aHp [opI 6] [] acc holds 1 r0 r mu) (mK: r0 aK=some (.lst (ordersL.map eO))) (mA: r0 aA=some (.lst (askedL.map eN))) (hacc: acc.length<=1000) {Qs: Option DV->St->Prop} {Xs: DV->St->Prop}
  (K: ∀ loc' mu' r' x,LL M aN aP aO rev text holds loc'->look loc' 244219938=some (.ref aHp)->look loc' 149177348187315714245916=some (.ref aK)->look loc' 1007032309778334464532=some (.ref aA)->OrdOk rev x->LM m M aN aP aO aHp [opI 6] [] (acc++[x]) holds 1 r0 r' mu'->Qs none ⟨loc',mu'⟩): wpSs W 45 T0 (n+8) c_law_f Qs Xs ⟨loc,mu⟩ := by
 unfold c_law_f
 (kst_p;repeat (simp only[bs,l8];kst_p))
 (intro d hd;(try dsimp only at hd);kst_p)
 have H1 := H.H.new (.lst (basesL.map eN)) hd
 have R1: Sub r (r.set d (.lst (basesL.map eN))) := Sub.rfl.new (H.H.absent hd)
 have nd: asL (mu.set d (.lst (basesL.map eN))) (.ref d)=some (basesL.map eN) := asL_new
 have ed: mu.set d (.lst (basesL.map eN))=mu.set d (.lst [.int 16,.int 7,.int 2,.int 4,.int 2,.int 10]) := rfl
 rw[ed]at H1 nd
 generalize mu.set d (.lst [.int 16,.int 7,.int 2,.int 4,.int 2,.int 10])=mu1 at H1 nd ⊢
 generalize r.set d (.lst (basesL.map eN))=r1 at H1 R1
 refine sp_digits G basesL cell nd (by decide) (by decide) ?_
 have hk: cell % 16<16 := Nat.mod_lt _ (by decide)
 have hp: cell / 16 % 7<7 := Nat.mod_lt _ (by decide)
 have hz: cell / 16 / 7 % 2<2 := Nat.mod_lt _ (by decide)
 have hr: cell / 16 / 7 / 2 % 4<4 := Nat.mod_lt _ (by decide)
 have hg: cell / 16 / 7 / 2 / 4 % 2<2 := Nat.mod_lt _ (by decide)
 have hb: cell / 16 / 7 / 2 / 4 / 2 % 10<10 := Nat.mod_lt _ (by decide)
 have edig: digits cell basesL=[cell % 16,cell / 16 % 7,cell / 16 / 7 % 2,cell / 16 / 7 / 2 % 4,cell / 16 / 7 / 2 / 4 % 2,cell / 16 / 7 / 2 / 4 / 2 % 10] := rfl
 rw[edig]
 generalize cell % 16=kind at hk ⊢
 generalize cell / 16 % 7=pair at hp ⊢
 generalize cell / 16 / 7 % 2=lazy at hz ⊢
 generalize cell / 16 / 7 / 2 % 4=room at hr ⊢
 generalize cell / 16 / 7 / 2 / 4 % 2=group at hg ⊢
 generalize cell / 16 / 7 / 2 / 4 / 2 % 10=bits at hb ⊢
 (kst_p;repeat (simp only[bs,List.map_cons,List.map_nil,eN];kst_p))
 have bg: bigI ((group: Nat): Int) := bigI_of (by omega)
 have b2: bigI 2 := bigI_of (k := 2) (by omega)
 refine⟨b2,bg,?_⟩
 (kst_p;repeat (simp only[bs,l8];kst_p))
 refine⟨b2,bg,?_⟩
 (kst_p;repeat (simp only[bs,l8];kst_p))
 refine⟨b2,bg,?_⟩
 (kst_p;repeat (simp only[bs,l8];kst_p))
 refine⟨b2,bg,?_⟩
 (kst_p;repeat (simp only[bs,l8];kst_p))
 (intro e he;(try dsimp only at he);kst_p)
 have H2 := H1.new (.lst [.tup [.int (2 * group),.int (2 * group+1)],.tup [.int (2 * group+1),.int (2 * group)]]) he
 have R2: Sub r1 (r1.set e (.lst [.tup [.int (2 * group),.int (2 * group+1)],.tup [.int (2 * group+1),.int (2 * group)]])) := Sub.rfl.new (H1.absent he)
 have ne: asL (mu1.set e (.lst [.tup [.int (2 * group),.int (2 * group+1)],.tup [.int (2 * group+1),.int (2 * group)]])) (.ref e)=some [.tup [.int (2 * group),.int (2 * group+1)],.tup [.int (2 * group+1),.int (2 * group)]] := asL_new
 generalize mu1.set e (.lst [.tup [.int (2 * group),.int (2 * group+1)],.tup [.int (2 * group+1),.int (2 * group)]])=mu2 at H2 ne ⊢
 generalize r1.set e (.lst [.tup [.int (2 * group),.int (2 * group+1)],.tup [.int (2 * group+1),.int (2 * group)]])=r2 at H2 R2
 have R02: Sub r r2 := R1.trans R2
 have dP := asL_ref (H2.rest _ _ (R02 _ _ (H.S _ _ H.P)))
 have dK := asL_ref (H2.rest _ _ (R02 _ _ (H.S _ _ mK)))
 have dA := asL_ref (H2.rest _ _ (R02 _ _ (H.S _ _ mA)))
 have dO := H2.rest _ _ (R02 _ _ H.o)
 (kst_p;repeat (simp only[bs,l.rev];kst_p))
 refine subW_of ne (k := if rev then 1 else 0) (d := .tup [.int ((if rev then 2 * group+1 else 2 * group: Nat): Int),.int ((if rev then 2 * group else 2 * group+1: Nat): Int)]) (by split<;>omega) (by cases rev<;>rfl) ?_
 (kst_p;repeat (simp only[bs,l.pairs];kst_p))
 (kst_p;repeat (simp only[bs,cmpV,eqTop_int];kst_p))
 refine subW_of dP (k := pair) (d := eP3 (pairsL.getD pair (97,97,false))) (by omega) (by rw[List.getElem?_map,List.getElem?_eq_getElem (by simp[pairsL];omega),List.getD_eq_getElem?_getD,List.getElem?_eq_getElem (by simp[pairsL];omega)];rfl) ?_
 (kst_p;repeat (simp only[bs,l7];kst_p))
 refine subW_of dA (k := bits) (d := eN (askedL.getD bits 1)) (by omega) (by rw[List.getElem?_map,List.getElem?_eq_getElem (by simp[askedL];omega),List.getD_eq_getElem?_getD,List.getElem?_eq_getElem (by simp[askedL];omega)];rfl) ?_
 (kst_p;repeat (simp only[bs,l.orders,calOf,dO];kst_p))
 (kst_p;repeat (simp only[bs,l6];kst_p))
 refine subW_of dK (k := kind) (d := eO (ordersL.getD kind .range)) (by omega) (by rw[List.getElem?_map,List.getElem?_eq_getElem (by simp[ordersL];omega),List.getD_eq_getElem?_getD,List.getElem?_eq_getElem (by simp[ordersL];omega)];rfl) ?_
 (kst_p;repeat (simp only[bs,l.rev];kst_p))
 (kst_p;repeat (simp only[bs,cmpV,eqTop_int];kst_p))
 have hx := mkOrder_ok rev (kind := kind) (pair := pair) (lazy := lazy) hp hr hg hb
 have el: decide ((lazy: Int)=1)=decide (lazy=1) := nat_dec _ 1
 have er: decide ((room: Int)=3)=decide (room=3) := nat_dec _ 3
 rw[er]
 have fin: ∀ loc',LL M aN aP aO rev text holds loc'->look loc' 244219938=some (.ref aHp)->look loc' 149177348187315714245916=some (.ref aK)->look loc' 1007032309778334464532=some (.ref aA)->Qs none ⟨loc',mu2.set aO (.lst (acc.map eOrd++[eOrd (mkOrder rev kind pair lazy room group bits)]))⟩ := by
  intro loc' q1 q2 q3 q4
  have H3 := H2.upd (a := aO) (.lst ((acc++[mkOrder rev kind pair lazy room group bits]).map eOrd)) (by rw[R02 _ _ H.o];simp)
  have ea: acc.map eOrd++[eOrd (mkOrder rev kind pair lazy room group bits)]=(acc++[mkOrder rev kind pair lazy room group bits]).map eOrd := by simp
  rw[ea]
  exact K loc' _ _ _ q1 q2 q3 q4 hx ⟨H3,(H.S.trans R02).put H.o0,H.o0,Mt.set_self _ _ _,H.N,H.P,H.Hp,H.m0⟩
 have eR': ∀ x: Nat,x=(if room=3 then 1000 else room)->DV.tup [eO (ordersL.getD kind .range),.int (x: Nat),.tup [.bool (decide ((lazy: Int)=1)),eP3 (pairsL.getD pair (97,97,false)),.tup [.int ((if rev then 2 * group+1 else 2 * group: Nat): Int),.int ((if rev then 2 * group else 2 * group+1: Nat): Int)],eN (askedL.getD bits 1)]]=eOrd (mkOrder rev kind pair lazy room group bits) := by
  intro x hx
  rw[el,hx];rfl
 cases h3: decide (room=3)<;>simp only[decide_eq_true_eq,decide_eq_false_iff_not]at h3<;>(kst_p;repeat (simp only[bs,l.rev];kst_p))
 ·have eR' := eR' room (by rw[if_neg h3])
  (kst_p;repeat (simp only[bs,dO];kst_p))
  rw[eR']
  refine⟨small_of (by simp;omega),?_⟩
  (kst_p;repeat (simp only[bs,l.rev];kst_p))
  exact fin _ ((((((((l.put (by decide)).put (by decide)).put (by decide)).put (by decide)).put (by decide)).put (by decide)).put (by decide)).put (by decide)) (by simp[look_put,l5]) (by simp[look_put,l6]) (by simp[look_put,l7])
 ·have eR' := eR' 1000 (by rw[if_pos h3])
  (kst_p;repeat (simp only[bs,dO];kst_p))
  have eR2: DV.tup [eO (ordersL.getD kind .range),.int 1000,.tup [.bool (decide ((lazy: Int)=1)),eP3 (pairsL.getD pair (97,97,false)),.tup [.int ((if rev then 2 * group+1 else 2 * group: Nat): Int),.int ((if rev then 2 * group else 2 * group+1: Nat): Int)],eN (askedL.getD bits 1)]]=eOrd (mkOrder rev kind pair lazy room group bits) := eR'
  rw[eR2]
  refine⟨small_of (by simp;omega),?_⟩
  (kst_p;repeat (simp only[bs,l.rev];kst_p))
  exact fin _ ((((((((l.put (by decide)).put (by decide)).put (by decide)).put (by decide)).put (by decide)).put (by decide)).put (by decide)).put (by decide)) (by simp[look_put,l5]) (by simp[look_put,l6]) (by simp[look_put,l7])
end
section
variable {W: Wd} (G: Gd W) {n: Nat} {m: Mt} {Q X: DV->Mt->Prop} {is: List Ins} {M aN aP aO: Addr}
include G
theorem law_t3 {loc: Loc} {mu: Mt} {aC aK aA: Addr} {Inv: List Nat->List Nat->List Ins->List Item->Prop} (LI: LawInv Inv) (cells: List Nat) (rev: Bool) (text holds: List Nat) (tk: TextOk text holds) (hc3: 3<=cells.length) (hc: cells.length<=20)
  (l1: look loc 32358870424=some (.ref aC)) (l2: look loc 129906622853851102991730=some (.ref aN)) (l3: look loc 1156415915808219961899=some (.ref aP)) (l4: look loc 253189449=some (eB text)) (l5: look loc 32341698207=some (.lst (holds.map eN))) (l6: look loc 149177348187315714245916=some (.ref aK)) (l7: look loc 1007032309778334464532=some (.ref aA)) (l8: look loc 474219854675971=some (.int (if rev then 1 else 0: Nat)))
  (mC: mu aC=some (.lst (cells.map eN))) (mN: mu aN=some (.dS neededL)) (mP: mu aP=some (.lst (pairsL.map eP3))) (mK: mu aK=some (.lst (ordersL.map eO))) (mA: mu aA=some (.lst (askedL.map eN))) (S: Sub m mu) (h: Q (.bool true) m) :
  wpSs W 45 T0 (n+8) c_law_t3 (fun r σ=>∃ m' d',Fz σ.mu (r.getD .none) m' d'/\Q d' m') (fun d σ=>X d σ.mu) ⟨loc,mu⟩ := by
 unfold c_law_t3
 kst_p
 intro x dx hx hd ne
 refine sp_Maker G hx hd ne fun m1 H=>⟨rfl,?_⟩
 kst_p
 (intro aHp hHp;(try dsimp only at hHp);kst_p)
 have h0 := H.absent hHp
 have H1 := H.new (.lst []) hHp
 have R1: Sub mu (mu.set aHp (.lst [])) := Sub.rfl.new h0
 have gHp: (mu.set aHp (.lst [])) aHp=some (.lst []) := Mt.set_self _ _ _
 generalize m1.set aHp (.lst [])=mu1 at H1 ⊢
 generalize mu.set aHp (.lst [])=r1 at H1 R1 gHp
 (intro aO hO;(try dsimp only at hO);kst_p)
 have hO0 := H1.absent hO
 have H2 := H1.new (.lst []) hO
 have R2: Sub r1 (r1.set aO (.lst [])) := Sub.rfl.new hO0
 have gO: (r1.set aO (.lst [])) aO=some (.lst []) := Mt.set_self _ _ _
 generalize mu1.set aO (.lst [])=mu2 at H2 ⊢
 generalize r1.set aO (.lst [])=r2 at H2 R2 gO
 (kst_p;repeat (simp only[bs,l1,List.reverse_cons,List.reverse_nil];kst_p))
 have dC := asL_ref (H2.rest _ _ (R2 _ _ (R1 _ _ mC)))
 (kst_p;repeat (simp only[bs,dC];kst_p))
 refine⟨small_of (by simp;omega),?_⟩
 have e1: List.drop 2 (List.take (cells.map eN).length (cells.map eN))=(cells.drop 2).map eN := by
  rw[List.take_length,List.map_drop]
 rw[e1]
 (intro c hc';(try dsimp only at hc');kst_p)
 have hc0 := H2.absent hc'
 have H3 := H2.new (.lst ((cells.drop 2).map eN)) hc'
 have R3: Sub r2 (r2.set c (.lst ((cells.drop 2).map eN))) := Sub.rfl.new hc0
 have nO: aO≠c := fun e=>by subst e;rw[gO]at hc0;cases hc0
 have hc1: r1 c=none := R2.absent hc0
 have R13: Sub (r1.set c (.lst ((cells.drop 2).map eN))) (r2.set c (.lst ((cells.drop 2).map eN))) := by
  intro b o e
  by_cases eb: b=c
  ·subst eb;rw[Mt.set_self]at e ⊢;exact e
  ·rw[Mt.set_ne _ _ eb]at e ⊢;exact R2 _ _ e
 have R01: Sub mu (r1.set c (.lst ((cells.drop 2).map eN))) := R1.trans (Sub.rfl.new hc1)
 have g0: (r1.set c (.lst ((cells.drop 2).map eN))) c=some (.lst ((cells.drop 2).map eN)) := Mt.set_self _ _ _
 have gH: (r1.set c (.lst ((cells.drop 2).map eN))) aHp=some (.lst []) := (Sub.rfl.new hc1) _ _ gHp
 have gO0: (r1.set c (.lst ((cells.drop 2).map eN))) aO=none := by rw[Mt.set_ne _ _ nO];exact hO0
 generalize mu2.set c (.lst ((cells.drop 2).map eN))=mu3 at H3 ⊢
 generalize r1.set c (.lst ((cells.drop 2).map eN))=r0 at R13 R01 g0 gH gO0
 generalize r2.set c (.lst ((cells.drop 2).map eN))=r3 at H3 R3 R13
 have L0: LM m x aN aP aO aHp [opI 6] [] [] holds 1 r0 r3 mu3 :=
  ⟨H3,R13,gO0,R3 _ _ gO,R01 _ _ mN,R01 _ _ mP,gH,S.trans R01⟩
 (kst_p;repeat (simp only[bs,iterL_of (asL_ref (H3.rest _ _ (R13 _ _ g0)))];kst_p))
 refine⟨trivial,?_⟩
 refine forW_ind (fun xs σ=>∃(us: List Nat) (acc: List Order) (r: Mt),xs=us.map eN/\acc.length+us.length=(cells.drop 2).length/\(∀ y∈acc,OrdOk rev y)/\LL x aN aP aO rev text holds σ.loc/\look σ.loc 244219938=some (.ref aHp)/\look σ.loc 149177348187315714245916=some (.ref aK)/\look σ.loc 1007032309778334464532=some (.ref aA)/\LM m x aN aP aO aHp [opI 6] [] acc holds 1 r0 r σ.mu) ?_ ?_ _ _ ⟨cells.drop 2,[],r3,rfl,by simp,by simp,?_,?_,?_,?_,L0⟩
 ·rintro⟨loc',mu'⟩ ⟨us,acc,r,hx',hlen,hacc,l,l5',l6',l7',L⟩
  obtain rfl: us=[] := by cases us<;>simp at hx' ⊢
  dsimp only at l l5' l6' l7' L
  refine⟨L.H.rest _ _ (L.S _ _ g0),?_⟩
  kst_p
  refine law_t4 G LI acc rev text holds (2 * acc.length) tk ⟨[opI 6],[],acc,⟨l,aHp,1,r0,r,l5',L⟩,LI.init text holds tk,?_,?_,hacc,.inr ?_,rfl⟩ h
  ·simp at hlen ⊢;omega
  ·simp at hlen ⊢;omega
  ·intro e;subst e;simp at hlen;omega
 ·rintro y xs ⟨loc',mu'⟩ K ⟨us,acc,r,hx',hlen,hacc,l,l5',l6',l7',L⟩ hK
  dsimp only at l l5' l6' l7' L
  refine⟨L.H.rest _ _ (L.S _ _ g0),?_⟩
  cases us with
  |nil=>cases hx'
  |cons u us=>
  simp only[List.map_cons,List.cons.injEq]at hx'
  obtain⟨rfl,rfl⟩ := hx'
  kst_p
  refine law_f G rev text holds acc u (l.put (by decide)) (by simp[look_put,l5']) (by simp[look_put,l6']) (by simp[look_put,l7']) (by simp[look_put,eN]) L (R01 _ _ mK) (R01 _ _ mA) (by simp at hlen;omega) fun loc'' mu'' r'' z k1 k2 k3 k4 k5 k6=>?_
  exact hK _ ⟨us,acc++[z],r'',rfl,by simp at hlen ⊢;omega,fun w hw=>by
   rcases List.mem_append.mp hw with hw|hw
   ·exact hacc w hw
   ·rw[List.mem_singleton]at hw;subst hw;exact k5,k1,k2,k3,k4,k6⟩
 ·refine⟨by simp[puts,look_put],by simp[puts,look_put],by simp[puts,look_put,l2],by simp[puts,look_put,l3],by simp[puts,look_put,l4],by simp[puts,look_put,l5],by simp[puts,look_put,l8]⟩
 ·simp[puts,look_put]
 ·simp[puts,look_put,l6]
 ·simp[puts,look_put,l7]
end
section
def octL: List Nat := [97,98,65,66,10,255]
theorem digits_len: ∀(bs: List Nat) (N: Nat),(digits N bs).length=bs.length
 |[],_=>rfl
 |_::r,N=>by simp[digits,digits_len r]
theorem digits_lt: ∀(bs: List Nat) (N B: Nat),(∀ b∈bs,0<b/\b<=B)->∀ x∈digits N bs,x<B
 |[],_,_,_,x,h=>by simp[digits]at h
 |b::r,N,B,hb,x,h=>by
  simp only[digits,List.mem_cons]at h
  rcases h with rfl|h
  ·have := hb b (List.mem_cons_self ..)
   exact Nat.lt_of_lt_of_le (Nat.mod_lt _ this.1) this.2
  ·exact digits_lt r _ B (fun b h=>hb b (List.mem_cons_of_mem _ h)) x h
theorem rep_flat (k: Nat) (d: DV): (List.replicate k [d]).flatten=List.replicate k d := by
 induction k with
 |zero=>rfl
 |succ k ih=>rw[List.replicate_succ,List.flatten_cons,ih];rfl
def textOf (c0: Nat): List Nat := (digits (c0 / 10) (List.replicate (c0 / 2 % 5) 6)).map fun d=>octL.getD d 97
def holdsOf (c1: Nat): List Nat := digits c1 (List.replicate 5 64)
theorem text_ok (c0 c1: Nat): TextOk (textOf c0) (holdsOf c1) := by
 refine⟨?_,?_,by simp[holdsOf,digits_len]⟩
 ·unfold textOf;rw[List.length_map,digits_len,List.length_replicate];omega
 ·intro x hx
  unfold textOf at hx
  obtain⟨d,hd,rfl⟩ := List.mem_map.mp hx
  have: ∀ d: Nat,octL.getD d 97<256 := by
   intro d
   by_cases h: d<6
   ·have: ∀ p: Fin 6,octL.getD p.1 97<256 := by decide
    exact this ⟨d,h⟩
   ·rw[List.getD_eq_getElem?_getD,List.getElem?_eq_none (by simp[octL];omega)];decide
  exact this d
variable {W: Wd} (G: Gd W) {n: Nat} {m: Mt} {Q X: DV->Mt->Prop} {is: List Ins} {aN aP: Addr}
include G
theorem law_t2 {loc: Loc} {mu: Mt} {aC aK aA aQ: Addr} {Inv: List Nat->List Nat->List Ins->List Item->Prop} (LI: LawInv Inv) (cells: List Nat) (hc3: 3<=cells.length) (hc: cells.length<=20)
  (l1: look loc 32358870424=some (.ref aC)) (l2: look loc 129906622853851102991730=some (.ref aN)) (l3: look loc 1156415915808219961899=some (.ref aP)) (l4: look loc 149197142690429954922783=some (.ref aQ)) (l6: look loc 149177348187315714245916=some (.ref aK)) (l7: look loc 1007032309778334464532=some (.ref aA))
  (mC: mu aC=some (.lst (cells.map eN))) (mN: mu aN=some (.dS neededL)) (mP: mu aP=some (.lst (pairsL.map eP3))) (mQ: mu aQ=some (.lst (octL.map eN))) (mK: mu aK=some (.lst (ordersL.map eO))) (mA: mu aA=some (.lst (askedL.map eN))) (S: Sub m mu) (h: Q (.bool true) m) :
  wpSs W 45 T0 (n+8) c_law_t2 (fun r σ=>∃ m' d',Fz σ.mu (r.getD .none) m' d'/\Q d' m') (fun d σ=>X d σ.mu) ⟨loc,mu⟩ := by
 have c0: (cells.map eN)[0]?=some (eN (cells.getD 0 0)) := by rw[List.getElem?_map,List.getElem?_eq_getElem (by omega),List.getD_eq_getElem?_getD,List.getElem?_eq_getElem (by omega)];rfl
 have c1: (cells.map eN)[1]?=some (eN (cells.getD 1 0)) := by rw[List.getElem?_map,List.getElem?_eq_getElem (by omega),List.getD_eq_getElem?_getD,List.getElem?_eq_getElem (by omega)];rfl
 generalize cells.getD 0 0=C0 at c0
 generalize cells.getD 1 0=C1 at c1
 unfold c_law_t2
 (kst_p;repeat (simp only[bs,l1];kst_p))
 refine subW_of (asL_ref mC) (k := 0) (by omega) c0 ?_
 kst_p
 (intro a ha;(try dsimp only at ha);kst_p)
 have S1: Sub mu (mu.set a (.lst [.int 2,.int 5])) := Sub.rfl.new ha
 have na: asL (mu.set a (.lst [.int 2,.int 5])) (.ref a)=some ([2,5].map eN) := asL_new
 generalize mu.set a (.lst [.int 2,.int 5])=mu1 at S1 na ⊢
 refine sp_digits G [2,5] C0 na (by decide) (by decide) ?_
 have ed: digits C0 [2,5]=[C0 % 2,C0 / 2 % 5] := rfl
 rw[ed]
 (kst_p;repeat (simp only[bs,List.map_cons,List.map_nil,eN,l1];kst_p))
 refine subW_of (asL_ref (S1 _ _ mC)) (k := 0) (by omega) c0 ?_
 kst_p
 refine⟨by omega,bigI_of (k := 10) (by omega),?_⟩
 kst_p
 (intro b hb;(try dsimp only at hb);kst_p)
 have S2 := S1.trans (Sub.rfl.new (o := .lst [.int 6]) hb)
 have nb: asL (mu1.set b (.lst [.int 6])) (.ref b)=some [.int 6] := asL_new
 generalize mu1.set b (.lst [.int 6])=mu2 at S2 nb ⊢
 (kst_p;repeat (simp only[bs,l1,nb];kst_p))
 refine⟨by omega,by omega,?_⟩
 rw[Int.toNat_natCast,rep_flat]
 refine⟨small_of (by simp;omega),?_⟩
 (intro c hc';(try dsimp only at hc');kst_p)
 have e1: List.replicate (C0 / 2 % 5) (DV.int 6)=(List.replicate (C0 / 2 % 5) 6).map eN := by rw[List.map_replicate];rfl
 rw[e1]
 have S3 := S2.trans (Sub.rfl.new (o := .lst ((List.replicate (C0 / 2 % 5) 6).map eN)) hc')
 have nc: asL (mu2.set c (.lst ((List.replicate (C0 / 2 % 5) 6).map eN))) (.ref c)=some ((List.replicate (C0 / 2 % 5) 6).map eN) := asL_new
 generalize mu2.set c (.lst ((List.replicate (C0 / 2 % 5) 6).map eN))=mu3 at S3 nc ⊢
 refine sp_digits G (List.replicate (C0 / 2 % 5) 6) (C0 / 10) nc (fun b hb=>by have := List.eq_of_mem_replicate hb;omega) (by simp;omega) ?_
 kst_p
 have dl: (digits (C0 / 10) (List.replicate (C0 / 2 % 5) 6)).length=C0 / 2 % 5 := by rw[digits_len,List.length_replicate]
 have dlt := digits_lt (List.replicate (C0 / 2 % 5) 6) (C0 / 10) 6 (fun b hb=>by have := List.eq_of_mem_replicate hb;omega)
 refine⟨trivial,small_of (by rw[List.length_map,dl];omega),?_⟩
 refine compW_of eN (fun d=>.int ((octL.getD d 97: Nat): Int)) trivial ?_ ?_
 ·intro d hd K hK
  have := dlt d hd
  (kst_p;repeat (simp only[bs,l4];kst_p))
  refine subW_of (asL_ref (S3 _ _ mQ)) (k := d) (d := eN (octL.getD d 97)) (by omega) (by rw[List.getElem?_map,List.getElem?_eq_getElem (by simp[octL];omega),List.getD_eq_getElem?_getD,List.getElem?_eq_getElem (by simp[octL];omega)];rfl) ?_
  exact⟨_,_,.refl,hK⟩
 (intro d hd;(try dsimp only at hd);kst_p)
 have e2: ((digits (C0 / 10) (List.replicate (C0 / 2 % 5) 6)).map fun d=>DV.int ((octL.getD d 97: Nat): Int))=((textOf C0).map fun x: Nat=>(x: Int)).map .int := by
  unfold textOf;rw[List.map_map,List.map_map];rfl
 rw[e2]
 have S4 := S3.trans (Sub.rfl.new (o := .lst (((textOf C0).map fun x: Nat=>(x: Int)).map .int)) hd)
 have nd: asL (mu3.set d (.lst (((textOf C0).map fun x: Nat=>(x: Int)).map .int))) (.ref d)=some (((textOf C0).map fun x: Nat=>(x: Int)).map .int) := asL_new
 generalize mu3.set d (.lst (((textOf C0).map fun x: Nat=>(x: Int)).map .int))=mu4 at S4 nd ⊢
 have tk := text_ok C0 C1
 (kst_p;repeat (simp only[bs,nd,allInts_map];kst_p))
 refine⟨small_of (by have := tk.len;simp;omega),fun i hi=>?_,?_⟩
 ·obtain⟨x,hx,rfl⟩ := List.mem_map.mp hi
  have := tk.byte x hx
  omega
 have e3: DV.bytes (((textOf C0).map fun x: Nat=>(x: Int)).map fun i=>UInt8.ofNat i.toNat).toArray=eB (textOf C0) := by
  rw[List.map_map];rfl
 rw[e3]
 (kst_p;repeat (simp only[bs,l1];kst_p))
 refine subW_of (asL_ref (S4 _ _ mC)) (k := 1) (by omega) c1 ?_
 kst_p
 (intro e he;(try dsimp only at he);kst_p)
 have S5 := S4.trans (Sub.rfl.new (o := .lst [.int 64]) he)
 have ne: asL (mu4.set e (.lst [.int 64])) (.ref e)=some [.int 64] := asL_new
 generalize mu4.set e (.lst [.int 64])=mu5 at S5 ne ⊢
 (kst_p;repeat (simp only[bs,ne];kst_p))
 refine⟨by omega,by omega,?_⟩
 have e5: (List.replicate (Int.toNat 5) [DV.int 64]).flatten=(List.replicate 5 64).map eN := rfl
 rw[e5]
 refine⟨small_of (by simp),?_⟩
 (intro f hf;(try dsimp only at hf);kst_p)
 have S6 := S5.trans (Sub.rfl.new (o := .lst ((List.replicate 5 64).map eN)) hf)
 have nf: asL (mu5.set f (.lst ((List.replicate 5 64).map eN))) (.ref f)=some ((List.replicate 5 64).map eN) := asL_new
 generalize mu5.set f (.lst ((List.replicate 5 64).map eN))=mu6 at S6 nf ⊢
 refine sp_digits G (List.replicate 5 64) C1 nf (by decide) (by decide) ?_
 kst_p
 have er: ((C0 % 2: Nat): Int)=((if decide (C0 % 2=1)=true then 1 else 0: Nat): Int) := by
  by_cases h: C0 % 2=1<;>simp[h];omega
 rw[er]
 exact law_t3 G LI cells (decide (C0 % 2=1)) (textOf C0) (holdsOf C1) tk hc3 hc (by simp[look_put,l1]) (by simp[look_put,l2]) (by simp[look_put,l3]) (by simp[look_put]) (by simp[look_put];rfl) (by simp[look_put,l6]) (by simp[look_put,l7]) (by simp[look_put])
  (S6 _ _ mC) (S6 _ _ mN) (S6 _ _ mP) (S6 _ _ mK) (S6 _ _ mA) (S.trans S6) h
end
section
def restL: List Nat := [66,0,0,16,3,6,4]
def cellOf (i: Int): Nat := (i % 1000000000000).toNat
def cellsOf (sc: List Int): List Nat := (sc.take 12).map cellOf++restL.drop ((sc.take 12).map cellOf).length
theorem cells_len (sc: List Int): 3<=(cellsOf sc).length/\(cellsOf sc).length<=20 := by
 unfold cellsOf
 simp only[List.length_append,List.length_map,List.length_take,List.length_drop,restL,List.length_cons,List.length_nil]
 omega
variable {W: Wd} (G: Gd W) {n: Nat} {m: Mt} {Q X: DV->Mt->Prop} {is: List Ins} {aN aP: Addr}
include G
theorem law_t1 {loc: Loc} {mu: Mt} {aR aK aA aQ: Addr} {Inv: List Nat->List Nat->List Ins->List Item->Prop} (LI: LawInv Inv) (sc: List Int) (hsc: sc.length<=1000)
  (l0: look loc 4211118804251=some (.lst (sc.map .int))) (l1: look loc 9041727382494137289=some (.ref aR)) (l2: look loc 129906622853851102991730=some (.ref aN)) (l3: look loc 1156415915808219961899=some (.ref aP)) (l4: look loc 149197142690429954922783=some (.ref aQ)) (l6: look loc 149177348187315714245916=some (.ref aK)) (l7: look loc 1007032309778334464532=some (.ref aA))
  (mR: mu aR=some (.lst (restL.map eN))) (mN: mu aN=some (.dS neededL)) (mP: mu aP=some (.lst (pairsL.map eP3))) (mQ: mu aQ=some (.lst (octL.map eN))) (mK: mu aK=some (.lst (ordersL.map eO))) (mA: mu aA=some (.lst (askedL.map eN))) (S: Sub m mu) (h: Q (.bool true) m) :
  wpSs W 45 T0 (n+8) c_law_t1 (fun r σ=>∃ m' d',Fz σ.mu (r.getD .none) m' d'/\Q d' m') (fun d σ=>X d σ.mu) ⟨loc,mu⟩ := by
 unfold c_law_t1
 (kst_p;repeat (simp only[bs,l0];kst_p))
 refine⟨small_of (by simp;omega),?_⟩
 have e0: List.drop 0 (List.take 12 (sc.map DV.int))=(sc.take 12).map .int := by rw[List.drop_zero,List.map_take]
 rw[e0]
 (intro a ha;(try dsimp only at ha);kst_p)
 have S1: Sub mu (mu.set a (.lst ((sc.take 12).map .int))) := Sub.rfl.new ha
 have na: asL (mu.set a (.lst ((sc.take 12).map .int))) (.ref a)=some ((sc.take 12).map .int) := asL_new
 generalize mu.set a (.lst ((sc.take 12).map .int))=mu1 at S1 na ⊢
 (kst_p;repeat (simp only[bs,iterL_of na];kst_p))
 refine⟨trivial,small_of (by simp;omega),?_⟩
 refine compW_of .int (fun i=>eN (cellOf i)) (guardL_of na) ?_ ?_
 ·intro i _ K hK
  kst_p
  refine⟨rfl,rfl,?_⟩
  kst_p
  refine⟨by omega,?_⟩
  refine⟨_,_,.refl,?_⟩
  have: i % 1000000000000=((cellOf i: Nat): Int) := by unfold cellOf;omega
  rw[this];exact hK
 (intro b hb;(try dsimp only at hb);kst_p)
 have e1: ((sc.take 12).map fun i=>eN (cellOf i))=((sc.take 12).map cellOf).map eN := by rw[List.map_map];rfl
 rw[e1]
 have S2 := S1.trans (Sub.rfl.new (o := .lst (((sc.take 12).map cellOf).map eN)) hb)
 have nb: asL (mu1.set b (.lst (((sc.take 12).map cellOf).map eN))) (.ref b)=some (((sc.take 12).map cellOf).map eN) := asL_new
 generalize mu1.set b (.lst (((sc.take 12).map cellOf).map eN))=mu2 at S2 nb ⊢
 have hl: ((sc.take 12).map cellOf).length<=12 := by simp;omega
 have ec: cellsOf sc=(sc.take 12).map cellOf++restL.drop ((sc.take 12).map cellOf).length := rfl
 have cl := cells_len sc
 generalize (sc.take 12).map cellOf=cs at nb hl ec ⊢
 (kst_p;repeat (simp only[bs,l1,lenV_of nb];kst_p))
 simp only[List.length_map]
 refine⟨small_of (by omega),?_⟩
 (kst_p;repeat (simp only[bs,asL_ref (S2 _ _ mR)];kst_p))
 refine⟨small_of (by simp[restL]),?_⟩
 have e2: List.drop cs.length (List.take (restL.map eN).length (restL.map eN))=(restL.drop cs.length).map eN := by rw[List.take_length,List.map_drop]
 rw[e2]
 (intro c hc;(try dsimp only at hc);kst_p)
 have S3 := S2.trans (Sub.rfl.new (o := .lst ((restL.drop cs.length).map eN)) hc)
 have nc: asL (mu2.set c (.lst ((restL.drop cs.length).map eN))) (.ref c)=some ((restL.drop cs.length).map eN) := asL_new
 have nb := asL_sub (Sub.rfl.new (o := .lst ((restL.drop cs.length).map eN)) hc) nb
 generalize mu2.set c (.lst ((restL.drop cs.length).map eN))=mu3 at S3 nb nc ⊢
 (kst_p;repeat (simp only[bs,nb,nc];kst_p))
 refine⟨small_of (by rw[ec]at cl;simp at cl ⊢;omega),?_⟩
 have e3: cs.map eN++(restL.drop cs.length).map eN=(cellsOf sc).map eN := by rw[ec,List.map_append]
 rw[e3]
 (intro d hd;(try dsimp only at hd);kst_p)
 have S4 := S3.trans (Sub.rfl.new (o := .lst ((cellsOf sc).map eN)) hd)
 have md: (mu3.set d (.lst ((cellsOf sc).map eN))) d=some (.lst ((cellsOf sc).map eN)) := Mt.set_self _ _ _
 generalize mu3.set d (.lst ((cellsOf sc).map eN))=mu4 at S4 md ⊢
 refine law_t2 G LI (cellsOf sc) cl.1 cl.2 (by simp[look_put]) (by simp[look_put,l2]) (by simp[look_put,l3]) (by simp[look_put,l4]) (by simp[look_put,l6]) (by simp[look_put,l7]) md (S4 _ _ mN) (S4 _ _ mP) (S4 _ _ mQ) (S4 _ _ mK) (S4 _ _ mA) (S.trans S4) h
theorem sp_law {Inv: List Nat->List Nat->List Ins->List Item->Prop} (LI: LawInv Inv) (sc: List Int) (hsc: sc.length<=1000) (h: Q (.bool true) m): CallOk W 45 (n+9) 421 [.lst (sc.map .int)] m Q X := by
 refine G.fn G.k_law .nil rfl ?_
 unfold c_law
 kst_p
 (intro a1 h1;(try dsimp only at h1);kst_p)
 have S1: Sub m (m.set a1 (.lst (restL.map eN))) := Sub.rfl.new h1
 have m1: (m.set a1 (.lst (restL.map eN))) a1=some (.lst (restL.map eN)) := Mt.set_self _ _ _
 have f1: m.set a1 (.lst [.int 66,.int 0,.int 0,.int 16,.int 3,.int 6,.int 4])=m.set a1 (.lst (restL.map eN)) := rfl
 rw[f1]
 generalize m.set a1 (.lst (restL.map eN))=mu1 at S1 m1 ⊢
 (intro a2 h2;(try dsimp only at h2);kst_p)
 have f2: mu1.set a2 (.lst [.str 28471249426,.str 1959739,.str 28471249426,.str 1961156,.str 248515262,.str 28471249426,.str 474184994492923,.str 32650705719,.str 250993736,.str 28471249426,.str 34037648820,.str 1959739])=mu1.set a2 (.lst ((ordersL.take 12).map eO)) := rfl
 rw[f2]
 have S2 := S1.trans (Sub.rfl.new (o := .lst ((ordersL.take 12).map eO)) h2)
 have T2: Sub mu1 (mu1.set a2 (.lst ((ordersL.take 12).map eO))) := Sub.rfl.new h2
 have m2: (mu1.set a2 (.lst ((ordersL.take 12).map eO))) a2=some (.lst ((ordersL.take 12).map eO)) := Mt.set_self _ _ _
 generalize mu1.set a2 (.lst ((ordersL.take 12).map eO))=mu2 at S2 T2 m2 ⊢
 (intro a3 h3;(try dsimp only at h3);kst_p)
 have f3: mu2.set a3 (.lst [.str 1894992,.str 220823988,.str 1961156,.str 474184994492923])=mu2.set a3 (.lst ((ordersL.drop 12).map eO)) := rfl
 rw[f3]
 have S3 := S2.trans (Sub.rfl.new (o := .lst ((ordersL.drop 12).map eO)) h3)
 have T3: Sub mu2 (mu2.set a3 (.lst ((ordersL.drop 12).map eO))) := Sub.rfl.new h3
 have m3: (mu2.set a3 (.lst ((ordersL.drop 12).map eO))) a3=some (.lst ((ordersL.drop 12).map eO)) := Mt.set_self _ _ _
 generalize mu2.set a3 (.lst ((ordersL.drop 12).map eO))=mu3 at S3 T3 m3 ⊢
 (kst_p;repeat (simp only[bs,asL_ref (T3 _ _ m2),asL_ref m3];kst_p))
 refine⟨small_of (by simp[ordersL]),?_⟩
 have eo: (ordersL.take 12).map eO++(ordersL.drop 12).map eO=ordersL.map eO := by rw[<-List.map_append,List.take_append_drop]
 rw[eo]
 (intro a4 h4;(try dsimp only at h4);kst_p)
 have S4 := S3.trans (Sub.rfl.new (o := .lst (ordersL.map eO)) h4)
 have T4: Sub mu3 (mu3.set a4 (.lst (ordersL.map eO))) := Sub.rfl.new h4
 have m4: (mu3.set a4 (.lst (ordersL.map eO))) a4=some (.lst (ordersL.map eO)) := Mt.set_self _ _ _
 generalize mu3.set a4 (.lst (ordersL.map eO))=mu4 at S4 T4 m4 ⊢
 (intro a5 h5;(try dsimp only at h5);kst_p)
 have f5: mu4.set a5 (.dS (dctV [(1959739,2),(1961156,2),(248515262,1),(32650705719,1),(250993736,1),(474184994492923,1)]))=mu4.set a5 (.dS (neededL)) := rfl
 rw[f5]
 have S5 := S4.trans (Sub.rfl.new (o := .dS (neededL)) h5)
 have T5: Sub mu4 (mu4.set a5 (.dS (neededL))) := Sub.rfl.new h5
 have m5: (mu4.set a5 (.dS (neededL))) a5=some (.dS (neededL)) := Mt.set_self _ _ _
 generalize mu4.set a5 (.dS (neededL))=mu5 at S5 T5 m5 ⊢
 (intro a6 h6;(try dsimp only at h6);kst_p)
 have f6: mu5.set a6 (.lst [.tup [.int 97,.int 97,.bool false],.tup [.int 98,.int 98,.bool false],.tup [.int 97,.int 98,.bool false],.tup [.int 97,.int 97,.bool true],.tup [.int 0,.int 255,.bool false],.tup [.int 98,.int 122,.bool true]])=mu5.set a6 (.lst ((pairsL.take 6).map eP3)) := rfl
 rw[f6]
 have S6 := S5.trans (Sub.rfl.new (o := .lst ((pairsL.take 6).map eP3)) h6)
 have T6: Sub mu5 (mu5.set a6 (.lst ((pairsL.take 6).map eP3))) := Sub.rfl.new h6
 have m6: (mu5.set a6 (.lst ((pairsL.take 6).map eP3))) a6=some (.lst ((pairsL.take 6).map eP3)) := Mt.set_self _ _ _
 generalize mu5.set a6 (.lst ((pairsL.take 6).map eP3))=mu6 at S6 T6 m6 ⊢
 (intro a7 h7;(try dsimp only at h7);kst_p)
 have f7: mu6.set a7 (.lst [.tup [.int 10,.int 65,.bool false]])=mu6.set a7 (.lst ((pairsL.drop 6).map eP3)) := rfl
 rw[f7]
 have S7 := S6.trans (Sub.rfl.new (o := .lst ((pairsL.drop 6).map eP3)) h7)
 have T7: Sub mu6 (mu6.set a7 (.lst ((pairsL.drop 6).map eP3))) := Sub.rfl.new h7
 have m7: (mu6.set a7 (.lst ((pairsL.drop 6).map eP3))) a7=some (.lst ((pairsL.drop 6).map eP3)) := Mt.set_self _ _ _
 generalize mu6.set a7 (.lst ((pairsL.drop 6).map eP3))=mu7 at S7 T7 m7 ⊢
 (kst_p;repeat (simp only[bs,asL_ref (T7 _ _ m6),asL_ref m7];kst_p))
 refine⟨small_of (by simp[pairsL]),?_⟩
 have ep: (pairsL.take 6).map eP3++(pairsL.drop 6).map eP3=pairsL.map eP3 := by rw[<-List.map_append,List.take_append_drop]
 rw[ep]
 (intro a8 h8;(try dsimp only at h8);kst_p)
 have S8 := S7.trans (Sub.rfl.new (o := .lst (pairsL.map eP3)) h8)
 have T8: Sub mu7 (mu7.set a8 (.lst (pairsL.map eP3))) := Sub.rfl.new h8
 have m8: (mu7.set a8 (.lst (pairsL.map eP3))) a8=some (.lst (pairsL.map eP3)) := Mt.set_self _ _ _
 generalize mu7.set a8 (.lst (pairsL.map eP3))=mu8 at S8 T8 m8 ⊢
 (intro a9 h9;(try dsimp only at h9);kst_p)
 have f9: mu8.set a9 (.lst [.int 97,.int 98,.int 65,.int 66,.int 10,.int 255])=mu8.set a9 (.lst (octL.map eN)) := rfl
 rw[f9]
 have S9 := S8.trans (Sub.rfl.new (o := .lst (octL.map eN)) h9)
 have T9: Sub mu8 (mu8.set a9 (.lst (octL.map eN))) := Sub.rfl.new h9
 have m9: (mu8.set a9 (.lst (octL.map eN))) a9=some (.lst (octL.map eN)) := Mt.set_self _ _ _
 generalize mu8.set a9 (.lst (octL.map eN))=mu9 at S9 T9 m9 ⊢
 (intro a10 h10;(try dsimp only at h10);kst_p)
 have f10: mu9.set a10 (.lst [.int 1,.int 2,.int 4,.int 8,.int 16,.int 32,.int 5,.int 10,.int 40,.int 63])=mu9.set a10 (.lst (askedL.map eN)) := rfl
 rw[f10]
 have S10 := S9.trans (Sub.rfl.new (o := .lst (askedL.map eN)) h10)
 have T10: Sub mu9 (mu9.set a10 (.lst (askedL.map eN))) := Sub.rfl.new h10
 have m10: (mu9.set a10 (.lst (askedL.map eN))) a10=some (.lst (askedL.map eN)) := Mt.set_self _ _ _
 generalize mu9.set a10 (.lst (askedL.map eN))=mu10 at S10 T10 m10 ⊢
 refine law_t1 G LI sc hsc (by simp[look_put,look_cons]) (by simp[look_put,look_cons]) (by simp[look_put,look_cons]) (by simp[look_put,look_cons]) (by simp[look_put,look_cons]) (by simp[look_put,look_cons]) (by simp[look_put,look_cons])
  ((T2.trans (T3.trans (T4.trans (T5.trans (T6.trans (T7.trans (T8.trans (T9.trans T10)))))))) _ _ m1) ((T6.trans (T7.trans (T8.trans (T9.trans T10)))) _ _ m5) ((T9.trans T10) _ _ m8) (T10 _ _ m9) ((T5.trans (T6.trans (T7.trans (T8.trans (T9.trans T10))))) _ _ m4) m10 S10 h
end
end Mine
end
section
namespace Mine
def ends (l: List Way): List Nat := l.map (·.1)
theorem mem_ends {l: List Way} {e: Nat}: e∈ends l↔∃ k,(e,k)∈l := by
 unfold ends
 rw[List.mem_map]
 constructor
 ·rintro⟨⟨a,k⟩,h,rfl⟩;exact⟨k,h⟩
 ·rintro⟨k,h⟩;exact⟨_,h,rfl⟩
theorem ends_append (a b: List Way): ends (a++b)=ends a++ends b := List.map_append
theorem snoc_ind {α: Type} {P: List α->Prop} (h0: P []) (h1: ∀ l x,P l->P (l++[x])) (l: List α): P l := by
 have: ∀ n (l: List α),l.length=n->P l := by
  intro n
  induction n with
  |zero=>intro l h;rw[List.eq_nil_of_length_eq_zero h];exact h0
  |succ n ih=>
   intro l h
   have hne: l≠[] := by intro e;rw[e]at h;simp at h
   rw[<-List.dropLast_concat_getLast hne]
   exact h1 _ _ (ih _ (by rw[List.length_dropLast,h];rfl))
 exact this _ l rfl
theorem firstGo_append: ∀(x: List Way) (met: List Nat) (y: List Way),firstGo met (x++y)=firstGo met x++firstGo (met++ends (firstGo met x)) y
 |[],met,y=>by simp[firstGo,ends]
 |(e,k)::r,met,y=>by
  simp only[List.cons_append,firstGo]
  split
  ·exact firstGo_append r met y
  ·rw[firstGo_append r,List.cons_append]
   congr 2
   simp[ends]
theorem firstGo_ends: ∀(l: List Way) (met: List Nat) (e: Nat),e∈ends (firstGo met l)↔e∈ends l/\e∉met
 |[],_,_=>by simp[firstGo,ends]
 |(a,k)::r,met,e=>by
  unfold firstGo
  split
  ·rename_i h
   rw[firstGo_ends r]
   have h: a∈met := by simpa using h
   simp only[ends,List.map_cons,List.mem_cons]
   constructor
   ·rintro⟨h1,h2⟩;exact⟨.inr h1,h2⟩
   ·rintro⟨h1|h1,h2⟩
    ·exact absurd (h1▸h) h2
    ·exact⟨h1,h2⟩
  ·rename_i h
   have h: a∉met := by simpa using h
   have ih := firstGo_ends r (met++[a]) e
   simp only[ends,List.map_cons,List.mem_cons]at ih ⊢
   rw[ih]
   simp only[List.mem_append,List.mem_singleton,not_or]
   constructor
   ·rintro(rfl|⟨h1,h2,h3⟩)
    ·exact⟨.inl rfl,h⟩
    ·exact⟨.inr h1,h2⟩
   ·rintro⟨h1|h1,h2⟩
    ·exact .inl h1
    ·by_cases e': e=a
     ·exact .inl e'
     ·exact .inr ⟨h1,h2,e'⟩
theorem first_ends (l: List Way) (e: Nat): e∈ends (first l)↔e∈ends l := by
 unfold first;rw[firstGo_ends];simp
theorem first_snoc (r: List Way) (w: Way): first (r++[w])=if w.1∈ends r then first r else first r++[w] := by
 unfold first
 rw[firstGo_append]
 obtain⟨e,k⟩ := w
 have: firstGo ([]++ends (firstGo [] r)) [(e,k)]=if e∈ends r then[]else[(e,k)] := by
  rw[List.nil_append]
  simp only[firstGo]
  have := first_ends r e
  unfold first at this
  by_cases h: e∈ends r
  ·rw[if_pos h,if_pos (by simpa using this.mpr h)]
  ·rw[if_neg h,if_neg (by simpa using fun q=>h (this.mp q))]
 rw[this]
 split<;>simp
theorem first_nil: first []=[] := rfl
theorem first_first (l: List Way): first (first l)=first l := by
 induction l using snoc_ind with
 |h0=>rfl
 |h1 r w ih=>
  rw[first_snoc]
  by_cases h: w.1∈ends r
  ·rw[if_pos h];exact ih
  ·rw[if_neg h,first_snoc,ih,if_neg (fun q=>h ((first_ends r _).mp q))]
theorem first_append (x y: List Way): first (x++y)=first (first x++first y) := by
 induction y using snoc_ind with
 |h0=>rw[List.append_nil,first_nil,List.append_nil,first_first]
 |h1 r w ih=>
  rw[<-List.append_assoc,first_snoc,first_snoc]
  by_cases h: w.1∈ends r
  ·rw[if_pos h,if_pos (by rw[ends_append];simp[h])];exact ih
  ·rw[if_neg h,<-List.append_assoc,first_snoc,<-ih]
   simp only[ends_append,List.mem_append,first_ends]
theorem first_sub_right {x y: List Way} (h: ∀ e∈ends y,e∈ends x): first (x++y)=first x := by
 induction y using snoc_ind with
 |h0=>rw[List.append_nil]
 |h1 r w ih=>
  rw[<-List.append_assoc,first_snoc,if_pos (by rw[ends_append];exact List.mem_append_left _ (h _ (by simp[ends])))]
  exact ih fun e he=>h e (by rw[ends_append];exact List.mem_append_left _ he)
theorem ends_flatMap {l: List Way} {f: Way->List Way} {e: Nat}: e∈ends (l.flatMap f)↔∃ w∈l,e∈ends (f w) := by
 constructor
 ·intro h
  obtain⟨k,h⟩ := mem_ends.mp h
  obtain⟨w,hw,h⟩ := List.mem_flatMap.mp h
  exact⟨w,hw,mem_ends.mpr ⟨k,h⟩⟩
 ·rintro⟨w,hw,h⟩
  obtain⟨k,h⟩ := mem_ends.mp h
  exact mem_ends.mpr ⟨k,List.mem_flatMap.mpr ⟨w,hw,h⟩⟩
theorem first_bind {L G: Way->List Way}: ∀{l: List Way},(∀ w∈l,first (L w)=first (G w))->(∀ e k k',∀ x,x∈ends (G (e,k))->x∈ends (G (e,k')))->first (l.flatMap L)=first ((first l).flatMap G) := by
 intro l
 induction l using snoc_ind with
 |h0=>intro _ _;rfl
 |h1 r w ih=>
  intro h he
  have ih := ih (fun x hx=>h x (List.mem_append_left _ hx)) he
  have hw := h w (by simp)
  rw[List.flatMap_append,first_snoc]
  have e1: List.flatMap L [w]=L w := by simp
  rw[e1]
  by_cases hm: w.1∈ends r
  ·rw[if_pos hm,first_sub_right]
   ·exact ih
   ·intro x hx
    obtain⟨k,hk⟩ := mem_ends.mp hm
    refine ends_flatMap.mpr ⟨_,hk,?_⟩
    have hk' := h _ (List.mem_append_left _ hk)
    rw[<-first_ends,hk',first_ends]
    rw[<-first_ends,hw,first_ends]at hx
    exact he w.1 w.2 k x hx
  ·rw[if_neg hm,List.flatMap_append]
   have e2: List.flatMap G [w]=G w := by simp
   rw[e2,first_append,ih,hw,<-first_append]
theorem first_map {g: Way->Way} (hg: ∀ w,(g w).1=w.1) (l: List Way): first (l.map g)=(first l).map g := by
 induction l using snoc_ind with
 |h0=>rfl
 |h1 r w ih=>
  have e: ends (r.map g)=ends r := by
   unfold ends;rw[List.map_map];exact List.map_congr_left fun x _=>hg x
  rw[List.map_append,List.map_singleton,first_snoc,first_snoc,ih,hg,e]
  split
  ·rfl
  ·rw[List.map_append,List.map_singleton]
theorem first_shift (k: Kept) (l: List Way): first (shift k l)=shift k (first l) := first_map (g := fun p=>(p.1,kept k p.2)) (fun _=>rfl) l
theorem ends_shift (k: Kept) (l: List Way): ends (shift k l)=ends l := by
 unfold ends shift;rw[List.map_map];rfl
theorem kept_assoc: ∀(a b c: Kept),kept a (kept b c)=kept (kept a b) c
 |[],_,_=>by simp[kept]
 |_::_,[],c=>by simp[kept]
 |_::_,_::_,[]=>by simp[kept]
 |x::a,y::b,z::c=>by
  have ih := kept_assoc a b c
  unfold kept at ih ⊢
  simp only[List.zip_cons_cons,List.map_cons,List.cons.injEq]
  refine⟨?_,ih⟩
  by_cases h: 0<=z
  ·simp[h]
  ·simp[h]
theorem shift_shift (k k': Kept) (l: List Way): shift k (shift k' l)=shift (kept k k') l := by
 unfold shift;rw[List.map_map]
 exact List.map_congr_left fun x _=>by simp[kept_assoc]
theorem kept_none: ∀{k: Kept},k.length<=4->kept k kNone=k := by
 intro k h
 match k,h with
 |[],_=>rfl
 |[a],_=>rfl
 |[a,b],_=>rfl
 |[a,b,c],_=>rfl
 |[a,b,c,d],_=>rfl
theorem shift_none_single {k: Kept} (h: k.length<=4) (a: Nat): shift k [(a,kNone)]=[(a,k)] := by
 simp[shift,kept_none h]
theorem shift_append (k: Kept) (a b: List Way): shift k (a++b)=shift k a++shift k b := List.map_append
theorem shift_joined (k: Kept) (l: List Way) (t: Table): shift k (joined l t)=first ((shift k l).flatMap fun w=>shift w.2 (row t w.1)) := by
 unfold joined joinedAll
 rw[<-first_shift]
 congr 1
 unfold shift
 rw[List.map_flatMap,List.flatMap_map]
 congr 1
 funext p
 exact shift_shift k p.2 (row t p.1)
section
section
variable (I: List Ins) (text holds: List Nat)
def outs (v a: Nat) (k: Kept): List (Nat×Nat×Kept) :=
 if(insAt I v).op=0 then[(2 * v,a,k),(2 * v+1,a,k)]else
 if(insAt I v).op=5||((insAt I v).op=3&&emptyAt (insAt I v).arg holds a)then[(2 * v,a,k)]else
 if(insAt I v).op=2 then[(2 * v,a,kept k (kMark ((insAt I v).arg-2) a))]else
 if(insAt I v).op=1&&rangeAt (insAt I v).low (insAt I v).high (insAt I v).fold text a then[(2 * v,a+1,k)]else[]
def goes (s: Nat×Nat×Kept): Conf := (wayP I s.1,s.2.1,s.2.2)
theorem wayP_even (v: Nat): wayP I (2 * v)=(insAt I v).out := by
 unfold wayP;rw[if_pos (by omega)];congr 2;omega
theorem wayP_odd (v: Nat): wayP I (2 * v+1)=(insAt I v).arg := by
 unfold wayP;rw[if_neg (by omega)];congr 2;omega
theorem ways_outs (v a: Nat) (k: Kept): ways (insAt I v) a k text holds=(outs I text holds v a k).map (goes I) := by
 unfold ways outs goes
 split
 ·simp[wayP_even,wayP_odd]
 ·split
  ·simp[wayP_even]
  ·split
   ·simp[wayP_even]
   ·split<;>simp[wayP_even]
theorem outs_any {v a: Nat} {k: Kept} (k': Kept) {s: Nat×Nat×Kept} (h: s∈outs I text holds v a k): ∃ u,(s.1,s.2.1,u)∈outs I text holds v a k' := by
 unfold outs at h ⊢
 split at h
 ·rw[if_pos (by assumption)];simp at h;rcases h with rfl|rfl<;>simp
 ·rw[if_neg (by assumption)]
  split at h
  ·rw[if_pos (by assumption)];simp at h;subst h;simp
  ·rw[if_neg (by assumption)]
   split at h
   ·rw[if_pos (by assumption)];simp at h;subst h;simp
   ·rw[if_neg (by assumption)]
    split at h
    ·rw[if_pos (by assumption)];simp at h;subst h;simp
    ·simp at h
theorem outs_half {v a: Nat} {k: Kept} {s: Nat×Nat×Kept} (h: s∈outs I text holds v a k): s.1 / 2=v/\(s.1 % 2=1->(insAt I v).op=0)/\a<=s.2.1/\(a<=text.length->s.2.1<=text.length) := by
 unfold outs at h
 split at h
 ·rename_i h0
  simp at h;rcases h with rfl|rfl
  ·exact⟨by simp,fun _=>h0,by simp,fun h=>h⟩
  ·exact⟨by simp;omega,fun _=>h0,by simp,fun h=>h⟩
 ·split at h
  ·simp at h;subst h;exact⟨by simp,by simp,by simp,fun h=>h⟩
  ·split at h
   ·simp at h;subst h;exact⟨by simp,by simp,by simp,fun h=>h⟩
   ·split at h
    ·rename_i hr
     simp at h;subst h
     simp[rangeAt]at hr
     exact⟨by simp,by simp,by simp,fun _=>by simp;omega⟩
    ·simp at h
theorem outs_kept {v a: Nat} {k: Kept} (hk: k.length<=4) {s: Nat×Nat×Kept} (h: s∈outs I text holds v a k): s.2.2.length<=4 := by
 unfold outs at h
 split at h
 ·simp at h;rcases h with rfl|rfl<;>exact hk
 ·split at h
  ·simp at h;subst h;exact hk
  ·split at h
   ·simp at h;subst h;exact kept_len (by simp[kMark_len])
   ·split at h
    ·simp at h;subst h;exact hk
    ·simp at h
theorem outs_len (v a: Nat) (k: Kept): (outs I text holds v a k).length<=2 := by
 unfold outs
 split
 ·simp
 ·split
  ·simp
  ·split
   ·simp
   ·split<;>simp
inductive Rch: Nat×Nat->Nat->Prop
 |here {v a}: (insAt I v).op=4->Rch (v,a) a
 |step {v a k s e}: s∈outs I text holds v a k->Rch (wayP I s.1,s.2.1) e->Rch (v,a) e
inductive Star: Nat×Nat->Nat×Nat->Prop
 |refl {x}: Star x x
 |step {v a k s y}: s∈outs I text holds v a k->Star (wayP I s.1,s.2.1) y->Star (v,a) y
theorem Star.rch {x y: Nat×Nat} {e: Nat} (h: Star I text holds x y) (r: Rch I text holds y e): Rch I text holds x e := by
 induction h with
 |refl=>exact r
 |step hs _ ih=>exact .step hs (ih r)
def Rel (y x: Nat×Nat): Prop := ∃ k,∃ s∈outs I text holds x.1 x.2 k,y=(wayP I s.1,s.2.1)
theorem Star.last {x y z: Nat×Nat} (h: Star I text holds x y) (r: Rel I text holds z y): Star I text holds x z := by
 induction h with
 |refl=>
  rename_i x
  obtain⟨v,a⟩ := x
  obtain⟨k,s,hs,rfl⟩ := r
  exact .step hs .refl
 |step hs _ ih=>exact .step hs (ih r)
theorem acc_no {x: Nat×Nat} (h: Acc (Rel I text holds) x): ∀ y,Rel I text holds y x->¬ Star I text holds y x := by
 induction h with
 |intro x _ ih=>
  intro y hy hs
  cases hs with
  |refl=>exact ih x hy x hy .refl
  |step h1 h2=>
   rename_i v a k s
   have hz: Rel I text holds (wayP I s.1,s.2.1) (v,a) := ⟨k,s,h1,rfl⟩
   exact ih (v,a) hy _ hz (h2.last I text holds hy)
def key (c: Conf): Nat×Nat := (c.1,c.2.1)
inductive EnL: List Conf->List Way->Prop
 |nil: EnL [] []
 |cons {v a k r l1 l2}: EnL (ways (insAt I v) a k text holds) l1->EnL r l2->EnL ((v,a,k)::r) ((if(insAt I v).op=4 then[(a,k)]else[])++l1++l2)
variable {I text holds}
theorem EnL_ends {S: List Conf} {l: List Way} (h: EnL I text holds S l) (e: Nat): e∈ends l↔∃ c∈S,Rch I text holds (key c) e := by
 induction h with
 |nil=>simp[ends]
 |cons h1 h2 ih1 ih2=>
  rename_i v a k r l1 l2
  rw[ends_append,ends_append,List.mem_append,List.mem_append,ih1,ih2]
  constructor
  ·rintro((h|⟨c,hc,h⟩)|⟨c,hc,h⟩)
   ·split at h
    ·simp[ends]at h;subst h
     exact⟨_,List.mem_cons_self ..,.here (by assumption)⟩
    ·simp[ends]at h
   ·rw[ways_outs]at hc
    obtain⟨s,hs,rfl⟩ := List.mem_map.mp hc
    exact⟨_,List.mem_cons_self ..,.step hs h⟩
   ·exact⟨c,List.mem_cons_of_mem _ hc,h⟩
  ·rintro⟨c,hc,h⟩
   rcases List.mem_cons.mp hc with rfl|hc
   ·left
    cases h with
    |here h4=>left;rw[if_pos h4];simp[ends]
    |step hs hr=>
     right
     rename_i k' s
     obtain⟨u,hu⟩ := outs_any I text holds k hs
     exact⟨goes I (s.1,s.2.1,u),by rw[ways_outs];exact List.mem_map.mpr ⟨_,hu,rfl⟩,hr⟩
   ·exact .inr ⟨c,hc,h⟩
theorem EnL_acc {S: List Conf} {l: List Way} (h: EnL I text holds S l): ∀ c∈S,Acc (Rel I text holds) (key c) := by
 induction h with
 |nil=>intro c hc;simp at hc
 |cons h1 h2 ih1 ih2=>
  rename_i v a k r l1 l2
  intro c hc
  rcases List.mem_cons.mp hc with rfl|hc
  ·refine⟨_,fun y hy=>?_⟩
   obtain⟨k',s,hs,rfl⟩ := hy
   obtain⟨u,hu⟩ := outs_any I text holds k hs
   exact ih1 (goes I (s.1,s.2.1,u)) (by rw[ways_outs];exact List.mem_map.mpr ⟨_,hu,rfl⟩)
  ·exact ih2 c hc
def Uni (I: List Ins): Prop := ∀ n n',(insAt I n).op=4->(insAt I n').op=4->n=n'
theorem dfs_first (hu: Uni I) {S: List Conf} {l: List Way} (h: EnL I text holds S l): ∀{rest met found res},
  (∀ y∈met,(∃ c∈S,Star I text holds (key c) y)->∀ e,Rch I text holds y e->e∈ends found)->(∀ a∈ends found,∃ n,(insAt I n).op=4/\(n,a)∈met)->first found=found->
  Dfs I text holds (S++rest) met found res->∃ met',Dfs I text holds rest met' (first (found++l)) res/\(∀ y∈met',y∈met\/∃ c∈S,Star I text holds (key c) y)/\(∀ a∈ends (first (found++l)),∃ n,(insAt I n).op=4/\(n,a)∈met') := by
 induction h with
 |nil=>
  intro rest met found res _ hf hff D
  rw[List.append_nil,hff]
  exact⟨met,D,fun y hy=>.inl hy,hf⟩
 |cons h1 h2 ih1 ih2=>
  rename_i v a k r l1 l2
  intro rest met found res hcl hf hff D
  have e1: ∀ e∈ends ((if(insAt I v).op=4 then[(a,k)]else[])++l1),Rch I text holds (v,a) e := by
   intro e he
   rw[ends_append,List.mem_append]at he
   rcases he with he|he
   ·split at he
    ·simp[ends]at he;subst he;exact .here (by assumption)
    ·simp[ends]at he
   ·obtain⟨c,hc,h⟩ := (EnL_ends h1 e).mp he
    rw[ways_outs]at hc
    obtain⟨s,hs,rfl⟩ := List.mem_map.mp hc
    exact .step hs h
  cases D with
  |old hin hlen D=>
   have hall: ∀ e∈ends ((if(insAt I v).op=4 then[(a,k)]else[])++l1),e∈ends found := fun e he=>hcl _ hin ⟨_,List.mem_cons_self ..,.refl⟩ e (e1 e he)
   have eq: first (found++((if(insAt I v).op=4 then[(a,k)]else[])++l1++l2))=first (found++l2) := by
    rw[<-List.append_assoc,first_append,first_sub_right hall,<-first_append]
   rw[eq]
   obtain⟨met',D',g1,g2⟩ := ih2 (fun y hy ⟨c,hc,hs⟩=>hcl y hy ⟨c,List.mem_cons_of_mem _ hc,hs⟩) hf hff D
   exact⟨met',D',fun y hy=>(g1 y hy).imp id fun⟨c,hc,hs⟩=>⟨c,List.mem_cons_of_mem _ hc,hs⟩,g2⟩
  |new hnot hn ha b1 b2 b3 D=>
   have hfe: (if(insAt I v).op=4 then found++[(a,k)]else found)=found++(if(insAt I v).op=4 then[(a,k)]else[]) := by split<;>simp
   rw[hfe]at D
   have hff1: first (found++(if(insAt I v).op=4 then[(a,k)]else[]))=found++(if(insAt I v).op=4 then[(a,k)]else[]) := by
    split
    ·rename_i h4
     rw[first_snoc,if_neg,hff]
     intro he
     obtain⟨n,hn4,hm⟩ := hf a he
     exact hnot (hu n v hn4 h4▸hm)
    ·rw[List.append_nil];exact hff
   have hf1: ∀ x∈ends (found++(if(insAt I v).op=4 then[(a,k)]else[])),∃ n,(insAt I n).op=4/\(n,x)∈(v,a)::met := by
    intro x hx
    rw[ends_append,List.mem_append]at hx
    rcases hx with hx|hx
    ·obtain⟨n,h4,hm⟩ := hf x hx;exact⟨n,h4,List.mem_cons_of_mem _ hm⟩
    ·split at hx
     ·rename_i h4
      simp[ends]at hx;subst hx;exact⟨v,h4,List.mem_cons_self ..⟩
     ·simp[ends]at hx
   have hacc := EnL_acc (EnL.cons h1 h2) _ (List.mem_cons_self ..)
   have hrel: ∀ c∈ways (insAt I v) a k text holds,Rel I text holds (key c) (v,a) := by
    intro c hc
    rw[ways_outs]at hc
    obtain⟨s,hs,rfl⟩ := List.mem_map.mp hc
    exact⟨k,s,hs,rfl⟩
   have step': ∀ c∈ways (insAt I v) a k text holds,∀ y,Star I text holds (key c) y->Star I text holds (v,a) y := by
    intro c hc y hy
    rw[ways_outs]at hc
    obtain⟨s,hs,rfl⟩ := List.mem_map.mp hc
    exact .step hs hy
   obtain⟨met2,D2,g1,g2⟩ := ih1 (rest := r++rest) (met := (v,a)::met) (found := found++(if(insAt I v).op=4 then[(a,k)]else[])) (res := res) (by
    rintro y hy ⟨c,hc,hs⟩ e he
    rcases List.mem_cons.mp hy with rfl|hy
    ·exact absurd hs (acc_no I text holds hacc _ (hrel c hc))
    ·rw[ends_append]
     exact List.mem_append_left _ (hcl y hy ⟨_,List.mem_cons_self ..,step' c hc y hs⟩ e he)) hf1 hff1 D
   have hsub: ∀ e,e∈ends found\/Rch I text holds (v,a) e->e∈ends (first (found++(if(insAt I v).op=4 then[(a,k)]else[])++l1)) := by
    intro e he
    rw[first_ends,ends_append,ends_append]
    rcases he with he|he
    ·exact List.mem_append_left _ (List.mem_append_left _ he)
    ·cases he with
     |here h4=>exact List.mem_append_left _ (List.mem_append_right _ (by rw[if_pos h4];simp[ends]))
     |step hs hr=>
      refine List.mem_append_right _ ((EnL_ends h1 e).mpr ?_)
      rename_i k' s
      obtain⟨u,hu⟩ := outs_any I text holds k hs
      exact⟨goes I (s.1,s.2.1,u),by rw[ways_outs];exact List.mem_map.mpr ⟨_,hu,rfl⟩,hr⟩
   obtain⟨met3,D3,q1,q2⟩ := ih2 (rest := rest) (met := met2) (found := first (found++(if(insAt I v).op=4 then[(a,k)]else[])++l1)) (res := res) (by
    rintro y hy ⟨c,hc,hs⟩ e he
    refine hsub e ?_
    rcases g1 y hy with hy|⟨c',hc',hs'⟩
    ·rcases List.mem_cons.mp hy with rfl|hy
     ·exact .inr he
     ·exact .inl (hcl y hy ⟨c,List.mem_cons_of_mem _ hc,hs⟩ e he)
    ·exact .inr ((step' c' hc' y hs').rch I text holds he)) g2 (first_first _) D2
   have eq: first (first (found++(if(insAt I v).op=4 then[(a,k)]else[])++l1)++l2)=first (found++((if(insAt I v).op=4 then[(a,k)]else[])++l1++l2)) := by
    rw[first_append,first_first,<-first_append]
    simp only[List.append_assoc]
   rw[eq]at D3 q2
   refine⟨met3,D3,fun y hy=>?_,q2⟩
   rcases q1 y hy with hy|⟨c,hc,hs⟩
   ·rcases g1 y hy with hy|⟨c,hc,hs⟩
    ·rcases List.mem_cons.mp hy with rfl|hy
     ·exact .inr ⟨_,List.mem_cons_self ..,.refl⟩
     ·exact .inl hy
    ·exact .inr ⟨_,List.mem_cons_self ..,step' c hc y hs⟩
   ·exact .inr ⟨c,List.mem_cons_of_mem _ hc,hs⟩
end
end
section
section
variable {I: List Ins} {text holds: List Nat}
theorem dfs_sound {S: List Conf} {met: List (Nat×Nat)} {found res: List Way} (D: Dfs I text holds S met found res): ∀ e∈ends res,e∈ends found\/∃ c∈S,Rch I text holds (key c) e := by
 induction D with
 |done=>intro e he;exact .inl he
 |old _ _ _ ih=>
  intro e he
  exact(ih e he).imp id fun⟨c,hc,h⟩=>⟨c,List.mem_cons_of_mem _ hc,h⟩
 |new _ _ _ _ _ _ _ ih=>
  rename_i n a k left met found res _ _ _ _ _ _ _
  intro e he
  rcases ih e he with h|⟨c,hc,h⟩
  ·split at h
   ·rw[ends_append,List.mem_append]at h
    rcases h with h|h
    ·exact .inl h
    ·simp[ends]at h;subst h
     exact .inr ⟨_,List.mem_cons_self ..,.here (by assumption)⟩
   ·exact .inl h
  ·rcases List.mem_append.mp hc with hc|hc
   ·rw[ways_outs]at hc
    obtain⟨s,hs,rfl⟩ := List.mem_map.mp hc
    exact .inr ⟨_,List.mem_cons_self ..,.step hs h⟩
   ·exact .inr ⟨c,List.mem_cons_of_mem _ hc,h⟩
theorem dfs_complete {S: List Conf} {met: List (Nat×Nat)} {found res: List Way} (D: Dfs I text holds S met found res) :
  (∀ y∈met,(∀ z,Rel I text holds z y->z∈met\/∃ c∈S,key c=z)/\((insAt I y.1).op=4->y.2∈ends found))->∀ x,(x∈met\/∃ c∈S,key c=x)->∀ e,Rch I text holds x e->e∈ends res := by
 induction D with
 |done=>
  rename_i met found
  intro hc x hx e he
  have this: ∀ x e,Rch I text holds x e->x∈met->e∈ends found := by
   intro x e he
   induction he with
   |here h4=>intro hx;exact(hc _ hx).2 h4
   |step hs _ ih=>
    intro hx
    rcases(hc _ hx).1 _ ⟨_,_,hs,rfl⟩with h|⟨c,h,_⟩
    ·exact ih h
    ·simp at h
  rcases hx with hx|⟨c,h,_⟩
  ·exact this x e he hx
  ·simp at h
 |old hin _ _ ih=>
  rename_i n a k left met found res _
  intro hc x hx e he
  refine ih (fun y hy=>⟨fun z hz=>?_,(hc y hy).2⟩) x ?_ e he
  ·rcases(hc y hy).1 z hz with h|⟨c,h,rfl⟩
   ·exact .inl h
   ·rcases List.mem_cons.mp h with rfl|h
    ·exact .inl hin
    ·exact .inr ⟨c,h,rfl⟩
  ·rcases hx with h|⟨c,h,rfl⟩
   ·exact .inl h
   ·rcases List.mem_cons.mp h with rfl|h
    ·exact .inl hin
    ·exact .inr ⟨c,h,rfl⟩
 |new hnot _ _ _ _ _ _ ih=>
  rename_i n a k left met found res _ _ _ _ _ _
  intro hc x hx e he
  have hmv: ∀ z,(z∈met\/∃ c∈(n,a,k)::left,key c=z)->z∈(n,a)::met\/∃ c∈ways (insAt I n) a k text holds++left,key c=z := by
   rintro z (h|⟨c,h,rfl⟩)
   ·exact .inl (List.mem_cons_of_mem _ h)
   ·rcases List.mem_cons.mp h with rfl|h
    ·exact .inl (List.mem_cons_self ..)
    ·exact .inr ⟨c,List.mem_append_right _ h,rfl⟩
  refine ih (fun y hy=>?_) x (hmv x hx) e he
  rcases List.mem_cons.mp hy with rfl|hy
  ·refine⟨fun z hz=>?_,fun h4=>?_⟩
   ·obtain⟨k',s,hs,rfl⟩ := hz
    obtain⟨u,hu⟩ := outs_any I text holds k hs
    exact .inr ⟨goes I (s.1,s.2.1,u),List.mem_append_left _ (by rw[ways_outs];exact List.mem_map.mpr ⟨_,hu,rfl⟩),rfl⟩
   ·dsimp only at h4
    rw[if_pos h4,ends_append];simp[ends]
  ·refine⟨fun z hz=>hmv z ((hc y hy).1 z hz),fun h4=>?_⟩
   have := (hc y hy).2 h4
   split
   ·rw[ends_append];exact List.mem_append_left _ this
   ·exact this
theorem dfs_nodup (hu: Uni I) {S: List Conf} {met: List (Nat×Nat)} {found res: List Way} (D: Dfs I text holds S met found res): (ends found).Nodup->(∀ a∈ends found,∃ n,(insAt I n).op=4/\(n,a)∈met)->(ends res).Nodup := by
 induction D with
 |done=>intro h _;exact h
 |old _ _ _ ih=>exact ih
 |new hnot _ _ _ _ _ _ ih=>
  rename_i n a k left met found res _ _ _ _ _ _
  intro hn hf
  apply ih
  ·split
   ·rename_i h4
    rw[ends_append,List.nodup_append]
    refine⟨hn,by simp[ends],fun x hx y hy=>?_⟩
    simp[ends]at hy;subst hy
    rintro rfl
    obtain⟨n',h4',hm⟩ := hf _ hx
    exact hnot (hu n' n h4' h4▸hm)
   ·exact hn
  ·intro x hx
   split at hx
   ·rename_i h4
    rw[ends_append,List.mem_append]at hx
    rcases hx with hx|hx
    ·obtain⟨n',h4',hm⟩ := hf x hx;exact⟨n',h4',List.mem_cons_of_mem _ hm⟩
    ·simp[ends]at hx;subst hx;exact⟨n,h4,List.mem_cons_self ..⟩
   ·obtain⟨n',h4',hm⟩ := hf x hx;exact⟨n',h4',List.mem_cons_of_mem _ hm⟩
def grid (N L: Nat): List (Nat×Nat) := (List.range N).flatMap fun v=>(List.range (L+1)).map fun a=>(v,a)
theorem grid_len (N L: Nat): (grid N L).length=N * (L+1) := by
 unfold grid
 induction N with
 |zero=>simp
 |succ N ih=>rw[List.range_succ (n := N),List.flatMap_append,List.length_append,ih];simp[Nat.succ_mul]
theorem mem_grid {N L v a: Nat}: (v,a)∈grid N L↔v<N/\a<=L := by
 unfold grid
 rw[List.mem_flatMap]
 constructor
 ·rintro⟨v',hv,h⟩
  obtain⟨a',ha,e⟩ := List.mem_map.mp h
  cases e
  exact⟨List.mem_range.mp hv,by have := List.mem_range.mp ha;omega⟩
 ·rintro⟨h1,h2⟩
  exact⟨v,List.mem_range.mpr h1,List.mem_map.mpr ⟨a,List.mem_range.mpr (by omega),rfl⟩⟩
theorem dfs_total (hG: I.length * (text.length+1)<=400) (hstay: ∀ v a k,v<I.length->a<=text.length->∀ s∈outs I text holds v a k,wayP I s.1<I.length): ∀(m: Nat) (S: List Conf) (met: List (Nat×Nat)) (found: List Way),
  3 * (I.length * (text.length+1)-met.length)+S.length<=m->met.Nodup->(∀ y∈met,y∈grid I.length text.length)->(∀ c∈S,c.1<I.length/\c.2.1<=text.length)->S.length<=2 * met.length+1->found.length<=met.length->∃ res,Dfs I text holds S met found res := by
 intro m
 induction m with
 |zero=>
  intro S met found hm _ _ _ _ _
  have: S=[] := List.eq_nil_of_length_eq_zero (by omega)
  subst this
  exact⟨found,.done⟩
 |succ m ih=>
  intro S met found hm nd hg hS hl hf
  have hml := nodup_sub_len nd hg
  rw[grid_len]at hml
  match S,hm,hS,hl with
  |[],_,_,_=>exact⟨found,.done⟩
  |(n,a,k)::left,hm,hS,hl=>
   simp only[List.length_cons]at hm hl
   have hc := hS _ (List.mem_cons_self ..)
   dsimp only at hc
   by_cases h: (n,a)∈met
   ·obtain⟨res,D⟩ := ih left met found (by omega) nd hg (fun c hc=>hS c (List.mem_cons_of_mem _ hc)) (by omega) hf
    exact⟨res,.old h (by omega) D⟩
   ·have nd': ((n,a)::met).Nodup := List.nodup_cons.mpr ⟨h,nd⟩
    have hg': ∀ y∈(n,a)::met,y∈grid I.length text.length := fun y hy=>by
     rcases List.mem_cons.mp hy with rfl|hy
     ·exact mem_grid.mpr hc
     ·exact hg y hy
    have hml' := nodup_sub_len nd' hg'
    rw[grid_len,List.length_cons]at hml'
    have hol := outs_len I text holds n a k
    obtain⟨res,D⟩ := ih (ways (insAt I n) a k text holds++left) ((n,a)::met) (if(insAt I n).op=4 then found++[(a,k)]else found)
     (by rw[ways_outs];simp only[List.length_append,List.length_map,List.length_cons];omega) nd' hg'
     (fun c hc'=>by
      rcases List.mem_append.mp hc' with hc'|hc'
      ·rw[ways_outs]at hc'
       obtain⟨s,hs,rfl⟩ := List.mem_map.mp hc'
       exact⟨hstay n a k hc.1 hc.2 s hs,(outs_half I text holds hs).2.2.2 hc.2⟩
      ·exact hS c (List.mem_cons_of_mem _ hc'))
     (by rw[ways_outs];simp only[List.length_append,List.length_map,List.length_cons];omega)
     (by split<;>simp<;>omega)
    exact⟨res,.new h hc.1 hc.2 (by omega) (by omega) (by omega) D⟩
end
end
section
section
variable (I: List Ins) (text holds: List Nat) (ms: List Nat)
inductive EnX: List (Nat×Nat×Kept)->List Way->Prop
 |nil: EnX [] []
 |out {s a k r l}: s∈ms->EnX r l->EnX ((s,a,k)::r) ((a,k)::l)
 |go {s a k r l1 l2}: s∉ms->EnX (outs I text holds (wayP I s) a k) l1->EnX r l2->EnX ((s,a,k)::r) (l1++l2)
inductive ReX: Nat->Nat->Nat->Prop
 |out {s a}: s∈ms->ReX s a a
 |go {s a k t e}: s∉ms->t∈outs I text holds (wayP I s) a k->ReX t.1 t.2.1 e->ReX s a e
def Ent (v a e: Nat): Prop := ∃ k,∃ s∈outs I text holds v a k,ReX I text holds ms s.1 s.2.1 e
variable {I text holds ms}
theorem EnX.append {S T: List (Nat×Nat×Kept)} {l m: List Way} (h: EnX I text holds ms S l) (k: EnX I text holds ms T m): EnX I text holds ms (S++T) (l++m) := by
 induction h with
 |nil=>exact k
 |out hs _ ih=>exact .out hs ih
 |go hs h1 _ _ ih=>rw[List.append_assoc];exact .go hs h1 ih
theorem EnX.kept {S: List (Nat×Nat×Kept)} {l: List Way} (h: EnX I text holds ms S l): (∀ s∈S,s.2.2.length<=4)->∀ w∈l,w.2.length<=4 := by
 induction h with
 |nil=>intro _ w hw;simp at hw
 |out hs _ ih=>
  intro hS w hw
  rcases List.mem_cons.mp hw with rfl|hw
  ·exact hS _ (List.mem_cons_self ..)
  ·exact ih (fun s hs=>hS s (List.mem_cons_of_mem _ hs)) w hw
 |go hs _ _ ih1 ih2=>
  intro hS w hw
  rcases List.mem_append.mp hw with hw|hw
  ·exact ih1 (fun s hs'=>outs_kept I text holds (hS _ (List.mem_cons_self ..)) hs') w hw
  ·exact ih2 (fun s hs=>hS s (List.mem_cons_of_mem _ hs)) w hw
theorem EnX.pos {S: List (Nat×Nat×Kept)} {l: List Way} (h: EnX I text holds ms S l): ∀ A,(∀ s∈S,A<=s.2.1/\s.2.1<=text.length)->∀ w∈l,A<=w.1/\w.1<=text.length := by
 induction h with
 |nil=>intro _ _ w hw;simp at hw
 |out hs _ ih=>
  intro A hS w hw
  rcases List.mem_cons.mp hw with rfl|hw
  ·exact hS _ (List.mem_cons_self ..)
  ·exact ih A (fun s hs=>hS s (List.mem_cons_of_mem _ hs)) w hw
 |go hs _ _ ih1 ih2=>
  intro A hS w hw
  rcases List.mem_append.mp hw with hw|hw
  ·refine ih1 A (fun s hs'=>?_) w hw
   have h0 := hS _ (List.mem_cons_self ..)
   have := outs_half I text holds hs'
   dsimp only at h0
   exact⟨by omega,this.2.2.2 h0.2⟩
  ·exact ih2 A (fun s hs=>hS s (List.mem_cons_of_mem _ hs)) w hw
theorem ReX.pos {s a e: Nat} (h: ReX I text holds ms s a e): a<=e/\(a<=text.length->e<=text.length) := by
 induction h with
 |out _=>exact⟨Nat.le_refl _,id⟩
 |go _ ht _ ih=>
  have := outs_half I text holds ht
  exact⟨by omega,fun h=>ih.2 (this.2.2.2 h)⟩
theorem Ent.pos {v a e: Nat} (h: Ent I text holds ms v a e): a<=e/\(a<=text.length->e<=text.length) := by
 obtain⟨k,s,hs,h⟩ := h
 have := outs_half I text holds hs
 have := h.pos
 exact⟨by omega,fun h=>by omega⟩
structure Frg (I: List Ins) (R: List Nat) (b: Nat) (ms: List Nat): Prop where
 hb: b∈R\/b=0
 pos: ∀ v∈R,0<v/\v<I.length
 hm: ∀ s∈ms,s / 2∈R
 odd: ∀ s∈ms,s % 2=1->(insAt I (s / 2)).op=0
 cl: ∀ s,s / 2∈R->s∉ms->(s % 2=1->(insAt I (s / 2)).op=0)->wayP I s∈R\/wayP I s=0
structure Agree (I I': List Ins) (R ms: List Nat): Prop where
 op: ∀ v∈R,(insAt I' v).op=(insAt I v).op
 low: ∀ v∈R,(insAt I' v).low=(insAt I v).low
 high: ∀ v∈R,(insAt I' v).high=(insAt I v).high
 fold: ∀ v∈R,(insAt I' v).fold=(insAt I v).fold
 way: ∀ s,s / 2∈R->s∉ms->wayP I' s=wayP I s
theorem Agree.of_eq {I I': List Ins} {R ms: List Nat} (h: ∀ v∈R,insAt I' v=insAt I v): Agree I I' R ms :=
 ⟨fun v hv=>by rw[h v hv],fun v hv=>by rw[h v hv],fun v hv=>by rw[h v hv],fun v hv=>by rw[h v hv],fun s hs _=>by unfold wayP;rw[h _ hs]⟩
theorem outs_agree {I I': List Ins} {R ms: List Nat} {b: Nat} (F: Frg I R b ms) (A: Agree I I' R ms) {v: Nat} (hv: v∈R) (a: Nat) (k: Kept): outs I' text holds v a k=outs I text holds v a k := by
 unfold outs
 rw[A.op v hv,A.low v hv,A.high v hv,A.fold v hv]
 by_cases h0: (insAt I v).op=0
 ·rw[if_pos h0,if_pos h0]
 ·have: (insAt I' v).arg=(insAt I v).arg := by
   rw[<-wayP_odd,<-wayP_odd]
   refine A.way _ (by rw[show(2 * v+1) / 2=v by omega];exact hv) fun hm=>h0 ?_
   have := F.odd _ hm (by omega)
   rwa [show(2 * v+1) / 2=v by omega]at this
  rw[this]
theorem outs_zero {I: List Ins} (z: (insAt I 0).op=6) (a: Nat) (k: Kept): outs I text holds 0 a k=[] := by
 unfold outs;rw[z];simp
theorem EnX.nil_eq {l: List Way} (h: EnX I text holds ms [] l): l=[] := by cases h;rfl
variable {I': List Ins} {R ms': List Nat} {b: Nat}
theorem seqE (F: Frg I R b ms) (A: Agree I I' R ms) (z: (insAt I 0).op=6) (z': (insAt I' 0).op=6) (hms: ∀ s,s / 2∈R->s∈ms'->s∈ms) {S: List (Nat×Nat×Kept)} {l: List Way} (h: EnX I text holds ms S l) :
  (∀ s∈S,s.1 / 2∈R/\(s.1 % 2=1->(insAt I (s.1 / 2)).op=0))->∀ L: Way->List Way,(∀ s∈ms,∀ w∈l,EnX I' text holds ms' [(s,w.1,w.2)] (L w))->EnX I' text holds ms' S (l.flatMap L) := by
 induction h with
 |nil=>intro _ _ _;exact .nil
 |out hs _ ih=>
  intro hS L hL
  rw[List.flatMap_cons]
  exact EnX.append (hL _ hs _ (List.mem_cons_self ..)) (ih (fun s h=>hS s (List.mem_cons_of_mem _ h)) L fun s h w hw=>hL s h w (List.mem_cons_of_mem _ hw))
 |go hs h1 h2' ih1 ih2=>
  rename_i s a k r l1 l2
  intro hS L hL
  rw[List.flatMap_append]
  have h0 := hS _ (List.mem_cons_self ..)
  dsimp only at h0
  have hw := A.way s h0.1 hs
  refine .go (fun h=>hs (hms s h0.1 h)) ?_ (ih2 (fun s h=>hS s (List.mem_cons_of_mem _ h)) L fun s h w hw=>hL s h w (List.mem_append_right _ hw))
  rw[hw]
  rcases F.cl s h0.1 hs h0.2 with hR|hR
  ·rw[outs_agree F A hR]
   refine ih1 (fun t ht=>?_) L fun s h w hw=>hL s h w (List.mem_append_left _ hw)
   have := outs_half I text holds ht
   rw[this.1]
   exact⟨hR,this.2.1⟩
  ·rw[hR]at h1 ⊢
   rw[outs_zero z]at h1
   rw[outs_zero z',h1.nil_eq]
   exact .nil
theorem seqR (F: Frg I R b ms) (A: Agree I I' R ms) (z: (insAt I 0).op=6) (z': (insAt I' 0).op=6) (hms: ∀ s,s / 2∈R->s∈ms'->s∈ms) {Lr: Nat->Nat->Prop} (hL: ∀ s∈ms,∀ m e,ReX I' text holds ms' s m e↔Lr m e) {s a e: Nat} (hs: s / 2∈R) (ho: s % 2=1->(insAt I (s / 2)).op=0) :
  ReX I' text holds ms' s a e↔∃ m,ReX I text holds ms s a m/\Lr m e := by
 constructor
 ·intro h
  induction h with
  |out h1=>exact⟨_,.out (hms _ hs h1),(hL _ (hms _ hs h1) _ _).mp (.out h1)⟩
  |go h1 ht hr ih=>
   rename_i s a k t e
   by_cases hm: s∈ms
   ·exact⟨a,.out hm,(hL s hm a e).mp (.go h1 ht hr)⟩
   ·rw[A.way s hs hm]at ht
    rcases F.cl s hs hm ho with hR|hR
    ·rw[outs_agree F A hR]at ht
     have h2 := outs_half I text holds ht
     obtain⟨m,q1,q2⟩ := ih (by rw[h2.1];exact hR) (by rw[h2.1];exact h2.2.1)
     exact⟨m,.go hm ht q1,q2⟩
    ·rw[hR,outs_zero z']at ht;simp at ht
 ·rintro⟨m,h,hl⟩
  induction h with
  |out h1=>exact(hL _ h1 _ _).mpr hl
  |go h1 ht hr ih=>
   rename_i s a k t m
   rcases F.cl s hs h1 ho with hR|hR
   ·have h2 := outs_half I text holds ht
    refine .go (k := k) (fun h=>h1 (hms s hs h)) ?_ (ih (by rw[h2.1];exact hR) (by rw[h2.1];exact h2.2.1) hl)
    rw[A.way s hs h1,outs_agree F A hR];exact ht
   ·rw[hR,outs_zero z]at ht;simp at ht
theorem entR (F: Frg I R b ms) (A: Agree I I' R ms) (z: (insAt I 0).op=6) (z': (insAt I' 0).op=6) (hms: ∀ s,s / 2∈R->s∈ms'->s∈ms) {Lr: Nat->Nat->Prop} (hL: ∀ s∈ms,∀ m e,ReX I' text holds ms' s m e↔Lr m e) {a e: Nat} :
  Ent I' text holds ms' b a e↔∃ m,Ent I text holds ms b a m/\Lr m e := by
 rcases F.hb with hb|hb
 ·constructor
  ·rintro⟨k,s,hs,h⟩
   rw[outs_agree F A hb]at hs
   have h2 := outs_half I text holds hs
   obtain⟨m,q1,q2⟩ := (seqR F A z z' hms hL (by rw[h2.1];exact hb) (by rw[h2.1];exact h2.2.1)).mp h
   exact⟨m,⟨k,s,hs,q1⟩,q2⟩
  ·rintro⟨m,⟨k,s,hs,h⟩,hl⟩
   have h2 := outs_half I text holds hs
   exact⟨k,s,by rw[outs_agree F A hb];exact hs,(seqR F A z z' hms hL (by rw[h2.1];exact hb) (by rw[h2.1];exact h2.2.1)).mpr ⟨m,h,hl⟩⟩
 ·subst hb
  constructor
  ·rintro⟨k,s,hs,_⟩;rw[outs_zero z']at hs;simp at hs
  ·rintro⟨m,⟨k,s,hs,_⟩,_⟩;rw[outs_zero z]at hs;simp at hs
theorem entE (F: Frg I R b ms) (A: Agree I I' R ms) (z: (insAt I 0).op=6) (z': (insAt I' 0).op=6) (hms: ∀ s,s / 2∈R->s∈ms'->s∈ms) {a: Nat} {k: Kept} {l: List Way} (h: EnX I text holds ms (outs I text holds b a k) l) (L: Way->List Way) (hL: ∀ s∈ms,∀ w∈l,EnX I' text holds ms' [(s,w.1,w.2)] (L w)) :
  EnX I' text holds ms' (outs I' text holds b a k) (l.flatMap L) := by
 rcases F.hb with hb|hb
 ·rw[outs_agree F A hb]
  refine seqE F A z z' hms h (fun s hs=>?_) L hL
  have h2 := outs_half I text holds hs
  rw[h2.1];exact⟨hb,h2.2.1⟩
 ·subst hb
  rw[outs_zero z]at h
  rw[outs_zero z',h.nil_eq]
  exact .nil
theorem flatMap_single (l: List Way): l.flatMap (fun w=>[w])=l := by
 induction l with
 |nil=>rfl
 |cons x r ih=>rw[List.flatMap_cons,ih];rfl
theorem frameE (F: Frg I R b ms) (A: Agree I I' R ms) (z: (insAt I 0).op=6) (z': (insAt I' 0).op=6) (hms: ∀ s,s / 2∈R->(s∈ms'↔s∈ms)) {a: Nat} {k: Kept} {l: List Way} (h: EnX I text holds ms (outs I text holds b a k) l): EnX I' text holds ms' (outs I' text holds b a k) l := by
 have := entE F A z z' (fun s hs=>(hms s hs).mp) h (fun w=>[w]) fun s hs w _=>.out ((hms s (F.hm s hs)).mpr hs) .nil
 rwa [flatMap_single]at this
theorem frameR (F: Frg I R b ms) (A: Agree I I' R ms) (z: (insAt I 0).op=6) (z': (insAt I' 0).op=6) (hms: ∀ s,s / 2∈R->(s∈ms'↔s∈ms)) {a e: Nat}: Ent I' text holds ms' b a e↔Ent I text holds ms b a e := by
 rw[entR (Lr := fun m e=>m=e) F A z z' (fun s hs=>(hms s hs).mp) fun s hs m e=>?_]
 ·constructor
  ·rintro⟨m,h,rfl⟩;exact h
  ·intro h;exact⟨e,h,rfl⟩
 ·have hm := (hms s (F.hm s hs)).mpr hs
  constructor
  ·intro h
   cases h with
   |out _=>rfl
   |go h1 _ _=>exact absurd hm h1
  ·rintro rfl;exact .out hm
end
end
structure TabOk (L: Nat) (t: Table): Prop where
 wf: WfT (L+1) t
 fst: ∀ a,first (row t a)=row t a
 mono: ∀ a,∀ e∈ends (row t a),a<=e
theorem TabOk.le {L: Nat} {t: Table} (h: TabOk L t) {a e: Nat} (he: e∈ends (row t a)): e<=L := by
 obtain⟨k,hk⟩ := mem_ends.mp he
 have := (row_wf h.wf a).2 _ hk
 dsimp only at this;omega
theorem ends_joined {l: List Way} {t: Table} {e: Nat}: e∈ends (joined l t)↔∃ m∈ends l,e∈ends (row t m) := by
 unfold joined joinedAll
 rw[first_ends,ends_flatMap]
 constructor
 ·rintro⟨w,hw,h⟩
  rw[ends_shift]at h
  exact⟨w.1,mem_ends.mpr ⟨w.2,hw⟩,h⟩
 ·rintro⟨m,hm,h⟩
  obtain⟨k,hk⟩ := mem_ends.mp hm
  exact⟨_,hk,by rw[ends_shift];exact h⟩
inductive Plus (t: Table): Nat->Nat->Prop
 |one {a e}: e∈ends (row t a)->Plus t a e
 |more {a m e}: m∈ends (row t a)->Plus t m e->Plus t a e
theorem row_set {f: Table} {i: Nat} {l: List Way} (h: i<f.length) (a: Nat): row (f.set i l) a=if a=i then l else row f a := by
 unfold row
 rw[List.getD_eq_getElem?_getD,List.getD_eq_getElem?_getD,List.getElem?_set]
 by_cases e: i=a
 ·subst e;rw[if_pos rfl,if_pos h,if_pos rfl];rfl
 ·rw[if_neg e,if_neg (fun q=>e q.symm)]
theorem loopOne_congr {f g: Table} {lazy: Bool} {a: Nat} {p: Way} (h: a<p.1->row f p.1=row g p.1): loopOne f lazy a p=loopOne g lazy a p := by
 unfold loopOne
 by_cases hp: a<p.1
 ·rw[if_pos hp,if_pos hp]
  have: joined [p] f=joined [p] g := by unfold joined joinedAll;simp[h hp]
  rw[this]
 ·rw[if_neg hp,if_neg hp]
theorem flatMap_congr' {α β: Type} {f g: α->List β}: ∀{l: List α},(∀ x∈l,f x=g x)->l.flatMap f=l.flatMap g
 |[],_=>rfl
 |x::r,h=>by rw[List.flatMap_cons,List.flatMap_cons,h x (List.mem_cons_self ..),flatMap_congr' fun y hy=>h y (List.mem_cons_of_mem _ hy)]
theorem loops_go (t: Table) (lazy: Bool): ∀(N: Nat) (f: Table),N<=f.length->(∀ a,N<=a->row ((List.range N).reverse.foldl (loopStep t lazy) f) a=row f a)/\∀ a,a<N->row ((List.range N).reverse.foldl (loopStep t lazy) f) a=first ((row t a).flatMap (loopOne ((List.range N).reverse.foldl (loopStep t lazy) f) lazy a)) := by
 intro N
 induction N with
 |zero=>intro f _;exact⟨fun a _=>rfl,fun a h=>by omega⟩
 |succ N ih=>
  intro f hf
  rw[List.range_succ,List.reverse_append,List.reverse_cons,List.reverse_nil,List.nil_append,List.cons_append,List.nil_append,List.foldl_cons]
  have hl: (loopStep t lazy f N).length=f.length := by unfold loopStep;rw[List.length_set]
  obtain⟨i1,i2⟩ := ih (loopStep t lazy f N) (by omega)
  have hrow: ∀ a,row (loopStep t lazy f N) a=if a=N then first ((row t N).flatMap (loopOne f lazy N))else row f a := fun a=>by unfold loopStep;exact row_set (by omega) a
  refine⟨fun a ha=>?_,fun a ha=>?_⟩
  ·rw[i1 a (by omega),hrow,if_neg (by omega)]
  ·by_cases e: a=N
   ·subst e
    rw[i1 a (Nat.le_refl _),hrow,if_pos rfl]
    congr 1
    have: ∀ p∈row t a,loopOne f lazy a p=loopOne ((List.range a).reverse.foldl (loopStep t lazy) (loopStep t lazy f a)) lazy a p := fun p _=>loopOne_congr fun hp=>by rw[i1 p.1 (by omega),hrow,if_neg (by omega)]
    exact flatMap_congr' this
   ·exact i2 a (by omega)
theorem loops_fix {L: Nat} {t: Table} (lazy: Bool) (wf: WfT (L+1) t) {a: Nat} (ha: a<=L): row (loops t lazy) a=first ((row t a).flatMap (loopOne (loops t lazy) lazy a)) := by
 have := (loops_go t lazy t.length (t.map fun _=>[]) (by simp)).2 a (by rw[wf.1];omega)
 exact this
theorem loopOne_ends {f: Table} {lazy: Bool} {a e: Nat} {p: Way}: e∈ends (loopOne f lazy a p)↔e=p.1\/(a<p.1/\e∈ends (row f p.1)) := by
 have hj: e∈ends (if a<p.1 then joined [p] f else[])↔(a<p.1/\e∈ends (row f p.1)) := by
  split
  ·rename_i hlt
   rw[ends_joined];simp[ends,hlt]
  ·simp[ends];omega
 unfold loopOne
 dsimp only
 split
 ·rw[ends_append,List.mem_append,hj];simp[ends]
 ·rw[ends_append,List.mem_append,hj];simp[ends];exact Or.comm
theorem loops_ends {L: Nat} {t: Table} (lazy: Bool) (ok: TabOk L t): ∀(d a e: Nat),a<=L->L-a<=d->(e∈ends (row (loops t lazy) a)↔Plus t a e) := by
 intro d
 induction d using Nat.strongRecOn with
 |ind d ih=>
  intro a e ha hd
  have key: e∈ends (row (loops t lazy) a)↔∃ m∈ends (row t a),e=m\/(a<m/\Plus t m e) := by
   rw[loops_fix lazy ok.wf ha,first_ends,ends_flatMap]
   constructor
   ·rintro⟨w,hw,h⟩
    have hm: w.1∈ends (row t a) := mem_ends.mpr ⟨w.2,hw⟩
    refine⟨w.1,hm,?_⟩
    rcases loopOne_ends.mp h with h|⟨h1,h2⟩
    ·exact .inl h
    ·have := ok.le hm
     exact .inr ⟨h1,(ih (L-w.1) (by omega) w.1 e this (Nat.le_refl _)).mp h2⟩
   ·rintro⟨m,hm,h⟩
    obtain⟨k,hk⟩ := mem_ends.mp hm
    refine⟨_,hk,loopOne_ends.mpr ?_⟩
    rcases h with h|⟨h1,h2⟩
    ·exact .inl h
    ·have := ok.le hm
     exact .inr ⟨h1,(ih (L-m) (by omega) m e this (Nat.le_refl _)).mpr h2⟩
  rw[key]
  constructor
  ·rintro⟨m,hm,rfl|⟨_,h⟩⟩
   ·exact .one hm
   ·exact .more hm h
  ·intro h
   clear key
   induction h with
   |one h=>exact⟨_,h,.inl rfl⟩
   |more hm h ih2=>
    rename_i a m e
    by_cases hlt: a<m
    ·exact⟨m,hm,.inr ⟨hlt,h⟩⟩
    ·have: m=a := by have := ok.mono a m hm;omega
     subst this
     exact ih2 ha hd
theorem row_range {N: Nat} (f: Nat->List Way) {a: Nat}: row ((List.range N).map f) a=if a<N then f a else[] := by
 unfold row
 rw[List.getD_eq_getElem?_getD,List.getElem?_map]
 by_cases h: a<N
 ·rw[if_pos h,List.getElem?_range h];rfl
 ·rw[if_neg h,List.getElem?_eq_none (by simp;omega)];rfl
theorem loops_row {L: Nat} {t: Table} (lazy: Bool) (wf: WfT (L+1) t) {a: Nat} (ha: ¬ a<=L): row (loops t lazy) a=[] := by
 unfold row
 have: (loops t lazy).length=t.length := by
  unfold loops
  have: ∀(as: List Nat) (f: Table),(as.foldl (loopStep t lazy) f).length=f.length := by
   intro as
   induction as with
   |nil=>intro f;rfl
   |cons x r ih=>intro f;rw[List.foldl_cons,ih];unfold loopStep;rw[List.length_set]
  rw[this];simp
 rw[List.getD_eq_getElem?_getD,List.getElem?_eq_none (by rw[this,wf.1];omega)];rfl
theorem Plus.le {L: Nat} {t: Table} (ok: TabOk L t) {a e: Nat} (h: Plus t a e): a<=e := by
 induction h with
 |one h=>exact ok.mono _ _ h
 |more hm _ ih=>have := ok.mono _ _ hm;omega
theorem loops_ok {L: Nat} {t: Table} (lazy: Bool) (hL: L<=4) (ok: TabOk L t): TabOk L (loops t lazy) := by
 refine⟨loops_wf (by omega) ok.wf,fun a=>?_,fun a e he=>?_⟩
 ·by_cases ha: a<=L
  ·rw[loops_fix lazy ok.wf ha,first_first]
  ·rw[loops_row lazy ok.wf ha];rfl
 ·by_cases ha: a<=L
  ·exact((loops_ends lazy ok _ a e ha (Nat.le_refl _)).mp he).le ok
  ·rw[loops_row lazy ok.wf ha]at he;simp[ends]at he
section
section
variable (I: List Ins) (text holds: List Nat)
def SemR (b: Nat) (ms: List Nat) (t: Table): Prop := ∀ a,a<=text.length->∀ e,Ent I text holds ms b a e↔e∈ends (row t a)
def SemE (b: Nat) (ms: List Nat) (t: Table): Prop := ∀ a,a<=text.length->∀ k: Kept,k.length<=4->∃ l,EnX I text holds ms (outs I text holds b a k) l/\first l=shift k (row t a)
variable {I text holds}
variable {I': List Ins} {R ms ms': List Nat} {b b2 n: Nat} {t t1 t2: Table}
theorem ReX_in {s a e: Nat} (h: s∈ms): ReX I text holds ms s a e↔e=a := by
 constructor
 ·intro q
  cases q with
  |out _=>rfl
  |go h1 _ _=>exact absurd h h1
 ·rintro rfl;exact .out h
theorem ReX_go {s a e: Nat} (h: s∉ms): ReX I text holds ms s a e↔Ent I text holds ms (wayP I s) a e := by
 constructor
 ·intro q
  cases q with
  |out h1=>exact absurd h1 h
  |go _ ht hr=>exact⟨_,_,ht,hr⟩
 ·rintro⟨k,s',hs,hr⟩;exact .go h hs hr
theorem EnX_go {s a: Nat} {k: Kept} {l: List Way} (h: s∉ms) (q: EnX I text holds ms (outs I text holds (wayP I s) a k) l): EnX I text holds ms [(s,a,k)] l := by
 have := EnX.go (r := []) h q .nil
 rwa [List.append_nil]at this
theorem EnX_in {s a: Nat} {k: Kept} (h: s∈ms): EnX I text holds ms [(s,a,k)] [(a,k)] := .out h .nil
theorem frame_R (F: Frg I R b ms) (A: Agree I I' R ms) (z: (insAt I 0).op=6) (z': (insAt I' 0).op=6) (hms: ∀ s,s / 2∈R->(s∈ms'↔s∈ms)) (h: SemR I text holds b ms t): SemR I' text holds b ms' t := fun a ha e=>(frameR F A z z' hms).trans (h a ha e)
theorem frame_E (F: Frg I R b ms) (A: Agree I I' R ms) (z: (insAt I 0).op=6) (z': (insAt I' 0).op=6) (hms: ∀ s,s / 2∈R->(s∈ms'↔s∈ms)) (h: SemE I text holds b ms t): SemE I' text holds b ms' t := fun a ha k hk=>by
 obtain⟨l,h1,h2⟩ := h a ha k hk
 exact⟨l,frameE F A z z' hms h1,h2⟩
theorem leaf_R (hn: ∀ a,a<=text.length->outs I text holds n a kNone=(row t a).map fun w=>(2 * n,w.1,kept kNone w.2)): SemR I text holds n [2 * n] t := by
 intro a ha e
 constructor
 ·rintro⟨k,s,hs,h⟩
  obtain⟨u,hu⟩ := outs_any I text holds kNone hs
  rw[hn a ha]at hu
  obtain⟨w,hw,e1⟩ := List.mem_map.mp hu
  simp only[Prod.mk.injEq]at e1
  rw[<-e1.1,ReX_in (by simp)]at h
  rw[h,<-e1.2.1]
  exact mem_ends.mpr ⟨w.2,hw⟩
 ·intro h
  obtain⟨k,hk⟩ := mem_ends.mp h
  exact⟨kNone,(2 * n,e,kept kNone k),by rw[hn a ha];exact List.mem_map.mpr ⟨_,hk,rfl⟩,.out (by simp)⟩
theorem leaf_E (ok: ∀ a,first (row t a)=row t a) (hn: ∀ a k,a<=text.length->k.length<=4->outs I text holds n a k=(row t a).map fun w=>(2 * n,w.1,kept k w.2)): SemE I text holds n [2 * n] t := by
 intro a ha k hk
 refine⟨shift k (row t a),?_,?_⟩
 ·rw[hn a k ha hk]
  have: ∀ l: List Way,EnX I text holds [2 * n] (l.map fun w=>(2 * n,w.1,kept k w.2)) (shift k l) := by
   intro l
   induction l with
   |nil=>exact .nil
   |cons w r ih=>exact .out (by simp) ih
  exact this _
 ·rw[first_shift,ok]
theorem cat_R (F: Frg I R b ms) (A: Agree I I' R ms) (z: (insAt I 0).op=6) (z': (insAt I' 0).op=6) (hd: ∀ s,s / 2∈R->s∉ms') (hto: ∀ s∈ms,wayP I' s=b2) (hA: SemR I text holds b ms t1) (hB: SemR I' text holds b2 ms' t2) {a e: Nat} (ha: a<=text.length): Ent I' text holds ms' b a e↔e∈ends (joined (row t1 a) t2) := by
 rw[entR (Lr := fun m e=>Ent I' text holds ms' b2 m e) F A z z' (fun s h h'=>absurd h' (hd s h)) (fun s hs m e=>by rw[ReX_go (hd s (F.hm s hs)),hto s hs]),ends_joined]
 constructor
 ·rintro⟨m,h1,h2⟩
  have := h1.pos.2 ha
  exact⟨m,(hA a ha m).mp h1,(hB m this e).mp h2⟩
 ·rintro⟨m,h1,h2⟩
  have h1 := (hA a ha m).mpr h1
  exact⟨m,h1,(hB m (h1.pos.2 ha) e).mpr h2⟩
theorem choose_list {P: Way->List Way->Prop} {l: List Way} (h: ∀ w∈l,∃ m,P w m): ∃ L: Way->List Way,∀ w∈l,P w (L w) := by
 have: ∀ w,∃ m,w∈l->P w m := fun w=>by
  by_cases hw: w∈l
  ·obtain⟨m,hm⟩ := h w hw;exact⟨m,fun _=>hm⟩
  ·exact⟨[],fun q=>absurd q hw⟩
 exact⟨fun w=>Classical.choose (this w),fun w hw=>Classical.choose_spec (this w) hw⟩
theorem bind_E (F: Frg I R b ms) (A: Agree I I' R ms) (z: (insAt I 0).op=6) (z': (insAt I' 0).op=6) (hd: ∀ s,s / 2∈R->s∉ms') (hA: SemE I text holds b ms t1) {a: Nat} (ha: a<=text.length) {k: Kept} (hk: k.length<=4) (G: Way->List Way) (hG: ∀ e k k' x,x∈ends (G (e,k))->x∈ends (G (e,k')))
  (hL: ∀ w: Way,w.1∈ends (row t1 a)->w.1<=text.length->w.2.length<=4->∃ m,(∀ s∈ms,EnX I' text holds ms' [(s,w.1,w.2)] m)/\first m=first (G w)) :
  ∃ l,EnX I' text holds ms' (outs I' text holds b a k) l/\first l=first ((shift k (row t1 a)).flatMap G) := by
 obtain⟨l,h1,h2⟩ := hA a ha k hk
 have hkept := h1.kept fun s hs=>outs_kept I text holds hk hs
 have hpos := h1.pos 0 fun s hs=>⟨by omega,(outs_half I text holds hs).2.2.2 ha⟩
 have hin: ∀ w∈l,w.1∈ends (row t1 a) := fun w hw=>by
  have: w.1∈ends l := mem_ends.mpr ⟨w.2,hw⟩
  rw[<-first_ends,h2,ends_shift]at this
  exact this
 obtain⟨L,hL'⟩ := choose_list (P := fun w m=>(∀ s∈ms,EnX I' text holds ms' [(s,w.1,w.2)] m)/\first m=first (G w)) (l := l) fun w hw=>hL w (hin w hw) (hpos w hw).2 (hkept w hw)
 refine⟨l.flatMap L,entE F A z z' (fun s h h'=>absurd h' (hd s h)) h1 L fun s hs w hw=>(hL' w hw).1 s hs,?_⟩
 rw[first_bind (fun w hw=>(hL' w hw).2) hG,h2]
theorem cat_E (F: Frg I R b ms) (A: Agree I I' R ms) (z: (insAt I 0).op=6) (z': (insAt I' 0).op=6) (hd: ∀ s,s / 2∈R->s∉ms') (hto: ∀ s∈ms,wayP I' s=b2) (hA: SemE I text holds b ms t1) (hB: SemE I' text holds b2 ms' t2) {a: Nat} (ha: a<=text.length) {k: Kept} (hk: k.length<=4) :
  ∃ l,EnX I' text holds ms' (outs I' text holds b a k) l/\first l=shift k (joined (row t1 a) t2) := by
 rw[shift_joined]
 refine bind_E F A z z' hd hA ha hk (fun w=>shift w.2 (row t2 w.1)) (fun e k k' x h=>by rw[ends_shift]at h ⊢;exact h) fun w _ hw hk'=>?_
 obtain⟨l,h1,h2⟩ := hB w.1 hw w.2 hk'
 refine⟨l,fun s hs=>EnX_go (hd s (F.hm s hs)) (by rw[hto s hs];exact h1),?_⟩
 rw[h2,<-h2,first_first]
theorem alt_outs (h0: (insAt I' n).op=0) (a: Nat) (k: Kept): outs I' text holds n a k=[(2 * n,a,k),(2 * n+1,a,k)] := by unfold outs;rw[if_pos h0]
theorem alt_R (h0: (insAt I' n).op=0) {a e: Nat}: Ent I' text holds ms' n a e↔ReX I' text holds ms' (2 * n) a e\/ReX I' text holds ms' (2 * n+1) a e := by
 constructor
 ·rintro⟨k,s,hs,h⟩
  rw[alt_outs h0]at hs
  simp at hs
  rcases hs with rfl|rfl
  ·exact .inl h
  ·exact .inr h
 ·rintro(h|h)
  ·exact⟨kNone,_,by rw[alt_outs h0];exact List.mem_cons_self ..,h⟩
  ·exact⟨kNone,(2 * n+1,a,kNone),by rw[alt_outs h0];simp,h⟩
structure Opt (I': List Ins) (n b: Nat) (lazy: Bool) (ms': List Nat): Prop where
 op: (insAt I' n).op=0
 past: pastOf n lazy∈ms'
 back: (if lazy then 2 * n+1 else 2 * n)∉ms'
 way: wayP I' (if lazy then 2 * n+1 else 2 * n)=b
theorem opt_R {lazy: Bool} (O: Opt I' n b lazy ms') {a e: Nat}: Ent I' text holds ms' n a e↔e=a\/Ent I' text holds ms' b a e := by
 rw[alt_R O.op]
 have h1 := O.past
 have h2 := O.back
 have h3 := O.way
 cases lazy with
 |true=>
  simp only[pastOf,if_true]at h1 h2 h3
  rw[Nat.mul_comm]at h1
  rw[ReX_in h1,ReX_go h2,h3]
 |false=>
  simp only[pastOf,Bool.false_eq_true,if_false]at h1 h2 h3
  rw[Nat.mul_comm]at h1
  rw[ReX_go h2,h3,ReX_in h1]
  exact Or.comm
theorem opt_E {lazy: Bool} (O: Opt I' n b lazy ms') (hB: SemE I' text holds b ms' t) {a: Nat} (ha: a<=text.length) {k: Kept} (hk: k.length<=4) :
  ∃ l,EnX I' text holds ms' (outs I' text holds n a k) l/\first l=shift k (first (if lazy then[(a,kNone)]++row t a else row t a++[(a,kNone)])) := by
 obtain⟨l,q1,q2⟩ := hB a ha k hk
 rw[alt_outs O.op]
 have h1 := O.past
 have h2 := O.back
 have h3 := O.way
 cases lazy with
 |true=>
  simp only[pastOf,if_true]at h1 h2 h3 ⊢
  rw[Nat.mul_comm]at h1
  refine⟨[(a,k)]++l,.out h1 (EnX_go h2 (by rw[h3];exact q1)),?_⟩
  rw[<-first_shift,shift_append,shift_none_single hk,<-q2,first_append,first_append [(a,k)] (first l),first_first]
 |false=>
  simp only[pastOf,Bool.false_eq_true,if_false]at h1 h2 h3 ⊢
  rw[Nat.mul_comm]at h1
  have hE: EnX I' text holds ms' [(2 * n,a,k)] l := EnX_go h2 (by rw[h3];exact q1)
  refine⟨l++[(a,k)],EnX.append hE (EnX_in h1),?_⟩
  rw[<-first_shift,shift_append,shift_none_single hk,<-q2,first_append,first_append (first l) [(a,k)],first_first]
structure Loop (I': List Ins) (R ms: List Nat) (n b: Nat) (lazy: Bool): Prop where
 op: (insAt I' n).op=0
 way: wayP I' (if lazy then 2 * n+1 else 2 * n)=b
 to: ∀ s∈ms,wayP I' s=n
 off: n∉R
theorem loop_R {lazy: Bool} {L: Nat} (F: Frg I R b ms) (A: Agree I I' R ms) (z: (insAt I 0).op=6) (z': (insAt I' 0).op=6) (O: Loop I' R ms n b lazy) (hA: SemR I text holds b ms t) {a e: Nat} (ha: a<=text.length): Ent I' text holds [pastOf n lazy] b a e↔Plus t a e := by
 have hp: pastOf n lazy / 2=n := past_half n lazy
 have hoff: ∀ s,s / 2∈R->s∉[pastOf n lazy] := fun s hs h=>by
  rw[List.mem_singleton]at h;subst h;rw[hp]at hs;exact O.off hs
 have hback: (if lazy then 2 * n+1 else 2 * n)∉[pastOf n lazy] := by cases lazy<;>simp[pastOf]<;>omega
 have Op: Opt I' n b lazy [pastOf n lazy] := ⟨O.op,by simp,hback,O.way⟩
 have hstep: ∀ x y,Ent I' text holds [pastOf n lazy] b x y↔∃ m,Ent I text holds ms b x m/\(y=m\/Ent I' text holds [pastOf n lazy] b m y) := fun x y=>
  entR (Lr := fun m e=>e=m\/Ent I' text holds [pastOf n lazy] b m e) F A z z' (fun s h h'=>absurd h' (hoff s h)) (fun s hs m e=>by rw[ReX_go (hoff s (F.hm s hs)),O.to s hs];exact opt_R Op)
 constructor
 ·
  have main: ∀ s a e,ReX I' text holds [pastOf n lazy] s a e->a<=text.length->(s / 2∈R->(s % 2=1->(insAt I (s / 2)).op=0)->∃ m,ReX I text holds ms s a m/\(e=m\/Plus t m e))/\(s=(if lazy then 2 * n+1 else 2 * n)->Plus t a e) := by
   intro s a e h
   induction h with
   |out h1=>
    intro _
    exact⟨fun h2 _=>absurd h1 (hoff _ h2),fun h2=>absurd (h2▸h1) hback⟩
   |go h1 ht hr ih=>
    rename_i s a k u e
    intro ha
    have hu := outs_half I' text holds ht
    have ih := ih (hu.2.2.2 ha)
    refine⟨fun hs ho=>?_,fun hs=>?_⟩
    ·by_cases hm: s∈ms
     ·refine⟨a,.out hm,?_⟩
      rw[O.to s hm,alt_outs O.op]at ht
      have hcase: (u.1=pastOf n lazy\/u.1=(if lazy then 2 * n+1 else 2 * n))/\u.2.1=a := by
       simp at ht
       rcases ht with rfl|rfl<;>cases lazy<;>simp[pastOf]<;>omega
      rw[hcase.2]at hr
      rcases hcase.1 with h2|h2
      ·rw[h2,ReX_in (by simp)]at hr;exact .inl hr
      ·have := ih.2 h2
       rw[hcase.2]at this
       exact .inr this
     ·rw[A.way s hs hm]at ht hu
      rcases F.cl s hs hm ho with hR|hR
      ·rw[outs_agree F A hR]at ht
       have h2 := outs_half I text holds ht
       obtain⟨m,q1,q2⟩ := ih.1 (by rw[h2.1];exact hR) (by rw[h2.1];exact h2.2.1)
       exact⟨m,.go hm ht q1,q2⟩
      ·rw[hR,outs_zero z']at ht;simp at ht
    ·rw[hs,O.way]at ht hu
     rcases F.hb with hb|hb
     ·rw[outs_agree F A hb]at ht
      have h2 := outs_half I text holds ht
      obtain⟨m,q1,q2⟩ := ih.1 (by rw[h2.1];exact hb) (by rw[h2.1];exact h2.2.1)
      have hm := (hA a ha m).mp ⟨k,u,ht,q1⟩
      rcases q2 with rfl|q2
      ·exact .one hm
      ·exact .more hm q2
     ·rw[hb,outs_zero z']at ht;simp at ht
  rintro⟨k,s,hs,h⟩
  have hu := outs_half I' text holds hs
  rcases F.hb with hb|hb
  ·rw[outs_agree F A hb]at hs
   have h2 := outs_half I text holds hs
   obtain⟨m,q1,q2⟩ := (main _ _ _ h (hu.2.2.2 ha)).1 (by rw[h2.1];exact hb) (by rw[h2.1];exact h2.2.1)
   have hm := (hA a ha m).mp ⟨k,s,hs,q1⟩
   rcases q2 with rfl|q2
   ·exact .one hm
   ·exact .more hm q2
  ·rw[hb,outs_zero z']at hs;simp at hs
 ·intro h
  induction h with
  |one h=>exact(hstep _ _).mpr ⟨_,(hA _ ha _).mpr h,.inl rfl⟩
  |more hm h ih=>
   have h1 := (hA _ ha _).mpr hm
   exact(hstep _ _).mpr ⟨_,h1,.inr (ih (h1.pos.2 ha))⟩
theorem loop_E {lazy: Bool} (F: Frg I R b ms) (A: Agree I I' R ms) (z: (insAt I 0).op=6) (z': (insAt I' 0).op=6) (O: Loop I' R ms n b lazy) (hA: SemE I text holds b ms t) (ok: TabOk text.length t) (hL: text.length<=4) (strict: ∀ a,∀ e∈ends (row t a),a<e): SemE I' text holds b [pastOf n lazy] (loops t lazy) := by
 have hp: pastOf n lazy / 2=n := past_half n lazy
 have hoff: ∀ s,s / 2∈R->s∉[pastOf n lazy] := fun s hs h=>by
  rw[List.mem_singleton]at h;subst h;rw[hp]at hs;exact O.off hs
 have hback: (if lazy then 2 * n+1 else 2 * n)∉[pastOf n lazy] := by cases lazy<;>simp[pastOf]<;>omega
 have okT := loops_ok lazy hL ok
 have main: ∀ d a,a<=text.length->text.length-a<=d->∀ k: Kept,k.length<=4->∃ l,EnX I' text holds [pastOf n lazy] (outs I' text holds b a k) l/\first l=shift k (row (loops t lazy) a) := by
  intro d
  induction d using Nat.strongRecOn with
  |ind d ih=>
   intro a ha hd k hk
   have e1: shift k (row (loops t lazy) a)=first ((shift k (row t a)).flatMap fun w=>if lazy then[w]++shift w.2 (row (loops t lazy) w.1)else shift w.2 (row (loops t lazy) w.1)++[w]) := by
    rw[loops_fix lazy ok.wf ha,<-first_shift]
    congr 1
    unfold shift
    rw[List.map_flatMap,List.flatMap_map]
    refine flatMap_congr' fun p hp'=>?_
    have hlt := strict a p.1 (mem_ends.mpr ⟨p.2,hp'⟩)
    have ej: joined [p] (loops t lazy)=shift p.2 (row (loops t lazy) p.1) := by
     unfold joined joinedAll
     simp only[List.flatMap_cons,List.flatMap_nil,List.append_nil]
     rw[first_shift,okT.fst]
    unfold loopOne
    rw[if_pos hlt,ej]
    have := shift_shift k p.2 (row (loops t lazy) p.1)
    unfold shift at this ⊢
    cases lazy with
    |true=>simp[<-this]
    |false=>simp[<-this]
   rw[e1]
   refine bind_E F A z z' hoff hA ha hk _ (fun e k k' x h=>?_) fun w hw hwl hwk=>?_
   ·cases lazy
    ·simp only[Bool.false_eq_true,if_false]at h ⊢
     rw[ends_append,List.mem_append,ends_shift]at h ⊢
     exact h.imp id fun h=>by simpa [ends]using h
    ·simp only[if_true]at h ⊢
     rw[ends_append,List.mem_append,ends_shift]at h ⊢
     exact h.imp (fun h=>by simpa [ends]using h) id
   ·have hlt := strict a w.1 hw
    obtain⟨lw,q1,q2⟩ := ih (text.length-w.1) (by omega) w.1 hwl (Nat.le_refl _) w.2 hwk
    have hO := O.way
    cases lazy with
    |true=>
     simp only[if_true]at hback hO ⊢
     refine⟨[w]++lw,fun s hs=>EnX_go (hoff s (F.hm s hs)) ?_,?_⟩
     ·rw[O.to s hs,alt_outs O.op]
      exact .out (by simp[pastOf];omega) (EnX_go hback (by rw[hO];exact q1))
     ·rw[first_append,q2,first_append [w] (shift w.2 _),first_shift w.2,okT.fst]
    |false=>
     simp only[Bool.false_eq_true,if_false]at hback hO ⊢
     refine⟨lw++[w],fun s hs=>EnX_go (hoff s (F.hm s hs)) ?_,?_⟩
     ·rw[O.to s hs,alt_outs O.op]
      exact EnX.append (S := [(2 * n,w.1,w.2)]) (EnX_go hback (by rw[hO];exact q1)) (EnX_in (by simp[pastOf];omega))
     ·rw[first_append,q2,first_append (shift w.2 _) [w],first_shift w.2,okT.fst]
 exact fun a ha k hk=>main _ a ha (Nat.le_refl _) k hk
end
end
section
section
variable {I I': List Ins} {text holds: List Nat} {R ms: List Nat} {b n: Nat} {t: Table}
structure Cap (I': List Ins) (ms: List Nat) (n b s0 s1: Nat): Prop where
 op0: (insAt I' n).op=2
 op1: (insAt I' (n+1)).op=2
 a0: (insAt I' n).arg-2=s0
 a1: (insAt I' (n+1)).arg-2=s1
 out: (insAt I' n).out=b
 to: ∀ s∈ms,wayP I' s=n+1
theorem cap_outs {v: Nat} (h: (insAt I' v).op=2) (a: Nat) (k: Kept): outs I' text holds v a k=[(2 * v,a,kept k (kMark ((insAt I' v).arg-2) a))] := by
 unfold outs;rw[h];simp
theorem ent_cap {v: Nat} {ms': List Nat} (h: (insAt I' v).op=2) {a e: Nat}: Ent I' text holds ms' v a e↔ReX I' text holds ms' (2 * v) a e := by
 constructor
 ·rintro⟨k,s,hs,q⟩
  rw[cap_outs h]at hs
  simp at hs;subst hs;exact q
 ·intro q
  exact⟨kNone,_,by rw[cap_outs h];exact List.mem_cons_self ..,q⟩
theorem cap_R {s0 s1: Nat} (F: Frg I R b ms) (A: Agree I I' R ms) (z: (insAt I 0).op=6) (z': (insAt I' 0).op=6) (C: Cap I' ms n b s0 s1) (h1: n+1∉R) (hA: SemR I text holds b ms t) {a e: Nat} (ha: a<=text.length): Ent I' text holds [(n+1) * 2] n a e↔e∈ends (row t a) := by
 have hoff: ∀ s,s / 2∈R->s∉[(n+1) * 2] := fun s hs h=>by
  rw[List.mem_singleton]at h;subst h;rw[show(n+1) * 2 / 2=n+1 by omega]at hs;exact h1 hs
 rw[ent_cap C.op0,ReX_go (by simp;omega),wayP_even,C.out]
 rw[entR (Lr := fun m e=>e=m) F A z z' (fun s h h'=>absurd h' (hoff s h)) fun s hs m e=>?_]
 ·constructor
  ·rintro⟨m,q,rfl⟩;exact(hA a ha _).mp q
  ·intro q;exact⟨e,(hA a ha _).mpr q,rfl⟩
 ·rw[ReX_go (hoff s (F.hm s hs)),C.to s hs,ent_cap C.op1,ReX_in (by simp;omega)]
theorem cap_E {s0 s1: Nat} (F: Frg I R b ms) (A: Agree I I' R ms) (z: (insAt I 0).op=6) (z': (insAt I' 0).op=6) (C: Cap I' ms n b s0 s1) (h1: n+1∉R) (hA: SemE I text holds b ms t) (fst: ∀ a,first (row t a)=row t a) {a: Nat} (ha: a<=text.length) {k: Kept} (hk: k.length<=4) :
  ∃ l,EnX I' text holds [(n+1) * 2] (outs I' text holds n a k) l/\first l=shift k (group (row t a) a s0 s1) := by
 have hoff: ∀ s,s / 2∈R->s∉[(n+1) * 2] := fun s hs h=>by
  rw[List.mem_singleton]at h;subst h;rw[show(n+1) * 2 / 2=n+1 by omega]at hs;exact h1 hs
 rw[cap_outs C.op0,C.a0]
 have hk': (kept k (kMark s0 a)).length<=4 := kept_len (by simp[kMark_len])
 obtain⟨l,q1,q2⟩ := bind_E (ms' := [(n+1) * 2]) F A z z' hoff hA ha hk' (fun w=>[(w.1,kept w.2 (kMark s1 w.1))]) (fun e k k' x h=>by simpa [ends]using h) fun w _ hw hwk=>by
  refine⟨[(w.1,kept w.2 (kMark s1 w.1))],fun s hs=>EnX_go (hoff s (F.hm s hs)) ?_,rfl⟩
  rw[C.to s hs,cap_outs C.op1,C.a1]
  exact EnX_in (by simp;omega)
 refine⟨l,EnX_go (by simp;omega) (by rw[wayP_even,C.out];exact q1),?_⟩
 rw[q2]
 have e: (shift (kept k (kMark s0 a)) (row t a)).flatMap (fun w=>[(w.1,kept w.2 (kMark s1 w.1))])=shift k (group (row t a) a s0 s1) := by
  unfold shift group
  rw[List.flatMap_map,List.map_map]
  induction row t a with
  |nil=>rfl
  |cons p r ih=>
   rw[List.flatMap_cons,ih]
   simp[kept_assoc]
 rw[e]
 have eg: group (row t a) a s0 s1=(row t a).map fun p=>(p.1,kept (kept (kMark s0 a) p.2) (kMark s1 p.1)) := rfl
 rw[first_shift,eg,first_map (g := fun p=>(p.1,kept (kept (kMark s0 a) p.2) (kMark s1 p.1))) (fun _=>rfl),fst]
end
theorem leadI_op (i: Ins) (k v: Nat): (leadI i k v).op=i.op/\(leadI i k v).low=i.low/\(leadI i k v).high=i.high/\(leadI i k v).fold=i.fold := by unfold leadI;split<;>simp
theorem insAt_lead {is: List Ins} {k v j: Nat} (h: k / 2<is.length): insAt (leadP is k v) j=if j=k / 2 then leadI (insAt is (k / 2)) k v else insAt is j := by unfold leadP;rw[insAt_set h]
def core (i: Ins): Nat×Nat×Nat×Bool := (i.op,i.low,i.high,i.fold)
theorem core_lead {is: List Ins} {k v: Nat} (h: k / 2<is.length) (j: Nat): core (insAt (leadP is k v) j)=core (insAt is j) := by
 rw[insAt_lead h]
 split
 ·rename_i e;subst e
  obtain⟨a,b,c,d⟩ := leadI_op (insAt is (k / 2)) k v
  simp[core,a,b,c,d]
 ·rfl
theorem core_patch: ∀{ms: List Nat} {is: List Ins} (t: Nat),(∀ k∈ms,k / 2<is.length)->∀ j,core (insAt (patchL is ms t) j)=core (insAt is j)
 |[],_,_,_,_=>rfl
 |k::r,is,t,h,j=>by
  show core (insAt (patchL (leadP is k t) r t) j)=_
  rw[core_patch t (fun k' hk=>by rw[leadP_len];exact h k' (List.mem_cons_of_mem _ hk)),core_lead (h k (List.mem_cons_self ..))]
theorem insAt_patch_off: ∀{ms: List Nat} {is: List Ins} (t: Nat),(∀ k∈ms,k / 2<is.length)->∀ j,(∀ k∈ms,k / 2≠j)->insAt (patchL is ms t) j=insAt is j
 |[],_,_,_,_,_=>rfl
 |k::r,is,t,h,j,hj=>by
  show insAt (patchL (leadP is k t) r t) j=_
  rw[insAt_patch_off t (fun k' hk=>by rw[leadP_len];exact h k' (List.mem_cons_of_mem _ hk)) j (fun k' hk=>hj k' (List.mem_cons_of_mem _ hk)),insAt_lead (h k (List.mem_cons_self ..)),if_neg (fun e=>hj k (List.mem_cons_self ..) e.symm)]
theorem core_op {i j: Ins} (h: core i=core j): i.op=j.op := congrArg (·.1) h
theorem agree_of {I I': List Ins} {R ms: List Nat} (hc: ∀ v∈R,core (insAt I' v)=core (insAt I v)) (hw: ∀ s,s / 2∈R->s∉ms->wayP I' s=wayP I s): Agree I I' R ms :=
 ⟨fun v hv=>congrArg (·.1) (hc v hv),fun v hv=>congrArg (·.2.1) (hc v hv),fun v hv=>congrArg (·.2.2.1) (hc v hv),fun v hv=>congrArg (·.2.2.2) (hc v hv),hw⟩
theorem Frg.move {I I': List Ins} {R ms: List Nat} {b: Nat} (F: Frg I R b ms) (A: Agree I I' R ms) (hl: I.length<=I'.length): Frg I' R b ms := by
 refine⟨F.hb,fun v hv=>⟨(F.pos v hv).1,by have := (F.pos v hv).2;omega⟩,F.hm,fun s hs ho=>?_,fun s hs hn ho=>?_⟩
 ·rw[A.op _ (F.hm s hs)];exact F.odd s hs ho
 ·rw[A.way s hs hn]
  exact F.cl s hs hn (fun h=>by rw[<-A.op _ hs];exact ho h)
theorem Chain.congr {I I': List Ins} (hl: I.length<=I'.length): ∀{ms: List Nat} {e: Nat},(∀ s∈ms,wayP I' s=wayP I s)->Chain I e ms->Chain I' e ms
 |[],_,_,c=>c
 |k::r,e,h,⟨c1,c2,c3,c4⟩=>by
  refine⟨c1,c2,by omega,?_⟩
  rw[h k (List.mem_cons_self ..)]
  exact Chain.congr hl (fun s hs=>h s (List.mem_cons_of_mem _ hs)) c4
theorem Chain.last: ∀{I: List Ins} {ms: List Nat} {e: Nat},Chain I e ms->∀ k,ms.getLast?=some k->wayP I k=0
 |_,[],_,_,_,h=>by simp at h
 |_,[k],_,⟨_,_,_,c4⟩,k',h=>by simp at h;subst h;exact c4
 |_,k::k2::r,_,⟨_,_,_,c4⟩,k',h=>Chain.last c4 k' (by simpa using h)
theorem Chain.join {I: List Ins}: ∀{ms1 ms2: List Nat} {e1 e2: Nat} {k: Nat},Chain I e1 ms1->Chain I e2 ms2->ms1.getLast?=some k->e2≠0->k∉ms2->ms1.Nodup->Chain (leadP I k e2) e1 (ms1++ms2)
 |[],_,_,_,_,_,_,h,_,_,_=>by simp at h
 |[j],ms2,e1,e2,k,⟨c1,c2,c3,c4⟩,d,h,h2,hk,nd=>by
  simp at h;subst h
  refine⟨c1,c2,by rw[leadP_len];exact c3,?_⟩
  rw[wayP_lead _ c3,if_pos rfl]
  exact d.lead _ c3 hk
 |j::j2::r,ms2,e1,e2,k,⟨c1,c2,c3,c4⟩,d,h,h2,hk,nd=>by
  have h': (j2::r).getLast?=some k := by simpa using h
  have hkm: k∈j2::r := List.mem_of_getLast? h'
  rw[List.nodup_cons]at nd
  have hjk: j≠k := fun e=>nd.1 (e▸hkm)
  have hk3 := (Chain.mem c4 k hkm).2
  refine⟨c1,c2,by rw[leadP_len];exact c3,?_⟩
  rw[wayP_lead _ hk3,if_neg hjk]
  exact Chain.join c4 d h' h2 hk nd.2
end
section
structure Sem (I: List Ins) (text holds: List Nat) (R: List Nat) (it: Item): Prop where
 fr: Frg I R it.part.f.b it.part.ms
 ch: Chain I it.part.f.e0 it.part.ms
 nd: it.part.ms.Nodup
 la: ∀ k,it.part.ms.getLast?=some k->it.part.f.e1=k
 none: it.part.f.b=0->it.part.ms=[]/\it.part.f.nl=false/\∀ a,row it.tb a=[]
 ne: it.part.f.b≠0->it.part.ms≠[]
 sh: shpOf it.part=it.sh
 tab: TabOk text.length it.tb
 strict: it.part.f.nl=false->∀ a,∀ e∈ends (row it.tb a),a<e
 r: SemR I text holds it.part.f.b it.part.ms it.tb
 e: it.calm=true->SemE I text holds it.part.f.b it.part.ms it.tb
structure Data (i: Ins): Prop where
 range: i.op=1->i.low<=i.high/\i.high<=255
 cap: i.op=2->2<=i.arg
 empty: i.op=3->i.arg≠0/\i.arg&&& 63=i.arg
structure InvR (text holds: List Nat) (I: List Ins) (RI: List (List Nat×Item)): Prop where
 z: (insAt I 0).op=6
 len: 0<I.length
 sem: ∀ p∈RI,Sem I text holds p.1 p.2
 dis: RI.Pairwise fun p q=>∀ v∈p.1,v∉q.1
 nm: ∀ v,(insAt I v).op≠4
 data: ∀ v,v<I.length->Data (insAt I v)
 gl: ∀ s,s / 2<I.length->(s % 2=1->(insAt I (s / 2)).op=0)->(∃ p∈RI,s∈p.2.part.ms)\/wayP I s<I.length
def Inv (text holds: List Nat) (I: List Ins) (items: List Item): Prop := ∃ RI,RI.map (·.2)=items/\InvR text holds I RI
variable {I I': List Ins} {text holds: List Nat} {R: List Nat} {it: Item}
theorem Sem.move (S: Sem I text holds R it) (h: ∀ v∈R,insAt I' v=insAt I v) (hl: I.length<=I'.length) (z: (insAt I 0).op=6) (z': (insAt I' 0).op=6): Sem I' text holds R it := by
 have A: Agree I I' R it.part.ms := Agree.of_eq h
 refine⟨S.fr.move A hl,S.ch.congr hl fun s hs=>?_,S.nd,S.la,S.none,S.ne,S.sh,S.tab,S.strict,frame_R S.fr A z z' (fun _ _=>Iff.rfl) S.r,fun hc=>frame_E S.fr A z z' (fun _ _=>Iff.rfl) (S.e hc)⟩
 unfold wayP;rw[h _ (S.fr.hm s hs)]
theorem insAt_out {I: List Ins} {v: Nat} (h: I.length<=v): insAt I v=opI 6 := by
 unfold insAt;rw[List.getD_eq_getElem?_getD,List.getElem?_eq_none h];rfl
theorem Data.congr {i j: Ins} (h: Data i) (ho: j.op=i.op) (hl: j.low=i.low) (hh: j.high=i.high) (ha: i.op≠0->j.arg=i.arg): Data j := by
 refine⟨fun h1=>?_,fun h1=>?_,fun h1=>?_⟩
 ·rw[hl,hh];exact h.range (ho▸h1)
 ·rw[ho]at h1;rw[ha (by omega)];exact h.cap h1
 ·rw[ho]at h1;rw[ha (by omega)];exact h.empty h1
theorem arg_agree {R ms: List Nat} {b v: Nat} (F: Frg I R b ms) (A: Agree I I' R ms) (hv: v∈R) (h: (insAt I v).op≠0): (insAt I' v).arg=(insAt I v).arg := by
 rw[<-wayP_odd,<-wayP_odd]
 refine A.way _ (by rw[show(2 * v+1) / 2=v by omega];exact hv) fun hm=>h ?_
 have := F.odd _ hm (by omega)
 rwa [show(2 * v+1) / 2=v by omega]at this
theorem step_of {RH RG: List (List Nat×Item)} (H: InvR text holds I (RH++RG)) {Rn: List Nat} (hl: I.length<=I'.length)
  (keep: ∀ v,v<I.length->(∀ p∈RG,v∉p.1)->insAt I' v=insAt I v) (agr: ∀ p∈RG,Agree I I' p.1 p.2.part.ms)
  (sem: (insAt I' 0).op=6->Sem I' text holds Rn it) (sub: ∀ v∈Rn,(∃ p∈RG,v∈p.1)\/I.length<=v)
  (new: ∀ v,I.length<=v->v<I'.length->(insAt I' v).op≠4/\Data (insAt I' v))
  (glM: ∀ p∈RG,∀ s∈p.2.part.ms,s∈it.part.ms\/wayP I' s<I'.length)
  (glN: ∀ s,I.length<=s / 2->s / 2<I'.length->(s % 2=1->(insAt I' (s / 2)).op=0)->s∈it.part.ms\/wayP I' s<I'.length): InvR text holds I' (RH++[(Rn,it)]) := by
 have hpw := List.pairwise_append.mp H.dis
 have posG: ∀ p∈RH++RG,∀ v∈p.1,0<v/\v<I.length := fun p hp v hv=>(H.sem p hp).fr.pos v hv
 have k0: insAt I' 0=insAt I 0 := keep 0 H.len fun p hp h=>by have := (posG p (List.mem_append_right _ hp) 0 h).1;omega
 have z': (insAt I' 0).op=6 := by rw[k0];exact H.z
 have kH: ∀ p∈RH,∀ v∈p.1,insAt I' v=insAt I v := fun p hp v hv=>keep v (posG p (List.mem_append_left _ hp) v hv).2 fun q hq h=>hpw.2.2 p hp q hq v hv h
 have opO: ∀ v,v<I.length->(insAt I' v).op=(insAt I v).op := fun v hv=>by
  by_cases h: ∃ p∈RG,v∈p.1
  ·obtain⟨p,hp,h⟩ := h;exact(agr p hp).op v h
  ·rw[keep v hv fun p hp q=>h ⟨p,hp,q⟩]
 refine⟨z',by have := H.len;omega,fun p hp=>?_,?_,fun v=>?_,fun v hv=>?_,fun s hs ho=>?_⟩
 ·rcases List.mem_append.mp hp with hp|hp
  ·exact(H.sem p (List.mem_append_left _ hp)).move (kH p hp) hl H.z z'
  ·rw[List.mem_singleton]at hp;subst hp;exact sem z'
 ·rw[List.pairwise_append]
  refine⟨hpw.1,by simp,fun p hp q hq v hv hv'=>?_⟩
  rw[List.mem_singleton]at hq;subst hq
  rcases sub v hv' with⟨g,hg,h⟩|h
  ·exact hpw.2.2 p hp g hg v hv h
  ·have := (posG p (List.mem_append_left _ hp) v hv).2;omega
 ·by_cases h1: v<I.length
  ·rw[opO v h1];exact H.nm v
  ·by_cases h2: v<I'.length
   ·exact(new v (by omega) h2).1
   ·rw[insAt_out (by omega)];decide
 ·by_cases h1: v<I.length
  ·by_cases h: ∃ p∈RG,v∈p.1
   ·obtain⟨p,hp,h⟩ := h
    have A := agr p hp
    exact(H.data v h1).congr (A.op v h) (A.low v h) (A.high v h) fun h0=>arg_agree (H.sem p (List.mem_append_right _ hp)).fr A h h0
   ·rw[keep v h1 fun p hp q=>h ⟨p,hp,q⟩];exact H.data v h1
  ·exact(new v (by omega) hv).2
 ·by_cases h1: s / 2<I.length
  ·by_cases h: ∃ p∈RG,s∈p.2.part.ms
   ·obtain⟨p,hp,h⟩ := h
    rcases glM p hp s h with h|h
    ·exact .inl ⟨_,List.mem_append_right _ (List.mem_singleton.mpr rfl),h⟩
    ·exact .inr h
   ·have hw: wayP I' s=wayP I s := by
     by_cases h2: ∃ p∈RG,s / 2∈p.1
     ·obtain⟨p,hp,h2⟩ := h2
      exact(agr p hp).way s h2 fun q=>h ⟨p,hp,q⟩
     ·unfold wayP;rw[keep _ h1 fun p hp q=>h2 ⟨p,hp,q⟩]
    rcases H.gl s h1 (fun q=>by rw[<-opO _ h1];exact ho q)with⟨p,hp,hm⟩|hm
    ·rcases List.mem_append.mp hp with hp|hp
     ·exact .inl ⟨p,List.mem_append_left _ hp,hm⟩
     ·exact absurd ⟨p,hp,hm⟩ h
    ·exact .inr (by rw[hw];omega)
  ·rcases glN s (by omega) hs ho with h|h
   ·exact .inl ⟨_,List.mem_append_right _ (List.mem_singleton.mpr rfl),h⟩
   ·exact .inr h
theorem Sem.partOk {RI: List (List Nat×Item)} (H: InvR text holds I RI) (S: Sem I text holds R it): PartOk I it.part := by
 refine⟨S.ch,S.nd,?_,fun h=>?_⟩
 ·rcases S.fr.hb with h|h
  ·exact(S.fr.pos _ h).2
  ·rw[h];exact H.len
 ·have hne: it.part.ms≠[] := fun e=>by have := S.ch;rw[e]at this;exact h this
  have hl := List.getLast?_eq_some_getLast hne
  rw[S.la _ hl]
  exact(S.ch.mem _ (List.mem_of_getLast? hl)).2
theorem Sem.itemOk {RI: List (List Nat×Item)} (H: InvR text holds I RI) (S: Sem I text holds R it): ItemOk (text.length+1) I it :=
 ⟨S.partOk H,fun h=>(S.none h).2.1,S.sh,S.tab.wf⟩
theorem insAt_app_lt {news: List Ins} {v: Nat} (h: v<I.length): insAt (I++news) v=insAt I v := by
 unfold insAt;rw[List.getD_eq_getElem?_getD,List.getD_eq_getElem?_getD,List.getElem?_append_left h]
theorem insAt_app_ge {news: List Ins} (j: Nat): insAt (I++news) (I.length+j)=news.getD j (opI 6) := by
 unfold insAt;rw[List.getD_eq_getElem?_getD,List.getD_eq_getElem?_getD,List.getElem?_append_right (by omega)];simp
theorem wayP_app {news: List Ins} {s: Nat} (h: s / 2<I.length): wayP (I++news) s=wayP I s := by unfold wayP;rw[insAt_app_lt h]
end
section
variable {I I': List Ins} {text holds: List Nat} {R: List Nat} {RH RG: List (List Nat×Item)}
theorem tabOk_map {L: Nat} {f: Nat->List Way} (h1: ∀ a,a<=L->Wf (L+1) (f a)) (h2: ∀ a,a<=L->first (f a)=f a) (h3: ∀ a,a<=L->∀ e∈ends (f a),a<=e): TabOk L ((List.range (L+1)).map f) := by
 refine⟨map_table_wf fun a ha=>h1 a (by omega),fun a=>?_,fun a e he=>?_⟩
 ·rw[row_range];split
  ·exact h2 a (by omega)
  ·rfl
 ·rw[row_range]at he;split at he
  ·exact h3 a (by omega) e he
  ·simp[ends]at he
theorem agree_rfl {ms: List Nat}: Agree I I R ms := Agree.of_eq fun _ _=>rfl
theorem ent_zero {ms: List Nat} (z: (insAt I 0).op=6) {a e: Nat}: ¬ Ent I text holds ms 0 a e := by
 rintro⟨k,s,hs,_⟩;rw[outs_zero z]at hs;simp at hs
theorem none_sem (z: (insAt I 0).op=6) {t: Table} (tab: TabOk text.length t) (h: ∀ a,row t a=[]) (calm: Bool): Sem I text holds [] ⟨⟨noneF,[]⟩,(true,false),t,calm⟩ := by
 refine⟨⟨.inr rfl,by simp,by simp,by simp,by simp⟩,rfl,by simp,by simp,fun _=>⟨rfl,rfl,h⟩,fun h=>absurd rfl h,rfl,tab,fun _ a e he=>?_,fun a ha e=>?_,fun _ a ha k hk=>⟨[],?_,?_⟩⟩
 ·dsimp only at he;rw[h]at he;simp[ends]at he
 ·rw[h];exact⟨fun q=>absurd q (ent_zero z),fun q=>by simp[ends]at q⟩
 ·show EnX I text holds [] (outs I text holds 0 a k) []
  rw[outs_zero z];exact .nil
 ·rw[h];rfl
theorem step_none (H: InvR text holds I (RH++RG)) (hm: ∀ p∈RG,p.2.part.ms=[]) {t: Table} (tab: TabOk text.length t) (h: ∀ a,row t a=[]) (calm: Bool): InvR text holds I (RH++[([],⟨⟨noneF,[]⟩,(true,false),t,calm⟩)]) := by
 refine step_of H (Nat.le_refl _) (fun _ _ _=>rfl) (fun _ _=>agree_rfl) (fun z=>none_sem z tab h calm) (by simp) (fun v h1 h2=>by omega) (fun p hp s hs=>?_) (fun s h1 h2=>by omega)
 rw[hm p hp]at hs;simp at hs
theorem step_same (H: InvR text holds I (RH++RG)) {g: List Nat×Item} (hg: g∈RG) (hm: ∀ p∈RG,p.2.part.ms=[]\/p=g) {t: Table} (tab: TabOk text.length t) (h: ∀ a,row t a=row g.2.tb a) {calm: Bool} (hc: calm=true->g.2.calm=true): InvR text holds I (RH++[(g.1,⟨g.2.part,g.2.sh,t,calm⟩)]) := by
 have S := H.sem g (List.mem_append_right _ hg)
 refine step_of H (Nat.le_refl _) (fun _ _ _=>rfl) (fun _ _=>agree_rfl) (fun z=>?_) (fun v hv=>.inl ⟨g,hg,hv⟩) (fun v h1 h2=>by omega) (fun p hp s hs=>?_) (fun s h1 h2=>by omega)
 ·refine⟨S.fr,S.ch,S.nd,S.la,fun hb=>⟨(S.none hb).1,(S.none hb).2.1,fun a=>by rw[h];exact(S.none hb).2.2 a⟩,S.ne,S.sh,tab,fun hn a e he=>S.strict hn a e (by rw[<-h];exact he),fun a ha e=>?_,fun hcl a ha k hk=>?_⟩
  ·rw[h];exact S.r a ha e
  ·rw[h];exact S.e (hc hcl) a ha k hk
 ·rcases hm p hp with h1|h1
  ·rw[h1]at hs;simp at hs
  ·subst h1;exact .inl hs
theorem step_leaf (H: InvR text holds I (RH++RG)) (hm: ∀ p∈RG,p.2.part.ms=[]) {i: Ins} {nl calm: Bool} {t: Table} (tab: TabOk text.length t) (strict: nl=false->∀ a,∀ e∈ends (row t a),a<e) (op0: i.op≠0) (op4: i.op≠4) (out: i.out=0) (hd: Data i)
  (hout: ∀(J: List Ins) n,insAt J n=i->∀ a k,a<=text.length->k.length<=4->outs J text holds n a k=(row t a).map fun w=>(2 * n,w.1,kept k w.2)) :
  InvR text holds (I++[i]) (RH++[([I.length],⟨⟨oneF I.length (I.length * 2) nl,[I.length * 2]⟩,(false,nl),t,calm⟩)]) := by
 have hn: insAt (I++[i]) I.length=i := by rw[insAt_push,if_pos rfl]
 have hl := H.len
 have half: I.length * 2 / 2=I.length := by omega
 have hw: wayP (I++[i]) (I.length * 2)=0 := by rw[Nat.mul_comm,wayP_even,hn,out]
 refine step_of H (by simp) (fun v hv _=>insAt_app_lt hv) (fun p hp=>Agree.of_eq fun v hv=>insAt_app_lt ((H.sem p (List.mem_append_right _ hp)).fr.pos v hv).2) (fun z=>?_) (fun v hv=>.inr (by simp at hv;omega)) (fun v h1 h2=>?_) (fun p hp s hs=>by rw[hm p hp]at hs;simp at hs) (fun s h1 h2 ho=>?_)
 ·refine⟨⟨.inl (by simp[oneF]),fun v hv=>?_,fun s hs=>?_,fun s hs h1=>?_,fun s hs h1 h2=>?_⟩,⟨rfl,by omega,by rw[half];simp,hw⟩,by simp,fun k hk=>by simpa [oneF]using hk,fun h=>by(have h: I.length=0 := h);omega,by simp,?_,tab,strict,?_,fun _=>?_⟩
  ·simp at hv;subst hv;simp;omega
  ·simp at hs;subst hs;rw[half];simp
  ·simp at hs;omega
  ·simp at hs h1
   exact absurd (h2 (by omega)) (by rw[hs,hn];exact op0)
  ·show(decide (I.length=0),nl)=(false,nl)
   rw[decide_eq_false (by omega)]
  ·have := leaf_R (I := I++[i]) (text := text) (holds := holds) (n := I.length) (t := t) fun a ha=>hout _ _ hn a kNone ha (by simp[kNone])
   rw[Nat.mul_comm]at this
   exact this
  ·have := leaf_E (I := I++[i]) (text := text) (holds := holds) (n := I.length) (t := t) tab.fst fun a k ha hk=>hout _ _ hn a k ha hk
   rw[Nat.mul_comm]at this
   exact this
 ·have: v=I.length := by simp at h2;omega
  subst this
  rw[hn];exact⟨op4,hd⟩
 ·have h3: s / 2=I.length := by simp at h2;omega
  rw[h3,hn]at ho
  left
  simp
  have: ¬ s % 2=1 := fun h=>op0 (ho h)
  omega
theorem single_ends {a e: Nat}: e∈ends [(a,kNone)]↔e=a := by simp[ends]
theorem meant_range (ts: List Table) (r: Row) (text holds: List Nat): meant .range ts r text holds=(List.range (text.length+1)).map fun a=>if rangeAt r.lo r.hi r.fold text a then[(a+1,kNone)]else[] := rfl
theorem meant_empty (ts: List Table) (r: Row) (text holds: List Nat): meant .empty ts r text holds=(List.range (text.length+1)).map fun a=>if emptyAt r.bits holds a then[(a,kNone)]else[] := rfl
theorem step_range (H: InvR text holds I (RH++[])) (tk: TextOk text holds) {r: Row} {rev: Bool} (hr: RowOk rev r): ∃ Rn,InvR text holds (made I .range [] r rev).1 (RH++[(Rn,newItem I .range [] r rev text holds)]) := by
 refine⟨_,step_leaf H (by simp) (i := ⟨1,0,0,r.lo,r.hi,r.fold⟩) (nl := false) (calm := calmOf .range []) (t := meant .range [] r text holds) ?_ ?_ (by simp) (by simp) rfl ⟨fun _=>hr.rng,fun h=>by simp at h,fun h=>by simp at h⟩ ?_⟩
 ·rw[meant_range]
  refine tabOk_map (fun a ha=>?_) (fun a ha=>?_) (fun a ha e he=>?_)
  ·split
   ·rename_i h;simp[rangeAt]at h
    exact⟨by simp,fun p hp=>by simp at hp;subst hp;exact⟨by dsimp only;omega,by simp[kNone]⟩⟩
   ·exact .nil
  ·split<;>rfl
  ·split at he
   ·simp[ends]at he;omega
   ·simp[ends]at he
 ·intro _ a e he
  rw[meant_range,row_range]at he
  split at he
  ·split at he
   ·simp[ends]at he;omega
   ·simp[ends]at he
  ·simp[ends]at he
 ·intro J n hn a k ha hk
  rw[meant_range,row_range,if_pos (by omega)]
  unfold outs
  rw[hn]
  simp
  split<;>simp[kept_none hk]
theorem step_empty (H: InvR text holds I (RH++[])) (tk: TextOk text holds) {r: Row} {rev: Bool} (hr: RowOk rev r): ∃ Rn,InvR text holds (made I .empty [] r rev).1 (RH++[(Rn,newItem I .empty [] r rev text holds)]) := by
 refine⟨_,step_leaf H (by simp) (i := ⟨3,0,r.bits,0,0,false⟩) (nl := true) (calm := calmOf .empty []) (t := meant .empty [] r text holds) ?_ (by simp) (by simp) (by simp) rfl ⟨fun h=>by simp at h,fun h=>by simp at h,fun _=>hr.bits⟩ ?_⟩
 ·rw[meant_empty]
  refine tabOk_map (fun a ha=>?_) (fun a ha=>?_) (fun a ha e he=>?_)
  ·split
   ·exact⟨by simp,single_wf (by omega)⟩
   ·exact .nil
  ·split<;>rfl
  ·split at he
   ·rw[single_ends]at he;omega
   ·simp[ends]at he
 ·intro J n hn a k ha hk
  rw[meant_empty,row_range,if_pos (by omega)]
  unfold outs
  rw[hn]
  simp
  cases h: emptyAt r.bits holds a<;>simp[kept_none hk]
def nopT (text: List Nat): Table := (List.range (text.length+1)).map fun a=>[(a,kNone)]
theorem nop_tab (tk: TextOk text holds): TabOk text.length (nopT text) := tabOk_map (fun a ha=>⟨by simp,single_wf (by omega)⟩) (fun _ _=>rfl) (fun a _ e he=>by rw[single_ends]at he;omega)
theorem step_nop (H: InvR text holds I (RH++RG)) (hm: ∀ p∈RG,p.2.part.ms=[]) (tk: TextOk text holds) (calm: Bool): InvR text holds (nopP I).1 (RH++[([I.length],⟨(nopP I).2,(false,true),nopT text,calm⟩)]) := by
 refine step_leaf H hm (i := opI 5) (nl := true) (nop_tab tk) (by simp) (by simp[opI]) (by simp[opI]) rfl ⟨fun h=>by simp[opI]at h,fun h=>by simp[opI]at h,fun h=>by simp[opI]at h⟩ ?_
 intro J n hn a k ha hk
 unfold nopT
 rw[row_range,if_pos (by omega)]
 unfold outs
 rw[hn]
 simp[opI,kept_none hk]
end
section
variable {I I': List Ins} {text holds: List Nat} {R: List Nat} {RH RG: List (List Nat×Item)}
structure PatchOk (I I': List Ins) (R ms: List Nat) (t: Nat): Prop where
 len: I'.length=I.length
 off: ∀ v,v∉R->insAt I' v=insAt I v
 core: ∀ v,core (insAt I' v)=core (insAt I v)
 way: ∀ s,wayP I' s=if s∈ms then t else wayP I s
theorem patch_ok {ms: List Nat} (hm: ∀ s∈ms,s / 2∈R) (hl: ∀ s∈ms,s / 2<I.length) (t: Nat): PatchOk I (patchL I ms t) R ms t :=
 ⟨patchL_len ..,fun v hv=>insAt_patch_off t hl v fun k hk e=>hv (e▸hm k hk),core_patch t hl,wayP_patch t hl⟩
theorem PatchOk.agree {ms: List Nat} {t: Nat} (P: PatchOk I I' R ms t) {R': List Nat}: Agree I I' R' ms :=
 agree_of (fun v _=>P.core v) fun s _ h=>by rw[P.way,if_neg h]
theorem PatchOk.agree_off {ms ms': List Nat} {t: Nat} (P: PatchOk I I' R ms t) {R': List Nat} (h: ∀ v∈R',v∉R): Agree I I' R' ms' := Agree.of_eq fun v hv=>P.off v (h v hv)
theorem meant_cat (t1 t2: Table) (r: Row) (text holds: List Nat): meant .cat [t1,t2] r text holds=(List.range (text.length+1)).map fun a=>joined (row t1 a) t2 := rfl
theorem cat_tab {t1 t2: Table} (tk: TextOk text holds) (k1: TabOk text.length t1) (k2: TabOk text.length t2): TabOk text.length ((List.range (text.length+1)).map fun a=>joined (row t1 a) t2) := by
 have := tk.len
 refine tabOk_map (fun a ha=>joined_wf (by omega) k2.wf) (fun a ha=>first_first _) (fun a ha e he=>?_)
 obtain⟨m,h1,h2⟩ := ends_joined.mp he
 have := k1.mono a m h1
 have := k2.mono m e h2
 omega
theorem nop_out {I: List Ins} {v: Nat} (h: (insAt I v).op=5) (a: Nat) (k: Kept): outs I text holds v a k=[(2 * v,a,k)] := by unfold outs;rw[h];simp
theorem ent_nop {I: List Ins} {v: Nat} {ms: List Nat} (h: (insAt I v).op=5) {a e: Nat}: Ent I text holds ms v a e↔ReX I text holds ms (2 * v) a e := by
 constructor
 ·rintro⟨k,s,hs,q⟩
  rw[nop_out h]at hs
  simp at hs;subst hs;exact q
 ·intro q;exact⟨kNone,_,by rw[nop_out h];exact List.mem_cons_self ..,q⟩
theorem nop_null {a: Item} (z: (insAt I 0).op=6) (S: Sem I text holds R a) (h0: a.part.f.b≠0) (hI: ∀ v,(insAt I' v).op=(insAt I v).op) (hn: isNopP I' a.part.f=true): a.part.f.nl=true/\2 * a.part.f.b∈a.part.ms/\(insAt I' a.part.f.b).op=5 := by
 unfold isNopP at hn
 simp only[Bool.and_eq_true,decide_eq_true_eq]at hn
 obtain⟨h5,he0,_⟩ := hn
 have hm: 2 * a.part.f.b∈a.part.ms := by
  have hc := S.ch
  have hne := S.ne h0
  match h: a.part.ms,hne with
  |k::r,_=>
   rw[h]at hc
   have: a.part.f.e0=k := hc.1
   rw[<-this,he0,Nat.mul_comm];exact List.mem_cons_self ..
 refine⟨?_,hm,h5⟩
 cases hz: a.part.f.nl with
 |true=>rfl
 |false=>
  have h5': (insAt I a.part.f.b).op=5 := by rw[<-hI];exact h5
  have: Ent I text holds a.part.ms a.part.f.b 0 0 := (ent_nop h5').mpr (.out hm)
  have := S.strict hz 0 0 ((S.r 0 (Nat.zero_le _) 0).mp this)
  omega
theorem step_cat {Ra Rb: List Nat} {a b: Item} (H: InvR text holds I (RH++[(Ra,a),(Rb,b)])) (tk: TextOk text holds) (r: Row) (rev: Bool): ∃ Rn,InvR text holds (made I .cat [a.part,b.part] r rev).1 (RH++[(Rn,newItem I .cat [a,b] r rev text holds)]) := by
 have Sa := H.sem (Ra,a) (by simp)
 have Sb := H.sem (Rb,b) (by simp)
 have dab: ∀ v∈Ra,v∉Rb := by
  have := (List.pairwise_append.mp H.dis).2.1
  simp at this;exact this
 have dba: ∀ v∈Rb,v∉Ra := fun v h1 h2=>dab v h2 h1
 dsimp only at Sa Sb
 have la: ∀ s∈a.part.ms,s / 2<I.length := fun s hs=>(Sa.ch.mem s hs).2
 have lb: ∀ s∈b.part.ms,s / 2<I.length := fun s hs=>(Sb.ch.mem s hs).2
 have hcalm: (newItem I .cat [a,b] r rev text holds).calm=true->a.calm=true/\b.calm=true := by
  intro h;simpa [newItem,calmOf]using h
 have hsh: shape .cat [a.sh,b.sh]=((a.sh.1||b.sh.1),!(a.sh.1||b.sh.1)&&(a.sh.2&&b.sh.2)) := rfl
 have sa: a.sh=(decide (a.part.f.b=0),a.part.f.nl) := Sa.sh.symm
 have sb: b.sh=(decide (b.part.f.b=0),b.part.f.nl) := Sb.sh.symm
 have tab := cat_tab tk Sa.tab Sb.tab
 have glMs: ∀{J: List Ins} {it: Item},(∀ s∈a.part.ms,s∈it.part.ms\/wayP J s<J.length)->(∀ s∈b.part.ms,s∈it.part.ms\/wayP J s<J.length)->∀ p∈[(Ra,a),(Rb,b)],∀ s∈p.2.part.ms,s∈it.part.ms\/wayP J s<J.length := by
  intro J it h1 h2 p hp
  simp at hp
  rcases hp with rfl|rfl
  ·exact h1
  ·exact h2
 by_cases h0: a.part.f.b=0\/b.part.f.b=0
 ·
  have em: made I .cat [a.part,b.part] r rev=(patchL (patchL I a.part.ms 0) b.part.ms 0,⟨noneF,[]⟩) := by
   show catP I a.part b.part=_
   unfold catP;rw[if_pos h0]
  have ei: newItem I .cat [a,b] r rev text holds=⟨⟨noneF,[]⟩,(true,false),(List.range (text.length+1)).map fun x=>joined (row a.tb x) b.tb,calmOf .cat [a,b]⟩ := by
   unfold newItem
   have: shape .cat [a.sh,b.sh]=(true,false) := by
    rw[hsh,sa,sb];dsimp only
    rcases h0 with h|h<;>simp[h]
   simp only[List.map_cons,List.map_nil]
   rw[em,this,meant_cat]
  rw[em,ei]
  have P1 := patch_ok (R := Ra) Sa.fr.hm la 0
  have P2: PatchOk (patchL I a.part.ms 0) (patchL (patchL I a.part.ms 0) b.part.ms 0) Rb b.part.ms 0 := patch_ok Sb.fr.hm (fun s hs=>by rw[P1.len];exact lb s hs) 0
  have hlen: (patchL (patchL I a.part.ms 0) b.part.ms 0).length=I.length := by rw[P2.len,P1.len]
  refine⟨[],step_of H (by rw[hlen];exact Nat.le_refl _) (fun v hv h=>?_) (fun p hp=>?_) (fun z=>none_sem z tab (fun x=>?_) _) (by simp) (fun v h1 h2=>by rw[hlen]at h2;omega) (glMs (fun s hs=>.inr ?_) (fun s hs=>.inr ?_)) (fun s h1 h2=>by rw[hlen]at h2;omega)⟩
  ·rw[P2.off v (h (Rb,b) (by simp)),P1.off v (h (Ra,a) (by simp))]
  ·simp at hp
   refine agree_of (fun v _=>by rw[P2.core,P1.core]) fun s hs hn=>?_
   rw[P2.way,P1.way]
   rcases hp with rfl|rfl
   ·rw[if_neg (fun h=>dab _ hs (Sb.fr.hm s h)),if_neg hn]
   ·rw[if_neg hn,if_neg (fun h=>dba _ hs (Sa.fr.hm s h))]
  ·rw[row_range];split
   ·rcases h0 with h|h
    ·rw[(Sa.none h).2.2];rfl
    ·have: ∀ l: List Way,joined l b.tb=[] := fun l=>by
      unfold joined joinedAll
      have: (l.flatMap fun p=>shift p.2 (row b.tb p.1))=[] := by
       rw[List.flatMap_eq_nil_iff];intro p _;rw[(Sb.none h).2.2];rfl
      rw[this];rfl
     exact this _
   ·rfl
  ·rw[P2.way,P1.way,if_pos hs,ite_self]
   have := H.len;rw[hlen];exact this
  ·rw[P2.way,if_pos hs]
   have := H.len;rw[hlen];exact this
 ·have ha0: a.part.f.b≠0 := fun h=>h0 (.inl h)
  have hb0: b.part.f.b≠0 := fun h=>h0 (.inr h)
  have P := patch_ok (R := Ra) Sa.fr.hm la b.part.f.b
  have hbR: b.part.f.b∈Rb := Sb.fr.hb.resolve_right hb0
  have haR: a.part.f.b∈Ra := Sa.fr.hb.resolve_right ha0
  have hbl: b.part.f.b<I.length := (Sb.fr.pos _ hbR).2
  have hlen := P.len
  have em: made I .cat [a.part,b.part] r rev=(if isNopP (patchL I a.part.ms b.part.f.b) a.part.f then(patchL I a.part.ms b.part.f.b,b.part)else(patchL I a.part.ms b.part.f.b,⟨⟨a.part.f.b,b.part.f.e0,b.part.f.e1,a.part.f.nl&&b.part.f.nl⟩,b.part.ms⟩)) := by
   show catP I a.part b.part=_
   unfold catP;rw[if_neg h0]
  have esh: shape .cat [a.sh,b.sh]=(false,a.part.f.nl&&b.part.f.nl) := by rw[hsh,sa,sb];simp[ha0,hb0]
  generalize hI': patchL I a.part.ms b.part.f.b=I' at *
  have Aa: Agree I I' Ra a.part.ms := P.agree
  have Ab: Agree I I' Rb b.part.ms := P.agree_off dba
  have keep: ∀ v,v<I.length->(∀ p∈[(Ra,a),(Rb,b)],v∉p.1)->insAt I' v=insAt I v := fun v _ h=>P.off v (h (Ra,a) (by simp))
  have agr: ∀ p∈[(Ra,a),(Rb,b)],Agree I I' p.1 p.2.part.ms := fun p hp=>by
   simp at hp
   rcases hp with rfl|rfl
   ·exact Aa
   ·exact Ab
  have off: ∀ s,s / 2∈Ra->s∉b.part.ms := fun s hs h=>dab _ hs (Sb.fr.hm s h)
  have to: ∀ s∈a.part.ms,wayP I' s=b.part.f.b := fun s hs=>by rw[P.way,if_pos hs]
  have kb: ∀ v∈Rb,insAt I' v=insAt I v := fun v hv=>P.off v (dba v hv)
  have hR: (insAt I' 0).op=6->∀ x,x<=text.length->∀ e,Ent I' text holds b.part.ms a.part.f.b x e↔e∈ends (joined (row a.tb x) b.tb) := fun z x hx e=>
   cat_R Sa.fr Aa H.z z off to Sa.r (Sb.move kb (by omega) H.z z).r hx
  have hE: (insAt I' 0).op=6->a.calm=true->b.calm=true->∀ x,x<=text.length->∀ k: Kept,k.length<=4->∃ l,EnX I' text holds b.part.ms (outs I' text holds a.part.f.b x k) l/\first l=shift k (joined (row a.tb x) b.tb) := fun z ca cb x hx k hk=>
   cat_E Sa.fr Aa H.z z off to (Sa.e ca) ((Sb.move kb (by omega) H.z z).e cb) hx hk
  have strict: ∀ nl,nl=(a.part.f.nl&&b.part.f.nl)->nl=false->∀ x,∀ e∈ends (row ((List.range (text.length+1)).map fun x=>joined (row a.tb x) b.tb) x),x<e := by
   intro nl e1 e2 x e he
   rw[row_range]at he
   split at he
   ·obtain⟨m,h1,h2⟩ := ends_joined.mp he
    have q1 := Sa.tab.mono x m h1
    have q2 := Sb.tab.mono m e h2
    rw[e1,Bool.and_eq_false_iff]at e2
    rcases e2 with h|h
    ·have := Sa.strict h x m h1;omega
    ·have := Sb.strict h m e h2;omega
   ·simp[ends]at he
  have gM: ∀ s∈a.part.ms,wayP I' s<I'.length := fun s hs=>by rw[to s hs,hlen];exact hbl
  cases hn: isNopP I' a.part.f with
  |true=>
   rw[hn,if_pos rfl]at em
   obtain⟨hnl,hm2,h5⟩ := nop_null H.z Sa ha0 (fun v=>core_op (P.core v)) hn
   have ei: newItem I .cat [a,b] r rev text holds=⟨b.part,(false,b.part.f.nl),(List.range (text.length+1)).map fun x=>joined (row a.tb x) b.tb,calmOf .cat [a,b]⟩ := by
    unfold newItem
    simp only[List.map_cons,List.map_nil]
    rw[em,esh,meant_cat,hnl];rfl
   have hc := hcalm
   rw[ei]at hc
   rw[em,ei]
   have hw2: wayP I' (2 * a.part.f.b)=b.part.f.b := to _ hm2
   have hno: 2 * a.part.f.b∉b.part.ms := off _ (by rw[show 2 * a.part.f.b / 2=a.part.f.b by omega];exact haR)
   refine⟨Rb,?_⟩
   dsimp only
   refine step_of H (by omega) keep agr (fun z=>?_) (fun v hv=>.inl ⟨(Rb,b),by simp,hv⟩) (fun v h1 h2=>by omega) (glMs (fun s hs=>.inr (gM s hs)) (fun s hs=>.inl hs)) (fun s h1 h2=>by omega)
   have Sm := Sb.move kb (by omega) H.z z
   refine⟨Sm.fr,Sm.ch,Sm.nd,Sm.la,fun h=>absurd h hb0,Sm.ne,?_,tab,fun hz=>strict _ (by rw[hnl];simp) hz,fun x hx e=>?_,fun hcc x hx k hk=>?_⟩
   ·show(decide (b.part.f.b=0),b.part.f.nl)=_
    rw[decide_eq_false hb0]
   ·rw[row_range,if_pos (by omega),<-hR z x hx e,ent_nop h5,ReX_go hno,hw2]
   ·obtain⟨ca,cb⟩ := hc hcc
    obtain⟨l,q1,q2⟩ := hE z ca cb x hx k hk
    rw[nop_out h5]at q1
    rw[row_range,if_pos (by omega)]
    refine⟨l,?_,q2⟩
    cases q1 with
    |out h _=>exact absurd h hno
    |go _ h1 h2=>
     rw[hw2]at h1
     rw[h2.nil_eq,List.append_nil];exact h1
  |false=>
   rw[hn,if_neg (by simp)]at em
   have ei: newItem I .cat [a,b] r rev text holds=⟨⟨⟨a.part.f.b,b.part.f.e0,b.part.f.e1,a.part.f.nl&&b.part.f.nl⟩,b.part.ms⟩,(false,a.part.f.nl&&b.part.f.nl),(List.range (text.length+1)).map fun x=>joined (row a.tb x) b.tb,calmOf .cat [a,b]⟩ := by
    unfold newItem
    simp only[List.map_cons,List.map_nil]
    rw[em,esh,meant_cat]
   have hc := hcalm
   rw[ei]at hc
   rw[em,ei]
   refine⟨Ra++Rb,?_⟩
   dsimp only
   refine step_of H (by omega) keep agr (fun z=>?_) (fun v hv=>?_) (fun v h1 h2=>by omega) (glMs (fun s hs=>.inr (gM s hs)) (fun s hs=>.inl hs)) (fun s h1 h2=>by omega)
   ·have Sm := Sb.move kb (by omega) H.z z
    refine⟨⟨.inl (List.mem_append_left _ haR),fun v hv=>?_,fun s hs=>List.mem_append_right _ (Sm.fr.hm s hs),Sm.fr.odd,fun s hs hsn ho=>?_⟩,Sm.ch,Sm.nd,Sm.la,fun h=>absurd h ha0,fun _=>Sm.ne hb0,?_,tab,fun hz=>strict _ rfl hz,fun x hx e=>?_,fun hcc x hx k hk=>?_⟩
    ·rcases List.mem_append.mp hv with h|h
     ·have := Sa.fr.pos v h;omega
     ·exact Sm.fr.pos v h
    ·rcases List.mem_append.mp hs with h|h
     ·by_cases hsa: s∈a.part.ms
      ·left;rw[to s hsa];exact List.mem_append_right _ hbR
      ·rw[P.way,if_neg hsa]
       exact(Sa.fr.cl s h hsa fun q=>by rw[<-core_op (P.core _)];exact ho q).imp (List.mem_append_left _) id
     ·exact(Sm.fr.cl s h hsn ho).imp (List.mem_append_right _) id
    ·show(decide (a.part.f.b=0),_)=_
     rw[decide_eq_false ha0]
    ·rw[row_range,if_pos (by omega)];exact hR z x hx e
    ·obtain⟨ca,cb⟩ := hc hcc
     rw[row_range,if_pos (by omega)]
     exact hE z ca cb x hx k hk
   ·rcases List.mem_append.mp hv with h|h
    ·exact .inl ⟨(Ra,a),by simp,h⟩
    ·exact .inl ⟨(Rb,b),by simp,h⟩
end
section
variable {I I': List Ins} {text holds: List Nat} {R: List Nat} {RH RG: List (List Nat×Item)}
def optT (text: List Nat) (t: Table) (lazy: Bool): Table := (List.range (text.length+1)).map fun a=>first (if lazy then[(a,kNone)]++row t a else row t a++[(a,kNone)])
def loopT (text: List Nat) (t: Table) (lazy: Bool): Table := (List.range (text.length+1)).map (row (loops t lazy))
theorem meant_plus (t: Table) (r: Row) (text holds: List Nat): meant .plus [t] r text holds=loopT text t r.lazy := rfl
theorem meant_quest (t: Table) (r: Row) (text holds: List Nat): meant .quest [t] r text holds=optT text t r.lazy := rfl
theorem meant_star (t: Table) (r: Row) (text holds: List Nat): meant .star [t] r text holds=optT text (loops t r.lazy) r.lazy := rfl
theorem opt_ends {t: Table} {lazy: Bool} {a e: Nat}: e∈ends (first (if lazy then[(a,kNone)]++row t a else row t a++[(a,kNone)]))↔e=a\/e∈ends (row t a) := by
 rw[first_ends]
 cases lazy
 ·simp only[Bool.false_eq_true,if_false];rw[ends_append,List.mem_append,single_ends];exact Or.comm
 ·simp only[if_true];rw[ends_append,List.mem_append,single_ends]
theorem opt_tab (tk: TextOk text holds) {t: Table} {lazy: Bool} (k: TabOk text.length t): TabOk text.length (optT text t lazy) := by
 have := tk.len
 refine tabOk_map (fun a ha=>?_) (fun a ha=>first_first _) (fun a ha e he=>?_)
 ·have hr := (row_wf k.wf a).2
  split
  ·exact first_wf (by omega) (append_wf (single_wf (by omega)) hr)
  ·exact first_wf (by omega) (append_wf hr (single_wf (by omega)))
 ·rcases opt_ends.mp he with h|h
  ·omega
  ·exact k.mono a e h
theorem loop_tab (tk: TextOk text holds) {t: Table} {lazy: Bool} (k: TabOk text.length t): TabOk text.length (loopT text t lazy) := by
 have kT := loops_ok lazy tk.len k
 exact tabOk_map (fun a _=>row_wf kT.wf a) (fun a _=>kT.fst a) (fun a _=>kT.mono a)
theorem loops_none {t: Table} {lazy: Bool} (k: TabOk text.length t) (h: ∀ a,row t a=[]) (a: Nat): row (loops t lazy) a=[] := by
 by_cases ha: a<=text.length
 ·rw[loops_fix lazy k.wf ha,h];rfl
 ·exact loops_row lazy k.wf ha
theorem Plus.lt {t: Table} {L: Nat} (ok: TabOk L t) (strict: ∀ a,∀ e∈ends (row t a),a<e) {a e: Nat} (h: Plus t a e): a<e := by
 cases h with
 |one h=>exact strict _ _ h
 |more hm h=>have := strict _ _ hm;have := h.le ok;omega
structure AppOk (I I' news: List Ins) (R ms: List Nat) (t: Nat): Prop where
 len: I'.length=I.length+news.length
 off: ∀ v,v<I.length->v∉R->insAt I' v=insAt I v
 core: ∀ v,v<I.length->core (insAt I' v)=core (insAt I v)
 way: ∀ s,s / 2<I.length->wayP I' s=if s∈ms then t else wayP I s
 new: ∀ j,insAt I' (I.length+j)=news.getD j (opI 6)
theorem app_ok {news: List Ins} {ms: List Nat} (hm: ∀ s∈ms,s / 2∈R) (hl: ∀ s∈ms,s / 2<I.length) (hR: ∀ v∈R,v<I.length) (t: Nat): AppOk I (patchL (I++news) ms t) news R ms t := by
 have P: PatchOk (I++news) (patchL (I++news) ms t) R ms t := patch_ok hm (fun s hs=>by have := hl s hs;simp;omega) t
 refine⟨by rw[P.len];simp,fun v hv h=>?_,fun v hv=>?_,fun s hs=>?_,fun j=>?_⟩
 ·rw[P.off v h,insAt_app_lt hv]
 ·rw[P.core,insAt_app_lt hv]
 ·rw[P.way,wayP_app hs]
 ·rw[P.off _ (fun h=>by have := hR _ h;omega),insAt_app_ge]
theorem choice_way (n b: Nat) (lazy: Bool) (h: insAt I' n=choiceI b lazy): (insAt I' n).op=0/\wayP I' (if lazy then 2 * n+1 else 2 * n)=b/\wayP I' (pastOf n lazy)=0 := by
 cases lazy with
 |true=>
  simp only[if_true,pastOf]
  rw[wayP_odd,Nat.mul_comm,wayP_even,h];exact⟨rfl,rfl,rfl⟩
 |false=>
  simp only[Bool.false_eq_true,if_false,pastOf]
  rw[show n * 2+1=2 * n+1 by omega,wayP_odd,wayP_even,h];exact⟨rfl,rfl,rfl⟩
theorem past_or {n: Nat} {lazy: Bool} {s: Nat} (h: s / 2=n): s=pastOf n lazy\/s=(if lazy then 2 * n+1 else 2 * n) := by
 cases lazy<;>simp[pastOf]<;>omega
theorem loop_prog {Ra: List Nat} {a: Item} (H: InvR text holds I (RH++[(Ra,a)])) (tk: TextOk text holds) (ha0: a.part.f.b≠0) (lazy: Bool) {it: Item} (hms: it.part.ms=[pastOf I.length lazy]) (he: it.part.f.e0=pastOf I.length lazy/\it.part.f.e1=pastOf I.length lazy) (hb: it.part.f.b=a.part.f.b\/it.part.f.b=I.length) (hsh: shpOf it.part=it.sh) (tab: TabOk text.length it.tb) (strict: it.part.f.nl=false->∀ x,∀ e∈ends (row it.tb x),x<e)
  (hr: ∀ I',(insAt I' 0).op=6->Agree I I' Ra a.part.ms->Loop I' Ra a.part.ms I.length a.part.f.b lazy->SemR I' text holds it.part.f.b it.part.ms it.tb)
  (hE: ∀ I',(insAt I' 0).op=6->Agree I I' Ra a.part.ms->Loop I' Ra a.part.ms I.length a.part.f.b lazy->it.calm=true->SemE I' text holds it.part.f.b it.part.ms it.tb) :
  InvR text holds (patchL (I++[choiceI a.part.f.b lazy]) a.part.ms I.length) (RH++[(I.length::Ra,it)]) := by
 have Sa := H.sem (Ra,a) (by simp)
 dsimp only at Sa
 have la: ∀ s∈a.part.ms,s / 2<I.length := fun s hs=>(Sa.ch.mem s hs).2
 have lR: ∀ v∈Ra,v<I.length := fun v hv=>(Sa.fr.pos v hv).2
 have P := app_ok (news := [choiceI a.part.f.b lazy]) Sa.fr.hm la lR I.length
 generalize patchL (I++[choiceI a.part.f.b lazy]) a.part.ms I.length=I' at P ⊢
 have hlen: I'.length=I.length+1 := P.len
 have hn: insAt I' I.length=choiceI a.part.f.b lazy := P.new 0
 obtain⟨h0,hw,hp⟩ := choice_way I.length a.part.f.b lazy hn
 have haR: a.part.f.b∈Ra := Sa.fr.hb.resolve_right ha0
 have A: Agree I I' Ra a.part.ms := agree_of (fun v hv=>P.core v (lR v hv)) fun s hs h=>by rw[P.way s (lR _ hs),if_neg h]
 have to: ∀ s∈a.part.ms,wayP I' s=I.length := fun s hs=>by rw[P.way s (la s hs),if_pos hs]
 have off: I.length∉Ra := fun h=>by have := lR _ h;omega
 have O: Loop I' Ra a.part.ms I.length a.part.f.b lazy := ⟨h0,hw,to,off⟩
 have hl := H.len
 have half := past_half I.length lazy
 refine step_of H (by omega) (fun v hv h=>P.off v hv (h (Ra,a) (by simp))) (fun p hp=>by simp at hp;subst hp;exact A) (fun z=>?_) (fun v hv=>?_) (fun v h1 h2=>?_) (fun p hp s hs=>?_) (fun s h1 h2 ho=>?_)
 ·refine⟨⟨?_,fun v hv=>?_,fun s hs=>?_,fun s hs h1=>?_,fun s hs hsn ho=>?_⟩,?_,by rw[hms];simp,fun k hk=>?_,fun h=>?_,fun _=>by rw[hms];simp,hsh,tab,strict,hr I' z A O,hE I' z A O⟩
  ·rcases hb with h|h
   ·rw[h];exact .inl (List.mem_cons_of_mem _ haR)
   ·rw[h];exact .inl (List.mem_cons_self ..)
  ·rcases List.mem_cons.mp hv with rfl|hv
   ·omega
   ·have := Sa.fr.pos v hv;omega
  ·rw[hms,List.mem_singleton]at hs;subst hs;rw[half];exact List.mem_cons_self ..
  ·rw[hms,List.mem_singleton]at hs;subst hs;rw[half];exact h0
  ·rw[hms,List.mem_singleton]at hsn
   rcases List.mem_cons.mp hs with h|h
   ·rcases past_or (lazy := lazy) h with h2|h2
    ·exact absurd h2 hsn
    ·left;rw[h2,hw];exact List.mem_cons_of_mem _ haR
   ·by_cases hsa: s∈a.part.ms
    ·left;rw[to s hsa];exact List.mem_cons_self ..
    ·rw[A.way s h hsa]
     exact(Sa.fr.cl s h hsa fun q=>by rw[<-A.op _ h];exact ho q).imp (List.mem_cons_of_mem _) id
  ·rw[hms,he.1]
   exact⟨rfl,fun e=>by rw[e]at half;omega,by rw[half];omega,hp⟩
  ·rw[hms]at hk;simp at hk;rw[<-hk];exact he.2
  ·rcases hb with h2|h2
   ·rw[h2]at h;exact absurd h ha0
   ·rw[h2]at h;omega
 ·rcases List.mem_cons.mp hv with rfl|hv
  ·exact .inr (Nat.le_refl _)
  ·exact .inl ⟨(Ra,a),by simp,hv⟩
 ·have: v=I.length := by omega
  subst this
  refine⟨by rw[h0];decide,fun h=>?_,fun h=>?_,fun h=>?_⟩<;>rw[h0]at h<;>simp at h
 ·simp at hp;subst hp
  right;rw[to s hs];omega
 ·have h3: s / 2=I.length := by omega
  rcases past_or (lazy := lazy) h3 with h4|h4
  ·left;rw[hms,h4];simp
  ·right;rw[h4,hw];have := lR _ haR;omega
theorem loop_sem {Ra: List Nat} {a: Item} (H: InvR text holds I (RH++[(Ra,a)])) (tk: TextOk text holds) (lazy: Bool): ∀ I',(insAt I' 0).op=6->Agree I I' Ra a.part.ms->Loop I' Ra a.part.ms I.length a.part.f.b lazy->
  (∀ x,x<=text.length->∀ e,Ent I' text holds [pastOf I.length lazy] a.part.f.b x e↔e∈ends (row (loops a.tb lazy) x))/\(a.calm=true->a.part.f.nl=false->SemE I' text holds a.part.f.b [pastOf I.length lazy] (loops a.tb lazy)) := by
 intro I' z A O
 have Sa := H.sem (Ra,a) (by simp)
 dsimp only at Sa
 refine⟨fun x hx e=>?_,fun hc hz=>loop_E Sa.fr A H.z z O (Sa.e hc) Sa.tab tk.len (Sa.strict hz)⟩
 rw[loop_R (L := text.length) Sa.fr A H.z z O Sa.r hx,loops_ends lazy Sa.tab _ x e hx (Nat.le_refl _)]
theorem opt_of_loop {Ra: List Nat} {a: Item} {lazy: Bool} (O: Loop I' Ra a.part.ms I.length a.part.f.b lazy): Opt I' I.length a.part.f.b lazy [pastOf I.length lazy] :=
 ⟨O.op,by simp,by cases lazy<;>simp[pastOf]<;>omega,O.way⟩
theorem step_plus {Ra: List Nat} {a: Item} (H: InvR text holds I (RH++[(Ra,a)])) (tk: TextOk text holds) (r: Row) (rev: Bool): ∃ Rn,InvR text holds (made I .plus [a.part] r rev).1 (RH++[(Rn,newItem I .plus [a] r rev text holds)]) := by
 have Sa := H.sem (Ra,a) (by simp)
 dsimp only at Sa
 have hshp: shape .plus [a.sh]=a.sh := rfl
 have tab := loop_tab (lazy := r.lazy) tk Sa.tab
 by_cases h0: a.part.f.b=0
 ·have em: made I .plus [a.part] r rev=(I,⟨noneF,[]⟩) := by show plusP I a.part r.lazy=_;unfold plusP;rw[if_pos h0]
  obtain⟨hm,hnl,hrow⟩ := Sa.none h0
  have ei: newItem I .plus [a] r rev text holds=⟨⟨noneF,[]⟩,(true,false),loopT text a.tb r.lazy,calmOf .plus [a]⟩ := by
   unfold newItem
   simp only[List.map_cons,List.map_nil]
   rw[em,hshp,<-Sa.sh,meant_plus]
   simp[shpOf,h0,hnl]
  rw[em,ei]
  exact⟨[],step_none H (fun p hp=>by simp at hp;subst hp;exact hm) tab (fun x=>by unfold loopT;rw[row_range];split<;>simp[loops_none Sa.tab hrow]) _⟩
 ·have em: made I .plus [a.part] r rev=(patchL (I++[choiceI a.part.f.b r.lazy]) a.part.ms I.length,⟨oneF a.part.f.b (pastOf I.length r.lazy) a.part.f.nl,[pastOf I.length r.lazy]⟩) := by
   show plusP I a.part r.lazy=_;unfold plusP;rw[if_neg h0]
  have ei: newItem I .plus [a] r rev text holds=⟨⟨oneF a.part.f.b (pastOf I.length r.lazy) a.part.f.nl,[pastOf I.length r.lazy]⟩,a.sh,loopT text a.tb r.lazy,calmOf .plus [a]⟩ := by
   unfold newItem
   simp only[List.map_cons,List.map_nil]
   rw[em,hshp,meant_plus]
  have hcalm: calmOf .plus [a]=true->a.calm=true/\a.part.f.nl=false := by
   intro h
   have: a.sh.2=a.part.f.nl := by rw[<-Sa.sh];rfl
   simp[calmOf,shp]at h
   exact⟨h.1,by rw[<-this];exact h.2⟩
  rw[em,ei]
  refine⟨_,loop_prog H tk h0 r.lazy rfl ⟨rfl,rfl⟩ (.inl rfl) Sa.sh tab (fun hz x e he=>?_) (fun I' z A O x hx e=>?_) (fun I' z A O hc x hx k hk=>?_)⟩
  ·unfold loopT at he
   rw[row_range]at he
   split at he
   ·exact((loops_ends r.lazy Sa.tab _ x e (by omega) (Nat.le_refl _)).mp he).lt Sa.tab (Sa.strict hz)
   ·simp[ends]at he
  ·show _↔e∈ends (row (loopT text a.tb r.lazy) x)
   unfold loopT
   rw[row_range,if_pos (by omega)]
   exact(loop_sem H tk r.lazy I' z A O).1 x hx e
  ·obtain⟨c1,c2⟩ := hcalm hc
   show ∃ l,_/\first l=shift k (row (loopT text a.tb r.lazy) x)
   unfold loopT
   rw[row_range,if_pos (by omega)]
   exact(loop_sem H tk r.lazy I' z A O).2 c1 c2 x hx k hk
end
section
variable {I I': List Ins} {text holds: List Nat} {R: List Nat} {RH RG: List (List Nat×Item)}
theorem nop_opt (tk: TextOk text holds) {t: Table} {lazy: Bool} (h: ∀ a,row t a=[]): optT text t lazy=nopT text := by
 unfold optT nopT
 refine List.map_congr_left fun a _=>?_
 rw[h];cases lazy<;>rfl
theorem step_quest {Ra: List Nat} {a: Item} (H: InvR text holds I (RH++[(Ra,a)])) (tk: TextOk text holds) (r: Row) (rev: Bool): ∃ Rn,InvR text holds (made I .quest [a.part] r rev).1 (RH++[(Rn,newItem I .quest [a] r rev text holds)]) := by
 have Sa := H.sem (Ra,a) (by simp)
 dsimp only at Sa
 have hshp: shape .quest [a.sh]=(false,true) := rfl
 have tab := opt_tab (lazy := r.lazy) tk Sa.tab
 have hcalm: calmOf .quest [a]=true->a.calm=true := by
  intro h;simp[calmOf]at h;exact h
 by_cases h0: a.part.f.b=0
 ·have em: made I .quest [a.part] r rev=nopP I := by show questP I a.part r.lazy=_;unfold questP;rw[if_pos h0]
  obtain⟨hm,hnl,hrow⟩ := Sa.none h0
  have ei: newItem I .quest [a] r rev text holds=⟨(nopP I).2,(false,true),nopT text,calmOf .quest [a]⟩ := by
   unfold newItem
   simp only[List.map_cons,List.map_nil]
   rw[em,hshp,meant_quest,nop_opt tk hrow]
  rw[em,ei]
  exact⟨_,step_nop H (fun p hp=>by simp at hp;subst hp;exact hm) tk _⟩
 ·have la: ∀ s∈a.part.ms,s / 2<I.length := fun s hs=>(Sa.ch.mem s hs).2
  have lR: ∀ v∈Ra,v<I.length := fun v hv=>(Sa.fr.pos v hv).2
  have haR: a.part.f.b∈Ra := Sa.fr.hb.resolve_right h0
  have half := past_half I.length r.lazy
  have hl := H.len
  have p0: pastOf I.length r.lazy≠0 := fun e=>by rw[e]at half;omega
  have hne := Sa.ne h0
  have e0: a.part.f.e0≠0 := by
   have hc := Sa.ch
   match h: a.part.ms,hne with
   |k::q,_=>rw[h]at hc;rw[hc.1];exact hc.2.1
  have em: made I .quest [a.part] r rev=(leadP (I++[choiceI a.part.f.b r.lazy]) (pastOf I.length r.lazy) a.part.f.e0,⟨⟨I.length,pastOf I.length r.lazy,a.part.f.e1,true⟩,pastOf I.length r.lazy::a.part.ms⟩) := by
   show questP I a.part r.lazy=_
   unfold questP;rw[if_neg h0]
   simp only[joinI,joinE,if_neg p0,if_neg e0]
  have ei: newItem I .quest [a] r rev text holds=⟨⟨⟨I.length,pastOf I.length r.lazy,a.part.f.e1,true⟩,pastOf I.length r.lazy::a.part.ms⟩,(false,true),optT text a.tb r.lazy,calmOf .quest [a]⟩ := by
   unfold newItem
   simp only[List.map_cons,List.map_nil]
   rw[em,hshp,meant_quest]
  rw[em,ei]
  dsimp only
  have hp1: pastOf I.length r.lazy / 2<(I++[choiceI a.part.f.b r.lazy]).length := by rw[half];simp
  have hlen: (leadP (I++[choiceI a.part.f.b r.lazy]) (pastOf I.length r.lazy) a.part.f.e0).length=I.length+1 := by rw[leadP_len];simp
  have keep: ∀ v,v<I.length->insAt (leadP (I++[choiceI a.part.f.b r.lazy]) (pastOf I.length r.lazy) a.part.f.e0) v=insAt I v := fun v hv=>by
   rw[insAt_lead hp1,half,if_neg (by omega),insAt_app_lt hv]
  have hn1: insAt (I++[choiceI a.part.f.b r.lazy]) I.length=choiceI a.part.f.b r.lazy := by rw[insAt_push,if_pos rfl]
  obtain⟨q0,q1,_⟩ := choice_way (I' := I++[choiceI a.part.f.b r.lazy]) I.length a.part.f.b r.lazy hn1
  have hway := wayP_lead (is := I++[choiceI a.part.f.b r.lazy]) (k := pastOf I.length r.lazy) a.part.f.e0 hp1
  have hcore := core_lead (is := I++[choiceI a.part.f.b r.lazy]) (k := pastOf I.length r.lazy) (v := a.part.f.e0) hp1
  generalize leadP (I++[choiceI a.part.f.b r.lazy]) (pastOf I.length r.lazy) a.part.f.e0=I' at hlen keep hway hcore ⊢
  have bne: (if r.lazy then 2 * I.length+1 else 2 * I.length)≠pastOf I.length r.lazy := by cases r.lazy<;>simp[pastOf]<;>omega
  have hwb: wayP I' (if r.lazy then 2 * I.length+1 else 2 * I.length)=a.part.f.b := by rw[hway,if_neg bne,q1]
  have hwp: wayP I' (pastOf I.length r.lazy)=a.part.f.e0 := by rw[hway,if_pos rfl]
  have hop: (insAt I' I.length).op=0 := by rw[core_op (hcore _)];exact q0
  have kR: ∀ v∈Ra,insAt I' v=insAt I v := fun v hv=>keep v (lR v hv)
  have pm: pastOf I.length r.lazy∉a.part.ms := past_mem Sa.ch r.lazy
  have bm: (if r.lazy then 2 * I.length+1 else 2 * I.length)∉pastOf I.length r.lazy::a.part.ms := fun h=>by
   rcases List.mem_cons.mp h with h|h
   ·exact bne h
   ·have := la _ h;revert this;split<;>omega
  have O: Opt I' I.length a.part.f.b r.lazy (pastOf I.length r.lazy::a.part.ms) := ⟨hop,List.mem_cons_self ..,bm,hwb⟩
  have hms: ∀ s,s / 2∈Ra->(s∈pastOf I.length r.lazy::a.part.ms↔s∈a.part.ms) := fun s hs=>by
   rw[List.mem_cons]
   refine⟨fun h=>h.resolve_left fun e=>?_,.inr⟩
   rw[e,half]at hs;have := lR _ hs;omega
  refine⟨I.length::Ra,step_of H (by omega) (fun v hv _=>keep v hv) (fun p hp=>by simp at hp;subst hp;exact Agree.of_eq kR) (fun z=>?_) (fun v hv=>?_) (fun v h1 h2=>?_) (fun p hp s hs=>?_) (fun s h1 h2 ho=>?_)⟩
  ·have Sm := Sa.move kR (by omega) H.z z
   have A: Agree I I' Ra a.part.ms := Agree.of_eq kR
   refine⟨⟨.inl (List.mem_cons_self ..),fun v hv=>?_,fun s hs=>?_,fun s hs h1=>?_,fun s hs hsn ho=>?_⟩,⟨rfl,p0,by rw[half];omega,by rw[hwp];exact Sm.ch⟩,List.nodup_cons.mpr ⟨pm,Sa.nd⟩,fun k hk=>?_,fun h=>by(have h: I.length=0 := h);omega,by simp,?_,tab,by simp,fun x hx e=>?_,fun hc x hx k hk=>?_⟩
   ·rcases List.mem_cons.mp hv with rfl|hv
    ·omega
    ·exact Sm.fr.pos v hv
   ·rcases List.mem_cons.mp hs with rfl|hs
    ·rw[half];exact List.mem_cons_self ..
    ·exact List.mem_cons_of_mem _ (Sa.fr.hm s hs)
   ·rcases List.mem_cons.mp hs with rfl|hs
    ·rw[half];exact hop
    ·exact Sm.fr.odd s hs h1
   ·rw[List.mem_cons,not_or]at hsn
    rcases List.mem_cons.mp hs with h|h
    ·rcases past_or (lazy := r.lazy) h with h2|h2
     ·exact absurd h2 hsn.1
     ·left;rw[h2,hwb];exact List.mem_cons_of_mem _ haR
    ·exact(Sm.fr.cl s h hsn.2 ho).imp (List.mem_cons_of_mem _) id
   ·have: (pastOf I.length r.lazy::a.part.ms).getLast?=a.part.ms.getLast? := by
     match h: a.part.ms,hne with
     |y::ys,_=>simp
    dsimp only at hk
    rw[this]at hk
    exact Sa.la k hk
   ·show(decide (I.length=0),true)=_
    rw[decide_eq_false (by omega)]
   ·unfold optT
    rw[row_range,if_pos (by omega),opt_ends,opt_R O,frame_R Sa.fr A H.z z hms Sa.r x hx e]
   ·unfold optT
    rw[row_range,if_pos (by omega)]
    obtain⟨l,w1,w2⟩ := opt_E O (frame_E Sa.fr A H.z z hms (Sa.e (hcalm hc))) hx hk
    exact⟨l,w1,by rw[w2]⟩
  ·rcases List.mem_cons.mp hv with rfl|hv
   ·exact .inr (Nat.le_refl _)
   ·exact .inl ⟨(Ra,a),by simp,hv⟩
  ·have: v=I.length := by omega
   subst this
   refine⟨by rw[hop];decide,fun h=>?_,fun h=>?_,fun h=>?_⟩<;>rw[hop]at h<;>simp at h
  ·simp at hp;subst hp
   exact .inl (List.mem_cons_of_mem _ hs)
  ·have h3: s / 2=I.length := by omega
   rcases past_or (lazy := r.lazy) h3 with h4|h4
   ·left;rw[h4];exact List.mem_cons_self ..
   ·right;rw[h4,hwb];have := lR _ haR;omega
theorem optT_congr {t t': Table} {lazy: Bool} (h: ∀ a,a<=text.length->row t a=row t' a): optT text t lazy=optT text t' lazy := by
 unfold optT
 refine List.map_congr_left fun a ha=>?_
 rw[h a (by have := List.mem_range.mp ha;omega)]
theorem step_star {Ra: List Nat} {a: Item} (H: InvR text holds I (RH++[(Ra,a)])) (tk: TextOk text holds) (r: Row) (rev: Bool): ∃ Rn,InvR text holds (made I .star [a.part] r rev).1 (RH++[(Rn,newItem I .star [a] r rev text holds)]) := by
 have Sa := H.sem (Ra,a) (by simp)
 dsimp only at Sa
 have hshp: shape .star [a.sh]=(false,true) := rfl
 have okT := loops_ok r.lazy tk.len Sa.tab
 have tab := opt_tab (lazy := r.lazy) tk okT
 have hsh2: a.sh.2=a.part.f.nl := by rw[<-Sa.sh];rfl
 by_cases h0: a.part.f.b=0
 ·have em: made I .star [a.part] r rev=nopP I := by show starP I a.part r.lazy=_;unfold starP;rw[if_pos h0]
  obtain⟨hm,hnl,hrow⟩ := Sa.none h0
  have ei: newItem I .star [a] r rev text holds=⟨(nopP I).2,(false,true),nopT text,calmOf .star [a]⟩ := by
   unfold newItem
   simp only[List.map_cons,List.map_nil]
   rw[em,hshp,meant_star,nop_opt tk (loops_none Sa.tab hrow)]
  rw[em,ei]
  exact⟨_,step_nop H (fun p hp=>by simp at hp;subst hp;exact hm) tk _⟩
 ·cases hz: a.part.f.nl with
  |true=>
   obtain⟨Rp,Hp⟩ := step_plus H tk r rev
   obtain⟨Rq,Hq⟩ := step_quest Hp tk r rev
   have e1: (newItem I .plus [a] r rev text holds).part=(plusP I a.part r.lazy).2 := rfl
   have e2: (made I .plus [a.part] r rev).1=(plusP I a.part r.lazy).1 := rfl
   have em: made I .star [a.part] r rev=made (made I .plus [a.part] r rev).1 .quest [(newItem I .plus [a] r rev text holds).part] r rev := by
    show starP I a.part r.lazy=questP _ _ _
    unfold starP;rw[if_neg h0,if_pos hz];rfl
   have ei: newItem I .star [a] r rev text holds=newItem (made I .plus [a.part] r rev).1 .quest [newItem I .plus [a] r rev text holds] r rev text holds := by
    have c1: calmOf .star [a]=false := by simp[calmOf,shp,hsh2,hz]
    have c2: calmOf .plus [a]=false := by simp[calmOf,shp,hsh2,hz]
    have c3: calmOf .quest [newItem I .plus [a] r rev text holds]=false := by
     have: (newItem I .plus [a] r rev text holds).calm=false := c2
     simp[calmOf,this]
    have t3: meant .star [a.tb] r text holds=meant .quest [(newItem I .plus [a] r rev text holds).tb] r text holds := by
     rw[meant_star,meant_quest]
     refine optT_congr fun x hx=>?_
     show _=row (loopT text a.tb r.lazy) x
     unfold loopT;rw[row_range,if_pos (by omega)]
    have u: newItem I .star [a] r rev text holds=⟨(made I .star [a.part] r rev).2,(false,true),meant .star [a.tb] r text holds,calmOf .star [a]⟩ := rfl
    have v: newItem (made I .plus [a.part] r rev).1 .quest [newItem I .plus [a] r rev text holds] r rev text holds=⟨(made (made I .plus [a.part] r rev).1 .quest [(newItem I .plus [a] r rev text holds).part] r rev).2,(false,true),meant .quest [(newItem I .plus [a] r rev text holds).tb] r text holds,calmOf .quest [newItem I .plus [a] r rev text holds]⟩ := rfl
    rw[u,v,<-em,t3,c1,c3]
   rw[em,ei]
   exact⟨Rq,Hq⟩
  |false=>
   have em: made I .star [a.part] r rev=(patchL (I++[choiceI a.part.f.b r.lazy]) a.part.ms I.length,⟨oneF I.length (pastOf I.length r.lazy) true,[pastOf I.length r.lazy]⟩) := by
    show starP I a.part r.lazy=_;unfold starP;rw[if_neg h0,if_neg (by rw[hz];simp)]
   have ei: newItem I .star [a] r rev text holds=⟨⟨oneF I.length (pastOf I.length r.lazy) true,[pastOf I.length r.lazy]⟩,(false,true),optT text (loops a.tb r.lazy) r.lazy,calmOf .star [a]⟩ := by
    unfold newItem
    simp only[List.map_cons,List.map_nil]
    rw[em,hshp,meant_star]
   have hcalm: calmOf .star [a]=true->a.calm=true := by
    intro h;simp[calmOf]at h;exact h.1
   rw[em,ei]
   refine⟨_,loop_prog H tk h0 r.lazy rfl ⟨rfl,rfl⟩ (.inr rfl) ?_ tab (by simp[oneF]) (fun I' z A O x hx e=>?_) (fun I' z A O hc x hx k hk=>?_)⟩
   ·show(decide (I.length=0),true)=_
    have := H.len
    rw[decide_eq_false (by omega)]
   ·show _↔e∈ends (row (optT text (loops a.tb r.lazy) r.lazy) x)
    unfold optT
    rw[row_range,if_pos (by omega),opt_ends,<-(loop_sem H tk r.lazy I' z A O).1 x hx e]
    exact opt_R (opt_of_loop O)
   ·show ∃ l,_/\first l=shift k (row (optT text (loops a.tb r.lazy) r.lazy) x)
    unfold optT
    rw[row_range,if_pos (by omega)]
    obtain⟨l,w1,w2⟩ := opt_E (opt_of_loop O) ((loop_sem H tk r.lazy I' z A O).2 (hcalm hc) hz) hx hk
    exact⟨l,w1,w2⟩
end
section
variable {I I': List Ins} {text holds: List Nat} {R: List Nat} {RH RG: List (List Nat×Item)}
def altT (text: List Nat) (t1 t2: Table): Table := (List.range (text.length+1)).map fun a=>first (row t1 a++row t2 a)
theorem meant_alt (t1 t2: Table) (r: Row) (text holds: List Nat): meant .alt [t1,t2] r text holds=altT text t1 t2 := rfl
theorem alt_ends {t1 t2: Table} {a e: Nat}: e∈ends (first (row t1 a++row t2 a))↔e∈ends (row t1 a)\/e∈ends (row t2 a) := by
 rw[first_ends,ends_append,List.mem_append]
theorem alt_tab (tk: TextOk text holds) {t1 t2: Table} (k1: TabOk text.length t1) (k2: TabOk text.length t2): TabOk text.length (altT text t1 t2) := by
 have := tk.len
 refine tabOk_map (fun a ha=>first_wf (by omega) (append_wf (row_wf k1.wf a).2 (row_wf k2.wf a).2)) (fun a ha=>first_first _) (fun a ha e he=>?_)
 rcases alt_ends.mp he with h|h
 ·exact k1.mono a e h
 ·exact k2.mono a e h
theorem row_out {L: Nat} {t: Table} (k: TabOk L t) {a: Nat} (h: ¬ a<=L): row t a=[] := by
 unfold row;rw[List.getD_eq_getElem?_getD,List.getElem?_eq_none (by rw[k.wf.1];omega)];rfl
theorem step_alt {Ra Rb: List Nat} {a b: Item} (H: InvR text holds I (RH++[(Ra,a),(Rb,b)])) (tk: TextOk text holds) (r: Row) (rev: Bool): ∃ Rn,InvR text holds (made I .alt [a.part,b.part] r rev).1 (RH++[(Rn,newItem I .alt [a,b] r rev text holds)]) := by
 have Sa := H.sem (Ra,a) (by simp)
 have Sb := H.sem (Rb,b) (by simp)
 have dab: ∀ v∈Ra,v∉Rb := by
  have := (List.pairwise_append.mp H.dis).2.1
  simp at this;exact this
 have dba: ∀ v∈Rb,v∉Ra := fun v h1 h2=>dab v h2 h1
 dsimp only at Sa Sb
 have sa: a.sh=(decide (a.part.f.b=0),a.part.f.nl) := Sa.sh.symm
 have sb: b.sh=(decide (b.part.f.b=0),b.part.f.nl) := Sb.sh.symm
 have hsh: shape .alt [a.sh,b.sh]=(a.sh.1&&b.sh.1,a.sh.2||b.sh.2) := rfl
 have tab := alt_tab tk Sa.tab Sb.tab
 have hcalm: calmOf .alt [a,b]=true->a.calm=true/\b.calm=true := by
  intro h;simpa [calmOf]using h
 by_cases ha0: a.part.f.b=0
 ·obtain⟨hm,hnl,hrow⟩ := Sa.none ha0
  have em: made I .alt [a.part,b.part] r rev=(I,b.part) := by show altP I a.part b.part=_;unfold altP;rw[if_pos ha0]
  have ei: newItem I .alt [a,b] r rev text holds=⟨b.part,b.sh,altT text a.tb b.tb,calmOf .alt [a,b]⟩ := by
   unfold newItem
   simp only[List.map_cons,List.map_nil]
   rw[em,hsh,meant_alt,sa,sb]
   simp[ha0,hnl]
  rw[em,ei]
  refine⟨Rb,step_same H (g := (Rb,b)) (by simp) (fun p hp=>by simp at hp;rcases hp with rfl|rfl;exact .inl hm;exact .inr rfl) tab (fun x=>?_) (fun h=>(hcalm h).2)⟩
  unfold altT
  rw[row_range]
  split
  ·rw[hrow];exact Sb.tab.fst x
  ·exact(row_out Sb.tab (by omega)).symm
 ·by_cases hb0: b.part.f.b=0
  ·obtain⟨hm,hnl,hrow⟩ := Sb.none hb0
   have em: made I .alt [a.part,b.part] r rev=(I,a.part) := by show altP I a.part b.part=_;unfold altP;rw[if_neg ha0,if_pos hb0]
   have ei: newItem I .alt [a,b] r rev text holds=⟨a.part,a.sh,altT text a.tb b.tb,calmOf .alt [a,b]⟩ := by
    unfold newItem
    simp only[List.map_cons,List.map_nil]
    rw[em,hsh,meant_alt,sa,sb]
    simp[hb0,hnl]
   rw[em,ei]
   refine⟨Ra,step_same H (g := (Ra,a)) (by simp) (fun p hp=>by simp at hp;rcases hp with rfl|rfl;exact .inr rfl;exact .inl hm) tab (fun x=>?_) (fun h=>(hcalm h).1)⟩
   unfold altT
   rw[row_range]
   split
   ·rw[hrow,List.append_nil];exact Sa.tab.fst x
   ·exact(row_out Sa.tab (by omega)).symm
  ·have la: ∀ s∈a.part.ms,s / 2<I.length := fun s hs=>(Sa.ch.mem s hs).2
   have lb: ∀ s∈b.part.ms,s / 2<I.length := fun s hs=>(Sb.ch.mem s hs).2
   have lRa: ∀ v∈Ra,v<I.length := fun v hv=>(Sa.fr.pos v hv).2
   have lRb: ∀ v∈Rb,v<I.length := fun v hv=>(Sb.fr.pos v hv).2
   have haR: a.part.f.b∈Ra := Sa.fr.hb.resolve_right ha0
   have hbR: b.part.f.b∈Rb := Sb.fr.hb.resolve_right hb0
   have hl := H.len
   have nea := Sa.ne ha0
   have neb := Sb.ne hb0
   have head: ∀{it: Item},Chain I it.part.f.e0 it.part.ms->it.part.ms≠[]->it.part.f.e0≠0 := by
    intro it hc hne
    match h: it.part.ms,hne with
    |k::q,_=>rw[h]at hc;rw[hc.1];exact hc.2.1
   have ea0 := head Sa.ch nea
   have eb0 := head Sb.ch neb
   have hlast := List.getLast?_eq_some_getLast nea
   have ela: a.part.f.e1=a.part.ms.getLast nea := Sa.la _ hlast
   have hlast': a.part.ms.getLast?=some a.part.f.e1 := by rw[ela];exact hlast
   have e1m: a.part.f.e1∈a.part.ms := List.mem_of_getLast? hlast'
   have em: made I .alt [a.part,b.part] r rev=(leadP (I++[(⟨0,a.part.f.b,b.part.f.b,0,0,false⟩: Ins)]) a.part.f.e1 b.part.f.e0,⟨⟨I.length,a.part.f.e0,b.part.f.e1,a.part.f.nl||b.part.f.nl⟩,a.part.ms++b.part.ms⟩) := by
    show altP I a.part b.part=_
    unfold altP;rw[if_neg ha0,if_neg hb0]
    simp only[joinI,joinE,if_neg ea0,if_neg eb0]
   have ei: newItem I .alt [a,b] r rev text holds=⟨⟨⟨I.length,a.part.f.e0,b.part.f.e1,a.part.f.nl||b.part.f.nl⟩,a.part.ms++b.part.ms⟩,(false,a.part.f.nl||b.part.f.nl),altT text a.tb b.tb,calmOf .alt [a,b]⟩ := by
    unfold newItem
    simp only[List.map_cons,List.map_nil]
    rw[em,hsh,meant_alt,sa,sb]
    simp[ha0,hb0]
   rw[em,ei]
   dsimp only
   have hn1: insAt (I++[(⟨0,a.part.f.b,b.part.f.b,0,0,false⟩: Ins)]) I.length=⟨0,a.part.f.b,b.part.f.b,0,0,false⟩ := by rw[insAt_push,if_pos rfl]
   have hp1: a.part.f.e1 / 2<(I++[(⟨0,a.part.f.b,b.part.f.b,0,0,false⟩: Ins)]).length := by have := la _ e1m;simp;omega
   have e1R: a.part.f.e1 / 2∈Ra := Sa.fr.hm _ e1m
   have hlen: (leadP (I++[(⟨0,a.part.f.b,b.part.f.b,0,0,false⟩: Ins)]) a.part.f.e1 b.part.f.e0).length=I.length+1 := by rw[leadP_len];simp
   have keep: ∀ v,v<I.length->v∉Ra->insAt (leadP (I++[(⟨0,a.part.f.b,b.part.f.b,0,0,false⟩: Ins)]) a.part.f.e1 b.part.f.e0) v=insAt I v := fun v hv h=>by
    rw[insAt_lead hp1,if_neg (fun e: v=a.part.f.e1 / 2=>h (by rw[e];exact e1R)),insAt_app_lt hv]
   have hn: insAt (leadP (I++[(⟨0,a.part.f.b,b.part.f.b,0,0,false⟩: Ins)]) a.part.f.e1 b.part.f.e0) I.length=⟨0,a.part.f.b,b.part.f.b,0,0,false⟩ := by
    rw[insAt_lead hp1,if_neg (fun e=>by have := la _ e1m;omega),hn1]
   have hway: ∀ s,s / 2<I.length->wayP (leadP (I++[(⟨0,a.part.f.b,b.part.f.b,0,0,false⟩: Ins)]) a.part.f.e1 b.part.f.e0) s=if s=a.part.f.e1 then b.part.f.e0 else wayP I s := fun s hs=>by
    rw[wayP_lead _ hp1,wayP_app hs]
   have hcore: ∀ v,v<I.length->core (insAt (leadP (I++[(⟨0,a.part.f.b,b.part.f.b,0,0,false⟩: Ins)]) a.part.f.e1 b.part.f.e0) v)=core (insAt I v) := fun v hv=>by rw[core_lead hp1,insAt_app_lt hv]
   have chain: Chain (leadP (I++[(⟨0,a.part.f.b,b.part.f.b,0,0,false⟩: Ins)]) a.part.f.e1 b.part.f.e0) a.part.f.e0 (a.part.ms++b.part.ms) :=
    Chain.join (Sa.ch.push _) (Sb.ch.push _) hlast' eb0 (fun h=>dab _ e1R (Sb.fr.hm _ h)) Sa.nd
   generalize leadP (I++[(⟨0,a.part.f.b,b.part.f.b,0,0,false⟩: Ins)]) a.part.f.e1 b.part.f.e0=I' at hlen keep hn hway hcore chain ⊢
   have h0: (insAt I' I.length).op=0 := by rw[hn]
   have w0: wayP I' (2 * I.length)=a.part.f.b := by rw[wayP_even,hn]
   have w1: wayP I' (2 * I.length+1)=b.part.f.b := by rw[wayP_odd,hn]
   have Aa: Agree I I' Ra a.part.ms := agree_of (fun v hv=>hcore v (lRa v hv)) fun s hs h=>by rw[hway s (lRa _ hs),if_neg (fun e: s=a.part.f.e1=>h (by rw[e];exact e1m))]
   have kb: ∀ v∈Rb,insAt I' v=insAt I v := fun v hv=>keep v (lRb v hv) (dba v hv)
   have Ab: Agree I I' Rb b.part.ms := Agree.of_eq kb
   have ma: ∀ s,s / 2∈Ra->(s∈a.part.ms++b.part.ms↔s∈a.part.ms) := fun s hs=>by
    rw[List.mem_append]
    exact⟨fun h=>h.resolve_right fun h=>dab _ hs (Sb.fr.hm s h),.inl⟩
   have mb: ∀ s,s / 2∈Rb->(s∈a.part.ms++b.part.ms↔s∈b.part.ms) := fun s hs=>by
    rw[List.mem_append]
    exact⟨fun h=>h.resolve_left fun h=>dba _ hs (Sa.fr.hm s h),.inr⟩
   have n0: 2 * I.length∉a.part.ms++b.part.ms := fun h=>by
    rcases List.mem_append.mp h with h|h
    ·have := la _ h;omega
    ·have := lb _ h;omega
   have n1: 2 * I.length+1∉a.part.ms++b.part.ms := fun h=>by
    rcases List.mem_append.mp h with h|h
    ·have := la _ h;omega
    ·have := lb _ h;omega
   refine⟨I.length::(Ra++Rb),step_of H (by omega) (fun v hv h=>keep v hv (h (Ra,a) (by simp))) (fun p hp=>by simp at hp;rcases hp with rfl|rfl;exact Aa;exact Ab) (fun z=>?_) (fun v hv=>?_) (fun v h1 h2=>?_) (fun p hp s hs=>?_) (fun s h1 h2 ho=>?_)⟩
   ·refine⟨⟨.inl (List.mem_cons_self ..),fun v hv=>?_,fun s hs=>?_,fun s hs h1=>?_,fun s hs hsn ho=>?_⟩,chain,?_,fun k hk=>?_,fun h=>by(have h: I.length=0 := h);omega,by simp[nea],?_,tab,fun hz x e he=>?_,fun x hx e=>?_,fun hc x hx k hk=>?_⟩
    ·rcases List.mem_cons.mp hv with rfl|hv
     ·omega
     ·rcases List.mem_append.mp hv with h|h
      ·have := Sa.fr.pos v h;omega
      ·have := Sb.fr.pos v h;omega
    ·refine List.mem_cons_of_mem _ ?_
     rcases List.mem_append.mp hs with h|h
     ·exact List.mem_append_left _ (Sa.fr.hm s h)
     ·exact List.mem_append_right _ (Sb.fr.hm s h)
    ·rcases List.mem_append.mp hs with h|h
     ·rw[Aa.op _ (Sa.fr.hm s h)];exact Sa.fr.odd s h h1
     ·rw[Ab.op _ (Sb.fr.hm s h)];exact Sb.fr.odd s h h1
    ·rw[List.mem_append,not_or]at hsn
     rcases List.mem_cons.mp hs with h|h
     ·have: s=2 * I.length\/s=2 * I.length+1 := by omega
      left
      rcases this with rfl|rfl
      ·rw[w0];exact List.mem_cons_of_mem _ (List.mem_append_left _ haR)
      ·rw[w1];exact List.mem_cons_of_mem _ (List.mem_append_right _ hbR)
     ·rcases List.mem_append.mp h with h|h
      ·rw[Aa.way s h hsn.1]
       exact(Sa.fr.cl s h hsn.1 fun q=>by rw[<-Aa.op _ h];exact ho q).imp (fun q=>List.mem_cons_of_mem _ (List.mem_append_left _ q)) id
      ·rw[Ab.way s h hsn.2]
       exact(Sb.fr.cl s h hsn.2 fun q=>by rw[<-Ab.op _ h];exact ho q).imp (fun q=>List.mem_cons_of_mem _ (List.mem_append_right _ q)) id
    ·rw[List.nodup_append]
     exact⟨Sa.nd,Sb.nd,fun x hx y hy e=>by subst e;exact dab _ (Sa.fr.hm x hx) (Sb.fr.hm x hy)⟩
    ·dsimp only at hk
     rw[List.getLast?_append,List.getLast?_eq_some_getLast neb,Option.some_or]at hk
     exact Sb.la k (by rw[List.getLast?_eq_some_getLast neb];exact hk)
    ·show(decide (I.length=0),_)=_
     rw[decide_eq_false (by omega)]
    ·have hz: (a.part.f.nl||b.part.f.nl)=false := hz
     rw[Bool.or_eq_false_iff]at hz
     have he: e∈ends (row (altT text a.tb b.tb) x) := he
     unfold altT at he
     rw[row_range]at he
     split at he
     ·rcases alt_ends.mp he with h|h
      ·exact Sa.strict hz.1 x e h
      ·exact Sb.strict hz.2 x e h
     ·simp[ends]at he
    ·unfold altT
     rw[row_range,if_pos (by omega),alt_ends,alt_R h0,ReX_go n0,ReX_go n1,w0,w1,frame_R Sa.fr Aa H.z z ma Sa.r x hx e,frame_R Sb.fr Ab H.z z mb Sb.r x hx e]
    ·obtain⟨ca,cb⟩ := hcalm hc
     obtain⟨l1,q1,q2⟩ := frame_E Sa.fr Aa H.z z ma (Sa.e ca) x hx k hk
     obtain⟨l2,q3,q4⟩ := frame_E Sb.fr Ab H.z z mb (Sb.e cb) x hx k hk
     unfold altT
     rw[row_range,if_pos (by omega),alt_outs h0]
     refine⟨l1++l2,EnX.append (S := [(2 * I.length,x,k)]) (EnX_go n0 (by rw[w0];exact q1)) (EnX_go n1 (by rw[w1];exact q3)),?_⟩
     rw[first_append,q2,q4,<-shift_append,first_shift]
   ·rcases List.mem_cons.mp hv with rfl|hv
    ·exact .inr (Nat.le_refl _)
    ·rcases List.mem_append.mp hv with h|h
     ·exact .inl ⟨(Ra,a),by simp,h⟩
     ·exact .inl ⟨(Rb,b),by simp,h⟩
   ·have: v=I.length := by omega
    subst this
    refine⟨by rw[h0];decide,fun h=>?_,fun h=>?_,fun h=>?_⟩<;>rw[h0]at h<;>simp at h
   ·simp at hp
    rcases hp with rfl|rfl
    ·exact .inl (List.mem_append_left _ hs)
    ·exact .inl (List.mem_append_right _ hs)
   ·have: s=2 * I.length\/s=2 * I.length+1 := by omega
    right
    rcases this with rfl|rfl
    ·rw[w0];have := lRa _ haR;omega
    ·rw[w1];have := lRb _ hbR;omega
def capT (text: List Nat) (t: Table) (s0 s1: Nat): Table := (List.range (text.length+1)).map fun a=>group (row t a) a s0 s1
theorem meant_cap (t: Table) (r: Row) (text holds: List Nat): meant .capture [t] r text holds=capT text t r.s0 r.s1 := rfl
theorem group_ends {l: List Way} {a s0 s1: Nat}: ends (group l a s0 s1)=ends l := by unfold ends group;rw[List.map_map];rfl
theorem cap_tab {t: Table} (s0 s1: Nat) (k: TabOk text.length t): TabOk text.length (capT text t s0 s1) := by
 refine tabOk_map (fun a ha=>?_) (fun a ha=>?_) (fun a ha e he=>?_)
 ·have := row_wf k.wf a
  refine⟨by simp[group];exact this.1,fun p hp=>?_⟩
  obtain⟨q,hq,rfl⟩ := List.mem_map.mp hp
  exact⟨(this.2 q hq).1,kept_len (by simp[kMark_len])⟩
 ·unfold group
  rw[first_map (g := fun p=>(p.1,kept (kept (kMark s0 a) p.2) (kMark s1 p.1))) (fun _=>rfl),k.fst]
 ·rw[group_ends]at he;exact k.mono a e he
theorem step_capture {Ra: List Nat} {a: Item} (H: InvR text holds I (RH++[(Ra,a)])) (tk: TextOk text holds) {r: Row} {rev: Bool} (hr: RowOk rev r): ∃ Rn,InvR text holds (made I .capture [a.part] r rev).1 (RH++[(Rn,newItem I .capture [a] r rev text holds)]) := by
 have Sa := H.sem (Ra,a) (by simp)
 dsimp only at Sa
 have hshp: shape .capture [a.sh]=a.sh := rfl
 have tab := cap_tab r.s0 r.s1 Sa.tab
 have hcalm: calmOf .capture [a]=true->a.calm=true := by
  intro h;simp[calmOf]at h;exact h
 by_cases h0: a.part.f.b=0
 ·have em: made I .capture [a.part] r rev=(I,⟨noneF,[]⟩) := by show capP I a.part _ rev=_;unfold capP;rw[if_pos h0]
  obtain⟨hm,hnl,hrow⟩ := Sa.none h0
  have ei: newItem I .capture [a] r rev text holds=⟨⟨noneF,[]⟩,(true,false),capT text a.tb r.s0 r.s1,calmOf .capture [a]⟩ := by
   unfold newItem
   simp only[List.map_cons,List.map_nil]
   rw[em,hshp,<-Sa.sh,meant_cap]
   simp[shpOf,h0,hnl]
  rw[em,ei]
  exact⟨[],step_none H (fun p hp=>by simp at hp;subst hp;exact hm) tab (fun x=>by unfold capT;rw[row_range];split<;>simp[hrow,group]) _⟩
 ·have la: ∀ s∈a.part.ms,s / 2<I.length := fun s hs=>(Sa.ch.mem s hs).2
  have lR: ∀ v∈Ra,v<I.length := fun v hv=>(Sa.fr.pos v hv).2
  have haR: a.part.f.b∈Ra := Sa.fr.hb.resolve_right h0
  have hl := H.len
  obtain⟨g,hg,hs0,hs1⟩ := hr.slots
  have hmin: min r.s0 r.s1 / 2=g := by rw[hs0,hs1];cases rev<;>simp<;>omega
  have em: made I .capture [a.part] r rev=(patchL (I++[⟨2,a.part.f.b,if rev then 2 * (1+g)+1 else 2 * (1+g),0,0,false⟩,⟨2,0,if rev then 2 * (1+g)else 2 * (1+g)+1,0,0,false⟩]) a.part.ms (I.length+1),⟨oneF I.length ((I.length+1) * 2) a.part.f.nl,[(I.length+1) * 2]⟩) := by
   show capP I a.part (1+min r.s0 r.s1 / 2) rev=_
   unfold capP;rw[if_neg h0,hmin]
  have ei: newItem I .capture [a] r rev text holds=⟨⟨oneF I.length ((I.length+1) * 2) a.part.f.nl,[(I.length+1) * 2]⟩,(false,a.part.f.nl),capT text a.tb r.s0 r.s1,calmOf .capture [a]⟩ := by
   unfold newItem
   simp only[List.map_cons,List.map_nil]
   rw[em,hshp,<-Sa.sh,meant_cap]
   simp[shpOf,h0]
  rw[em,ei]
  dsimp only
  have P := app_ok (news := [⟨2,a.part.f.b,if rev then 2 * (1+g)+1 else 2 * (1+g),0,0,false⟩,⟨2,0,if rev then 2 * (1+g)else 2 * (1+g)+1,0,0,false⟩]) Sa.fr.hm la lR (I.length+1)
  generalize patchL (I++[⟨2,a.part.f.b,if rev then 2 * (1+g)+1 else 2 * (1+g),0,0,false⟩,⟨2,0,if rev then 2 * (1+g)else 2 * (1+g)+1,0,0,false⟩]) a.part.ms (I.length+1)=I' at P ⊢
  have hlen: I'.length=I.length+2 := P.len
  have hn0: insAt I' I.length=⟨2,a.part.f.b,if rev then 2 * (1+g)+1 else 2 * (1+g),0,0,false⟩ := P.new 0
  have hn1: insAt I' (I.length+1)=⟨2,0,if rev then 2 * (1+g)else 2 * (1+g)+1,0,0,false⟩ := P.new 1
  have A: Agree I I' Ra a.part.ms := agree_of (fun v hv=>P.core v (lR v hv)) fun s hs h=>by rw[P.way s (lR _ hs),if_neg h]
  have to: ∀ s∈a.part.ms,wayP I' s=I.length+1 := fun s hs=>by rw[P.way s (la s hs),if_pos hs]
  have C: Cap I' a.part.ms I.length a.part.f.b r.s0 r.s1 := ⟨by rw[hn0],by rw[hn1],by rw[hn0,hs0];cases rev<;>simp<;>omega,by rw[hn1,hs1];cases rev<;>simp<;>omega,by rw[hn0],to⟩
  have off1: I.length+1∉Ra := fun h=>by have := lR _ h;omega
  have half: (I.length+1) * 2 / 2=I.length+1 := by omega
  have w2: wayP I' ((I.length+1) * 2)=0 := by rw[Nat.mul_comm,wayP_even,hn1]
  have w0: wayP I' (2 * I.length)=a.part.f.b := by rw[wayP_even,hn0]
  refine⟨I.length::(I.length+1)::Ra,step_of H (by omega) (fun v hv h=>P.off v hv (h (Ra,a) (by simp))) (fun p hp=>by simp at hp;subst hp;exact A) (fun z=>?_) (fun v hv=>?_) (fun v h1 h2=>?_) (fun p hp s hs=>?_) (fun s h1 h2 ho=>?_)⟩
  ·refine⟨⟨.inl (List.mem_cons_self ..),fun v hv=>?_,fun s hs=>?_,fun s hs h1=>?_,fun s hs hsn ho=>?_⟩,⟨rfl,by omega,by rw[half];omega,w2⟩,by simp,fun k hk=>by simpa [oneF]using hk,fun h=>by(have h: I.length=0 := h);omega,by simp,?_,tab,fun hz x e he=>?_,fun x hx e=>?_,fun hc x hx k hk=>?_⟩
   ·rcases List.mem_cons.mp hv with rfl|hv
    ·omega
    ·rcases List.mem_cons.mp hv with rfl|hv
     ·omega
     ·have := Sa.fr.pos v hv;omega
   ·simp at hs;subst hs;rw[half];simp
   ·simp at hs;omega
   ·simp at hsn
    rcases List.mem_cons.mp hs with h|h
    ·have: s % 2≠1 := fun q=>by have := ho q;rw[h,hn0]at this;simp at this
     have: s=2 * I.length := by omega
     left;rw[this,w0];exact List.mem_cons_of_mem _ (List.mem_cons_of_mem _ haR)
    ·rcases List.mem_cons.mp h with h|h
     ·have: s % 2≠1 := fun q=>by have := ho q;rw[h,hn1]at this;simp at this
      omega
     ·by_cases hsa: s∈a.part.ms
      ·left;rw[to s hsa];exact List.mem_cons_of_mem _ (List.mem_cons_self ..)
      ·rw[A.way s h hsa]
       exact(Sa.fr.cl s h hsa fun q=>by rw[<-A.op _ h];exact ho q).imp (fun q=>List.mem_cons_of_mem _ (List.mem_cons_of_mem _ q)) id
   ·show(decide (I.length=0),_)=_
    rw[decide_eq_false (by omega)]
    rfl
   ·have he: e∈ends (row (capT text a.tb r.s0 r.s1) x) := he
    unfold capT at he
    rw[row_range]at he
    split at he
    ·rw[group_ends]at he;exact Sa.strict hz x e he
    ·simp[ends]at he
   ·unfold capT
    rw[row_range,if_pos (by omega),group_ends]
    exact cap_R Sa.fr A H.z z C off1 Sa.r hx
   ·unfold capT
    rw[row_range,if_pos (by omega)]
    exact cap_E Sa.fr A H.z z C off1 (Sa.e (hcalm hc)) Sa.tab.fst hx hk
  ·rcases List.mem_cons.mp hv with rfl|hv
   ·exact .inr (Nat.le_refl _)
   ·rcases List.mem_cons.mp hv with rfl|hv
    ·exact .inr (by omega)
    ·exact .inl ⟨(Ra,a),by simp,hv⟩
  ·have: v=I.length\/v=I.length+1 := by omega
   rcases this with rfl|rfl
   ·rw[hn0]
    refine⟨by simp,fun h=>by simp at h,fun _=>?_,fun h=>by simp at h⟩
    show 2<=if rev then _ else _
    split<;>omega
   ·rw[hn1]
    refine⟨by simp,fun h=>by simp at h,fun _=>?_,fun h=>by simp at h⟩
    show 2<=if rev then _ else _
    split<;>omega
  ·simp at hp;subst hp
   right;rw[to s hs];omega
  ·have: s / 2=I.length\/s / 2=I.length+1 := by omega
   rcases this with h|h
   ·have: s % 2≠1 := fun q=>by have := ho q;rw[h,hn0]at this;simp at this
    have: s=2 * I.length := by omega
    right;rw[this,w0];have := lR _ haR;omega
   ·have: s % 2≠1 := fun q=>by have := ho q;rw[h,hn1]at this;simp at this
    left;simp;omega
end
def KL (l: List Way): Prop := ∀ w∈l,kept kNone w.2=w.2
def KT (t: Table): Prop := ∀ a,KL (row t a)
theorem KL.nil: KL [] := fun w h=>by simp at h
theorem KL.single (a: Nat): KL [(a,kNone)] := fun w h=>by simp at h;subst h;rfl
theorem KL.first {l: List Way} (h: KL l): KL (first l) := fun w hw=>h w (first_sub hw)
theorem KL.append {l m: List Way} (h: KL l) (k: KL m): KL (l++m) := fun w hw=>(List.mem_append.mp hw).elim (h w) (k w)
theorem KL.joined {l: List Way} {t: Table} (h: KL l): KL (joined l t) := by
 refine KL.first fun w hw=>?_
 obtain⟨p,hp,hw⟩ := List.mem_flatMap.mp hw
 obtain⟨q,hq,rfl⟩ := List.mem_map.mp hw
 dsimp only
 rw[kept_assoc,h p hp]
theorem kMark_ok (s a: Nat): kept kNone (kMark s a)=kMark s a := by
 unfold kMark kNone kept
 have: List.range 4=[0,1,2,3] := rfl
 rw[this]
 simp only[List.map_cons,List.map_nil,List.zip_cons_cons,List.zip_nil_right]
 have h: ∀ n: Nat,(if 0<=(if n=s then Int.ofNat a else -1)then(if n=s then Int.ofNat a else -1)else -1)=(if n=s then Int.ofNat a else -1) := by
  intro n
  by_cases e: n=s
  ·simp[e]
  ·simp[e]
 simp only[h]
theorem KL.group {l: List Way} {a s0 s1: Nat}: KL (group l a s0 s1) := fun w hw=>by
 obtain⟨p,_,rfl⟩ := List.mem_map.mp hw
 dsimp only
 rw[kept_assoc,kept_assoc,kMark_ok]
theorem KL.loopOne {f: Table} {lazy: Bool} {a: Nat} {p: Way} (h: kept kNone p.2=p.2): KL (loopOne f lazy a p) := by
 have h1: KL [p] := fun w hw=>by simp at hw;subst hw;exact h
 have h2: KL (if a<p.1 then Mine.joined [p] f else[]) := by
  split
  ·exact KL.joined h1
  ·exact KL.nil
 unfold Mine.loopOne
 dsimp only
 split
 ·exact h1.append h2
 ·exact h2.append h1
theorem KT.loops {t: Table} (lazy: Bool) (h: KT t): KT (loops t lazy) := by
 have key: ∀(as: List Nat) (f: Table),KT f->KT (as.foldl (loopStep t lazy) f) := by
  intro as
  induction as with
  |nil=>intro f hf;exact hf
  |cons a r ih=>
   intro f hf
   refine ih _ fun x=>?_
   unfold loopStep
   by_cases hl: a<f.length
   ·rw[row_set hl]
    split
    ·refine KL.first fun w hw=>?_
     obtain⟨p,hp,hw⟩ := List.mem_flatMap.mp hw
     exact KL.loopOne (h _ p hp) w hw
    ·exact hf x
   ·have: f.set a (Mine.first ((row t a).flatMap (Mine.loopOne f lazy a)))=f := List.set_eq_of_length_le (by omega)
    rw[this];exact hf x
 unfold Mine.loops
 refine key _ _ fun x=>?_
 unfold row
 rw[List.getD_eq_getElem?_getD,List.getElem?_map]
 cases t[x]?<;>exact KL.nil
theorem KT.tab {l: List Table} (h: ∀ t∈l,KT t) (k: Nat): KT (tab l k) := by
 unfold Mine.tab
 rw[List.getD_eq_getElem?_getD]
 cases e: l[k]? with
 |none=>intro a;show KL (row [] a);unfold row;simp;exact KL.nil
 |some t=>exact h t (List.mem_of_getElem? e)
theorem KT.range {N: Nat} {f: Nat->List Way} (h: ∀ a,KL (f a)): KT ((List.range N).map f) := fun a=>by
 rw[row_range];split
 ·exact h a
 ·exact KL.nil
theorem KT.meant {o: Ord} {l: List Table} {r: Row} {text holds: List Nat} (h: ∀ t∈l,KT t): KT (meant o l r text holds) := by
 have h0 := KT.tab h 0
 have h1 := KT.tab h 1
 unfold Mine.meant
 refine KT.range fun a=>?_
 cases o<;>dsimp only
 ·split
  ·intro w hw;simp at hw;subst hw;rfl
  ·exact KL.nil
 ·exact(h0 a).joined
 ·exact((h0 a).append (h1 a)).first
 ·split
  ·exact((KL.single a).append (h0.loops r.lazy a)).first
  ·exact((h0.loops r.lazy a).append (KL.single a)).first
 ·exact KL.group
 ·split
  ·exact((KL.single a).append (h0 a)).first
  ·exact((h0 a).append (KL.single a)).first
 ·exact h0.loops r.lazy a
 ·split
  ·exact KL.single a
  ·exact KL.nil
 ·exact KL.single a
 ·exact KL.nil
theorem shift_kNone {l: List Way} (h: KL l): shift kNone l=l := by
 unfold shift
 have: ∀ w∈l,(fun p: Way=>(p.1,kept kNone p.2)) w=id w := fun w hw=>by simp only[h w hw];rfl
 rw[List.map_congr_left this,List.map_id]
def InvL (text holds: List Nat) (I: List Ins) (items: List Item): Prop := Inv text holds I items/\∀ it∈items,KT it.tb
theorem invL_init (text holds: List Nat) (tk: TextOk text holds): InvL text holds [opI 6] [] := by
 have hat: ∀ v,insAt [opI 6] v=opI 6 := fun v=>by
  by_cases h: v=0
  ·subst h;rfl
  ·exact insAt_out (by simp;omega)
 refine⟨⟨[],rfl,⟨rfl,by simp,by simp,.nil,fun v=>by rw[hat];decide,fun v _=>by rw[hat];exact⟨fun h=>by simp[opI]at h,fun h=>by simp[opI]at h,fun h=>by simp[opI]at h⟩,fun s _ _=>.inr ?_⟩⟩,by simp⟩
 unfold wayP;rw[hat];simp[opI]
theorem invL_step {text holds: List Nat} {I: List Ins} {heap given: List Item} {o: Ord} {r: Row} {rev: Bool} (tk: TextOk text holds) (h: InvL text holds I (heap++given)) (hm: given.length=many o) (hr: o≠.cat->RowOk rev r): InvL text holds (made I o (given.map (·.part)) r rev).1 (heap++[newItem I o given r rev text holds]) := by
 obtain⟨⟨RI,e,H⟩,hk⟩ := h
 obtain⟨RH,RG,rfl,rfl,rfl⟩ := List.map_eq_append_iff.mp e
 rw[List.length_map]at hm
 refine⟨?_,fun it hit=>?_⟩
 ·have fin: ∀{I': List Ins} {it: Item},(∃ Rn,InvR text holds I' (RH++[(Rn,it)]))->Inv text holds I' (RH.map (·.2)++[it]) := fun⟨Rn,h⟩=>⟨_,by rw[List.map_append];rfl,h⟩
  cases o<;>simp only[many]at hm
  case range=>
   obtain rfl: RG=[] := List.eq_nil_of_length_eq_zero hm
   exact fin (step_range H tk (hr (by simp)))
  case empty=>
   obtain rfl: RG=[] := List.eq_nil_of_length_eq_zero hm
   exact fin (step_empty H tk (hr (by simp)))
  case nop=>
   obtain rfl: RG=[] := List.eq_nil_of_length_eq_zero hm
   exact fin ⟨_,step_nop H (by simp) tk (calmOf .nop [])⟩
  case none=>
   obtain rfl: RG=[] := List.eq_nil_of_length_eq_zero hm
   refine fin ⟨_,step_none H (by simp) (t := meant .none [] r text holds) ?_ ?_ (calmOf .none [])⟩
   ·exact tabOk_map (fun _ _=>.nil) (fun _ _=>rfl) (fun _ _ e he=>by simp[ends]at he)
   ·intro a;unfold meant;rw[row_range];split<;>rfl
  case cat=>
   match RG,hm,H with
   |[(Ra,a),(Rb,b)],_,H=>exact fin (step_cat H tk r rev)
  case alt=>
   match RG,hm,H with
   |[(Ra,a),(Rb,b)],_,H=>exact fin (step_alt H tk r rev)
  case star=>
   match RG,hm,H with
   |[(Ra,a)],_,H=>exact fin (step_star H tk r rev)
  case quest=>
   match RG,hm,H with
   |[(Ra,a)],_,H=>exact fin (step_quest H tk r rev)
  case plus=>
   match RG,hm,H with
   |[(Ra,a)],_,H=>exact fin (step_plus H tk r rev)
  case capture=>
   match RG,hm,H with
   |[(Ra,a)],_,H=>exact fin (step_capture H tk (hr (by simp)))
 ·rcases List.mem_append.mp hit with h|h
  ·exact hk it (List.mem_append_left _ h)
  ·rw[List.mem_singleton]at h;subst h
   refine KT.meant fun t ht=>?_
   obtain⟨x,hx,rfl⟩ := List.mem_map.mp ht
   exact hk x (List.mem_append_right _ hx)
theorem invL_items {text holds: List Nat} {I: List Ins} {items: List Item} (h: InvL text holds I items): (∀ it∈items,ItemOk (text.length+1) I it)/\items.Pairwise fun a b=>∀ k∈a.part.ms,k∉b.part.ms := by
 obtain⟨⟨RI,rfl,H⟩,_⟩ := h
 refine⟨fun it hit=>?_,?_⟩
 ·obtain⟨p,hp,rfl⟩ := List.mem_map.mp hit
  exact(H.sem p hp).itemOk H
 ·rw[List.pairwise_map]
  exact H.dis.imp_of_mem fun{p q} hp hq hd k hk hk'=>hd _ ((H.sem p hp).fr.hm k hk) ((H.sem q hq).fr.hm k hk')
section
variable {I I': List Ins} {text holds: List Nat} {R ms: List Nat} {b n: Nat}
structure ToM (I I': List Ins) (R ms: List Nat) (n: Nat): Prop where
 ag: Agree I I' R ms
 to: ∀ s∈ms,wayP I' s=n
 op: (insAt I' n).op=4
 nm: ∀ v∈R,(insAt I' v).op≠4
theorem match_ways {v: Nat} (h: (insAt I' v).op=4) (a: Nat) (k: Kept): ways (insAt I' v) a k text holds=[] := by unfold ways;rw[h];simp
theorem EnL_one {v a: Nat} {k: Kept} (h: (insAt I' v).op=4) {S: List Conf} {l: List Way} (q: EnL I' text holds S l): EnL I' text holds ((v,a,k)::S) ((a,k)::l) := by
 have := EnL.cons (v := v) (a := a) (k := k) (by rw[match_ways h];exact .nil) q
 rwa [if_pos h,List.append_nil]at this
theorem EnL.append {S T: List Conf} {l m: List Way} (h: EnL I text holds S l) (k: EnL I text holds T m): EnL I text holds (S++T) (l++m) := by
 induction h with
 |nil=>exact k
 |cons h1 _ _ ih=>rw[List.append_assoc];exact .cons h1 ih
theorem match_E (F: Frg I R b ms) (M: ToM I I' R ms n) (z: (insAt I 0).op=6) (z': (insAt I' 0).op=6) {S: List (Nat×Nat×Kept)} {l: List Way} (h: EnX I text holds ms S l): (∀ s∈S,s.1 / 2∈R/\(s.1 % 2=1->(insAt I (s.1 / 2)).op=0))->EnL I' text holds (S.map (goes I')) l := by
 induction h with
 |nil=>intro _;exact .nil
 |out hs h' ih=>
  rename_i s a k r l
  intro hS
  rw[List.map_cons]
  have: goes I' (s,a,k)=(n,a,k) := by unfold goes;rw[M.to s hs]
  rw[this]
  exact EnL_one M.op (ih fun s h=>hS s (List.mem_cons_of_mem _ h))
 |go hs h1 h2 ih1 ih2=>
  rename_i s a k r l1 l2
  intro hS
  rw[List.map_cons]
  have h0 := hS _ (List.mem_cons_self ..)
  dsimp only at h0
  have hw := M.ag.way s h0.1 hs
  have e: goes I' (s,a,k)=(wayP I s,a,k) := by unfold goes;rw[hw]
  rw[e]
  have ih2 := ih2 fun s h=>hS s (List.mem_cons_of_mem _ h)
  rcases F.cl s h0.1 hs h0.2 with hR|hR
  ·have ih1 := ih1 fun t ht=>by
    have := outs_half I text holds ht
    rw[this.1];exact⟨hR,this.2.1⟩
   have := EnL.cons (v := wayP I s) (a := a) (k := k) (by rw[ways_outs,outs_agree F M.ag hR];exact ih1) ih2
   rwa [if_neg (M.nm _ hR),List.nil_append]at this
  ·rw[hR]at h1 ⊢
   rw[outs_zero z]at h1
   have := EnL.cons (v := 0) (a := a) (k := k) (l1 := []) (by rw[ways_outs,outs_zero z'];exact .nil) ih2
   rw[if_neg (by rw[z'];decide),List.nil_append]at this
   rwa [h1.nil_eq]
theorem match_R (F: Frg I R b ms) (M: ToM I I' R ms n) (z: (insAt I 0).op=6) (z': (insAt I' 0).op=6) {s a e: Nat} (hs: s / 2∈R) (ho: s % 2=1->(insAt I (s / 2)).op=0): Rch I' text holds (wayP I' s,a) e↔ReX I text holds ms s a e := by
 constructor
 ·intro h
  have key: ∀ x e,Rch I' text holds x e->∀ s a,x=(wayP I' s,a)->s / 2∈R->(s % 2=1->(insAt I (s / 2)).op=0)->ReX I text holds ms s a e := by
   intro x e h
   induction h with
   |here h4=>
    intro s a hx hs ho
    cases hx
    by_cases hm: s∈ms
    ·exact .out hm
    ·rw[M.ag.way s hs hm]at h4
     rcases F.cl s hs hm ho with hR|hR
     ·exact absurd h4 (M.nm _ hR)
     ·rw[hR,z']at h4;cases h4
   |step ht hr ih=>
    intro s a hx hs ho
    cases hx
    by_cases hm: s∈ms
    ·rw[M.to s hm]at ht
     unfold outs at ht;rw[M.op]at ht;simp at ht
    ·rw[M.ag.way s hs hm]at ht
     rcases F.cl s hs hm ho with hR|hR
     ·rw[outs_agree F M.ag hR]at ht
      have h2 := outs_half I text holds ht
      exact .go hm ht (ih _ _ rfl (by rw[h2.1];exact hR) (by rw[h2.1];exact h2.2.1))
     ·rw[hR,outs_zero z']at ht;simp at ht
  exact key _ _ h s a rfl hs ho
 ·intro h
  induction h with
  |out h1=>rw[M.to _ h1];exact .here M.op
  |go h1 ht hr ih=>
   rename_i s a k t e
   rw[M.ag.way s hs h1]
   rcases F.cl s hs h1 ho with hR|hR
   ·have h2 := outs_half I text holds ht
    exact .step (k := k) (by rw[outs_agree F M.ag hR];exact ht) (ih (by rw[h2.1];exact hR) (by rw[h2.1];exact h2.2.1))
   ·rw[hR,outs_zero z]at ht;simp at ht
theorem invL_fin {it: Item} (tk: TextOk text holds) (h: InvL text holds I [it]) (hs: I.length<=60): (insAt (wholeP I it).1 0).op=6/\(∀ k<(wholeP I it).1.length,InsOk (insAt (wholeP I it).1 k) (wholeP I it).1.length)/\(wholeP I it).2.f.b<(wholeP I it).1.length/\
  ∃ res,Dfs (wholeP I it).1 text holds [((wholeP I it).2.f.b,0,kNone)] [] [] res/\(it.calm=true->res=row it.tb 0)/\(res.map (·.1)).Perm ((row it.tb 0).map (·.1)) := by
 obtain⟨⟨RI,e,H⟩,hk⟩ := h
 obtain⟨R,rfl⟩: ∃ R,RI=[(R,it)] := by
  match RI,e with
  |[(R,x)],e=>simp at e;subst e;exact⟨R,rfl⟩
 have S := H.sem (R,it) (by simp)
 dsimp only at S
 have hl := H.len
 have la: ∀ s∈it.part.ms,s / 2<I.length := fun s hs=>(S.ch.mem s hs).2
 have lR: ∀ v∈R,v<I.length := fun v hv=>(S.fr.pos v hv).2
 have P := app_ok (news := [opI 4]) S.fr.hm la lR I.length
 have ew: wholeP I it=if it.part.f.b=0 then(patchL (I++[opI 4]) it.part.ms I.length,⟨noneF,[]⟩)else(patchL (I++[opI 4]) it.part.ms I.length,if isNopP (patchL (I++[opI 4]) it.part.ms I.length) it.part.f then matchPart I.length else⟨⟨it.part.f.b,0,0,it.part.f.nl&&false⟩,[]⟩) := by
  unfold wholeP catP
  have hmp: (matchPart I.length).f.b=I.length := rfl
  rw[hmp]
  by_cases h0: it.part.f.b=0
  ·rw[if_pos (.inl h0),if_pos h0,(S.none h0).1];rfl
  ·rw[if_neg (by omega),if_neg h0]
   dsimp only
   split<;>rfl
 have e1: (wholeP I it).1=patchL (I++[opI 4]) it.part.ms I.length := by rw[ew];split<;>rfl
 have eb: (wholeP I it).2.f.b=if it.part.f.b=0 then 0 else if isNopP (patchL (I++[opI 4]) it.part.ms I.length) it.part.f then I.length else it.part.f.b := by
  rw[ew]
  by_cases h0: it.part.f.b=0
  ·rw[if_pos h0,if_pos h0];rfl
  ·rw[if_neg h0,if_neg h0]
   dsimp only
   split<;>rfl
 rw[e1,eb]
 clear e1 eb ew
 generalize patchL (I++[opI 4]) it.part.ms I.length=I' at P ⊢
 have hlen: I'.length=I.length+1 := P.len
 have hn: insAt I' I.length=opI 4 := P.new 0
 have A: Agree I I' R it.part.ms := agree_of (fun v hv=>P.core v (lR v hv)) fun s hs h=>by rw[P.way s (lR _ hs),if_neg h]
 have to: ∀ s∈it.part.ms,wayP I' s=I.length := fun s hs=>by rw[P.way s (la s hs),if_pos hs]
 have opO: ∀ v,v<I.length->(insAt I' v).op=(insAt I v).op := fun v hv=>core_op (P.core v hv)
 have z': (insAt I' 0).op=6 := by rw[opO 0 hl];exact H.z
 have M: ToM I I' R it.part.ms I.length := ⟨A,to,by rw[hn];rfl,fun v hv=>by rw[opO v (lR v hv)];exact H.nm v⟩
 have way: ∀ s,s / 2<I'.length->(s % 2=1->(insAt I' (s / 2)).op=0)->wayP I' s<I'.length := by
  intro s hs ho
  by_cases h1: s / 2<I.length
  ·rw[P.way s h1]
   split
   ·omega
   ·rename_i hm
    rcases H.gl s h1 (fun q=>by rw[<-opO _ h1];exact ho q)with⟨p,hp,hm'⟩|h
    ·simp at hp;subst hp;exact absurd hm' hm
    ·omega
  ·have: s / 2=I.length := by omega
   unfold wayP;rw[this,hn];split<;>simp[opI]<;>omega
 have uni: Uni I' := by
  have: ∀ v,(insAt I' v).op=4->v=I.length := by
   intro v h4
   by_cases h1: v<I.length
   ·rw[opO v h1]at h4;exact absurd h4 (H.nm v)
   ·by_cases h2: v=I.length
    ·exact h2
    ·rw[insAt_out (by omega)]at h4;cases h4
  intro v w hv hw;rw[this v hv,this w hw]
 have dat: ∀ v,v<I'.length->Data (insAt I' v) := by
  intro v hv
  by_cases h1: v<I.length
  ·by_cases h: v∈R
   ·exact(H.data v h1).congr (A.op v h) (A.low v h) (A.high v h) fun h0=>arg_agree S.fr A h h0
   ·rw[P.off v h1 h];exact H.data v h1
  ·have: v=I.length := by omega
   subst this;rw[hn];exact⟨fun h=>by simp[opI]at h,fun h=>by simp[opI]at h,fun h=>by simp[opI]at h⟩
 have hstart: (if it.part.f.b=0 then 0 else if isNopP I' it.part.f then I.length else it.part.f.b)<I'.length := by
  split
  ·omega
  ·split
   ·omega
   ·have := S.fr.hb
    rcases this with h|h
    ·have := lR _ h;omega
    ·omega
 refine⟨z',fun k hk'=>?_,hstart,?_⟩
 ·have d := dat k hk'
  refine⟨d.range,d.cap,d.empty,fun _ _=>?_,fun h=>?_⟩
  ·rw[<-wayP_even];exact way _ (by omega) (by omega)
  ·rw[<-wayP_odd];exact way _ (by omega) (fun _=>by rw[show(2 * k+1) / 2=k by omega];exact h)
 ·obtain⟨res,D⟩ := dfs_total (I := I') (text := text) (holds := holds) (by
    have := tk.len
    have h1: I'.length<=61 := by omega
    have h2: text.length+1<=5 := by omega
    calc I'.length * (text.length+1)<=61 * 5 := Nat.mul_le_mul h1 h2
     _<=400 := by decide)
   (fun v a k hv ha s hs=>by
    have := outs_half I' text holds hs
    exact way _ (by rw[this.1];exact hv) (by rw[this.1];exact this.2.1)) _ [(_,0,kNone)] [] [] (Nat.le_refl _) (by simp) (by simp) (fun c hc=>by simp at hc;subst hc;exact⟨hstart,Nat.zero_le _⟩) (by simp) (by simp)
  refine⟨res,D,?_,?_⟩
  ·intro hc
   obtain⟨l,q1,q2⟩ := S.e hc 0 (Nat.zero_le _) kNone (by simp[kNone])
   have hKL: KL (row it.tb 0) := hk it (by simp) 0
   rw[shift_kNone hKL]at q2
   have main: ∃ lf,EnL I' text holds [((if it.part.f.b=0 then 0 else if isNopP I' it.part.f then I.length else it.part.f.b),0,kNone)] lf/\first lf=row it.tb 0 := by
    by_cases h0: it.part.f.b=0
    ·rw[if_pos h0]
     refine⟨[],?_,by rw[(S.none h0).2.2];rfl⟩
     have := EnL.cons (I := I') (text := text) (holds := holds) (v := 0) (a := 0) (k := kNone) (l1 := []) (r := []) (by rw[ways_outs,outs_zero z'];exact .nil) .nil
     rwa [if_neg (by rw[z'];decide)]at this
    ·rw[if_neg h0]
     have hbR: it.part.f.b∈R := S.fr.hb.resolve_right h0
     have hL: EnL I' text holds ((outs I text holds it.part.f.b 0 kNone).map (goes I')) l := match_E S.fr M H.z z' q1 fun s hs=>by
      have := outs_half I text holds hs
      rw[this.1];exact⟨hbR,this.2.1⟩
     cases hnop: isNopP I' it.part.f with
     |false=>
      rw[if_neg (by simp)]
      refine⟨l,?_,q2⟩
      have := EnL.cons (I := I') (text := text) (holds := holds) (v := it.part.f.b) (a := 0) (k := kNone) (l1 := l) (r := []) (by rw[ways_outs,outs_agree S.fr A hbR];exact hL) .nil
      rwa [if_neg (M.nm _ hbR),List.nil_append,List.append_nil]at this
     |true=>
      rw[if_pos rfl]
      have hn5: (insAt I' it.part.f.b).op=5 := by
       unfold isNopP at hnop;simp only[Bool.and_eq_true,decide_eq_true_eq]at hnop;exact hnop.1
      have hm2: 2 * it.part.f.b∈it.part.ms := by
       unfold isNopP at hnop;simp only[Bool.and_eq_true,decide_eq_true_eq]at hnop
       have hc := S.ch
       have hne := S.ne h0
       match h: it.part.ms,hne with
       |k::r,_=>
        rw[h]at hc
        rw[<-hc.1,hnop.2.1,Nat.mul_comm];exact List.mem_cons_self ..
      have hn5': (insAt I it.part.f.b).op=5 := by rw[<-opO _ (lR _ hbR)];exact hn5
      rw[nop_out hn5']at q1
      have: l=[(0,kNone)] := by
       cases q1 with
       |out _ h=>rw[h.nil_eq]
       |go h _ _=>exact absurd hm2 h
      subst this
      exact⟨[(0,kNone)],EnL_one M.op .nil,q2⟩
   obtain⟨lf,E,ef⟩ := main
   obtain⟨met',D',_,_⟩ := dfs_first uni E (rest := []) (met := []) (found := []) (res := res) (fun y hy=>by simp at hy) (fun a ha=>by simp[ends]at ha) rfl (by rw[List.append_nil];exact D)
   cases D'
   rw[List.nil_append]
   exact ef
  ·have nd1: (res.map (·.1)).Nodup := dfs_nodup uni D (by simp[ends]) (fun a ha=>by simp[ends]at ha)
   have nd2: ((row it.tb 0).map (·.1)).Nodup := by rw[<-S.tab.fst 0];exact first_nodup _
   refine(List.perm_ext_iff_of_nodup nd1 nd2).mpr fun e=>?_
   have hres: e∈ends res↔Rch I' text holds ((if it.part.f.b=0 then 0 else if isNopP I' it.part.f then I.length else it.part.f.b),0) e := by
    constructor
    ·intro h
     rcases dfs_sound D e h with h|⟨c,hc,h⟩
     ·simp[ends]at h
     ·simp at hc;subst hc;exact h
    ·intro h
     exact dfs_complete D (fun y hy=>by simp at hy) _ (.inr ⟨_,List.mem_cons_self ..,rfl⟩) e h
   show e∈ends res↔e∈ends (row it.tb 0)
   rw[hres,<-S.r 0 (Nat.zero_le _) e]
   by_cases h0: it.part.f.b=0
   ·rw[if_pos h0,h0]
    constructor
    ·intro h
     cases h with
     |here h4=>rw[z']at h4;cases h4
     |step ht _=>rw[outs_zero z']at ht;simp at ht
    ·intro h;exact absurd h (ent_zero H.z)
   ·rw[if_neg h0]
    have hbR: it.part.f.b∈R := S.fr.hb.resolve_right h0
    have gen: Rch I' text holds (it.part.f.b,0) e↔Ent I text holds it.part.ms it.part.f.b 0 e := by
     constructor
     ·intro h
      cases h with
      |here h4=>exact absurd h4 (M.nm _ hbR)
      |step ht hr=>
       rw[outs_agree S.fr A hbR]at ht
       have h2 := outs_half I text holds ht
       exact⟨_,_,ht,(match_R S.fr M H.z z' (by rw[h2.1];exact hbR) (by rw[h2.1];exact h2.2.1)).mp hr⟩
     ·rintro⟨k,s,hs',hr⟩
      have h2 := outs_half I text holds hs'
      exact .step (k := k) (by rw[outs_agree S.fr A hbR];exact hs') ((match_R S.fr M H.z z' (by rw[h2.1];exact hbR) (by rw[h2.1];exact h2.2.1)).mpr hr)
    cases hnop: isNopP I' it.part.f with
    |false=>rw[if_neg (by simp)];exact gen
    |true=>
     rw[if_pos rfl,<-gen]
     unfold isNopP at hnop;simp only[Bool.and_eq_true,decide_eq_true_eq]at hnop
     have hm2: 2 * it.part.f.b∈it.part.ms := by
      have hc := S.ch
      have hne := S.ne h0
      match h: it.part.ms,hne with
      |k::r,_=>
       rw[h]at hc
       rw[<-hc.1,hnop.2.1,Nat.mul_comm];exact List.mem_cons_self ..
     have hw2 := to _ hm2
     constructor
     ·intro h
      exact .step (k := kNone) (s := (2 * it.part.f.b,0,kNone)) (by rw[nop_out hnop.1];exact List.mem_cons_self ..) (by dsimp only;rw[hw2];exact h)
     ·intro h
      cases h with
      |here h4=>exact absurd h4 (M.nm _ hbR)
      |step ht hr=>
       rw[nop_out hnop.1]at ht
       simp at ht;subst ht
       dsimp only at hr
       rw[hw2]at hr;exact hr
theorem law_inv: LawInv InvL where
 init := invL_init
 step := fun tk h hm hr _=>invL_step tk h hm hr
 items := fun _ h=>invL_items h
 fin := fun tk h hs=>invL_fin tk h hs
end
end Mine
end
section
open PySem PySem.W PyProof.Rows
namespace Mine
theorem rep_intsJ {g: Hp} {vs: List Value} {l: List Int} (h: IntsAre vs l): RepL g (l.map .int) vs := by
 induction h with
 |nil=>exact .nil
 |cons n t _ ih=>exact .cons (.int n t) ih
theorem join {W: Wd} {P: Params} (WO: W.Ok) (hK: W.K=hd.heap_39 P) {s: Shared} (hh: W.h₀=s.heap) (hos: W.os=s.os) (hg: s.gens=#[]) {a: Addr} {vs: List Value} {l: List Int} (ha: s.heap.get? a=some (listOf vs.toArray 0)) (hI: IntsAre vs l) (hl: l.length<=63)
  {R: Result->Shared->Prop} (hR: ∀ s',(∀ b o,s.heap.get? b=some o->s'.heap.get? b=some o)->s'.gens=#[]->s'.os=s.os->R (.ok (.ret (.bool true))) s'): codeAny W.M callerA (.call (.ref 421) ⟨[.ref a],[]⟩) R s := by
 have G: Gd W := ⟨WO,P,hK⟩
 have C := sp_law G (n := 0) (m := fun _=>none) (Q := fun d _=>d=.bool true) (X := fun _ _=>False) law_inv l (by omega) rfl
 refine codeAny_mono (C callerA W.h₀.get? (fun _=>none) s [.ref a] ?_ ?_ ?_ ?_ ?_) fun r s' h=>?_
 ·exact⟨rfl,by decide +kernel,by decide +kernel⟩
 ·exact⟨[],rfl,fun env h=>by simp at h⟩
 ·rw[hh];exact Nat.le_refl _
 ·exact⟨fun _ _ h=>h,fun b o h=>by rw[<-hh];exact h,fun b o h=>by simp at h,fun b o h=>by simp at h,fun b o h=>by simp at h,hg,hos.symm⟩
 ·exact .cons (.lst (by rw[hh];exact ha) (rep_intsJ hI)) .nil
 ·unfold RetPost at h
  match r,h with
  |.ok (.ret v),h=>
   obtain⟨g',m',d,hE,hS,hr,rfl⟩ := h
   cases hr
   exact hR s' (fun b o e=>hS.frz b o (hE b o (by rw[hh];exact e))) hS.gens (hS.os.trans hos)
  |.error e,h=>obtain⟨_,_,_,_,_,_,_,_,h⟩ := h;exact h.elim
end Mine
end
open PySem PySem.W PyProof.Rows
set_option maxRecDepth 100000 in
set_option maxHeartbeats 8000000 in
theorem PySem.Challenge.cw_xw0283_01_holds : PySem.Challenge.rw_xw0283_01.Holds := by
  refine Mine.hd ?_
  k_fill
  intro w s₀ s₁ mg mb G Y fa o pm cd doc dV kV ho hd' hcd hD hmg hg args vals as hpre hlay hrd hwl hlo
  have KX := kIn_of Y
  refine Ground.open G ?_
  intro T B D TE TW
  wrow_args hpre hlay hrd hwl hlo
  all_goals (
    first | refine callC_kw (enter_call ?_) | refine enter_call ?_ | refine callC_kw (enter_callW ?_) | refine enter_callW ?_ | w_how)
  rename_i l _ _ _ _ _ _ _ a vs _ hL ra w1 r0 hI _ hc _
  have hfa : fa = 421 := by
    have e := mg_of (n := "law") (v := .ref 421) KX T.g (by kernel_rfl)
    have e' : mg "law" = some (.ref fa) := hmg
    rw [e] at e'
    cases e'; rfl
  subst hfa
  have WO : (Mine.Wd.mk PySem.Challenge.rw_xw0283_01.row.prog w (Mine.hd.heap_39 w.params) s₁.heap mg mb s₁.os).Ok := ⟨KX, T.g, T.b, T.nolimit, T.builtins⟩
  have ha : s₁.heap.get? a = some (PySem.W.listOf vs.toArray 0) := by
    rcases w1 with _ | _ | _ | _ | _ | _ | _ | ⟨q, _⟩
    obtain ⟨o', ho1, ho2, n', ho3⟩ := hL
    rw [q] at ho1
    cases ho1
    cases ho3
    exact q
  refine Mine.join (W := Mine.Wd.mk PySem.Challenge.rw_xw0283_01.row.prog w (Mine.hd.heap_39 w.params) s₁.heap mg mb s₁.os) WO rfl rfl rfl hg ha hI (by omega) fun s' hk hg' hos => ?_
  refine ⟨.inl ⟨.bool true, .bool true, [], rfl, fun _ => rfl, .bool true, ?_, fun _ => ⟨by simp, by simp⟩⟩, .of_keep hk, hos, .of_eq hg'⟩
  exact postW_of (by wrow_shape) (by wtm_val) (by rfl)
