import PyProof.Rows.All
import Wide.All
import OpenK.AllK
import Wide.FinOn
import Lean
import PySem.Challenge.RW_og0260_01
set_option Elab.async false
set_option maxRecDepth 100000
set_option linter.all false
set_option genSizeOf false
set_option genInjectivity false
set_option tactic.hygienic false
set_option bootstrap.genMatcherCode false
section
namespace Mine
open PySem
theorem aa:type_of% @List.forall_mem_cons:= @List.forall_mem_cons
theorem ad:type_of% @Nat.le_of_ble_eq_true:= @Nat.le_of_ble_eq_true
theorem ae:type_of% @wpAny_bind:= @wpAny_bind
theorem ah:type_of% @List.length_map:= @List.length_map
theorem ai:type_of% @List.length_append:= @List.length_append
theorem aj:type_of% @Nat.le_trans:= @Nat.le_trans
theorem ak:type_of% @Eq.trans:= @Eq.trans
theorem am:type_of% @wpAny_pure:= @wpAny_pure
theorem an:type_of% @List.getElem?_eq_getElem:= @List.getElem?_eq_getElem
theorem ao:type_of% @List.mem_singleton:= @List.mem_singleton
theorem aq:type_of% @List.mem_of_getElem? := @List.mem_of_getElem?
theorem au:type_of% @List.mem_cons:= @List.mem_cons
theorem av:type_of% @Nat.le_refl:= @Nat.le_refl
theorem aw:type_of% @List.append_assoc:= @List.append_assoc
theorem ay:type_of% @Bool.and_eq_true_iff:= @Bool.and_eq_true_iff
theorem az:type_of% @Nat.lt_of_le_of_lt:= @Nat.lt_of_le_of_lt
theorem aA:type_of% @decide_eq_true:= @decide_eq_true
theorem aB:type_of% @congrArg:= @congrArg
theorem aD:type_of% @List.mem_append:= @List.mem_append
theorem aE:type_of% @List.append_nil:= @List.append_nil
theorem aF:type_of% @Heap.get?_push_size:= @Heap.get?_push_size
theorem aG:type_of% @List.all_eq_true:= @List.all_eq_true
theorem aH:type_of% @wpAny_holding:= @wpAny_holding
theorem aI:type_of% @List.size_toArray:= @List.size_toArray
theorem aJ:type_of% @List.map_append:= @List.map_append
theorem aK:type_of% @Option.bind_eq_some_iff:= @Option.bind_eq_some_iff
theorem aL:type_of% @Option.map_eq_some_iff:= @Option.map_eq_some_iff
theorem aM:type_of% @List.getElem?_eq_some_iff:= @List.getElem?_eq_some_iff
theorem aN:type_of% @List.mem_map:= @List.mem_map
theorem aO:type_of% @Nat.succ_le_succ:= @Nat.succ_le_succ
theorem aP:type_of% @Nat.le_add_right:= @Nat.le_add_right
theorem aQ:type_of% @Nat.eq_of_beq_eq_true:= @Nat.eq_of_beq_eq_true
theorem aR:type_of% @List.map_cons:= @List.map_cons
theorem aS:type_of% @Ne.symm:= @Ne.symm
theorem aT:type_of% @Bool.or_eq_false_iff:= @Bool.or_eq_false_iff
theorem aU:type_of% @of_decide_eq_true:= @of_decide_eq_true
theorem aV:type_of% @List.length_take:= @List.length_take
theorem aW:type_of% @Heap.get?_push_of_some:= @Heap.get?_push_of_some
theorem aX:type_of% @Nat.zero_le:= @Nat.zero_le
theorem aY:type_of% @Bool.or_eq_true_iff:= @Bool.or_eq_true_iff
theorem aZ:type_of% @Bool.not_eq_true':= @Bool.not_eq_true'
theorem a6:type_of% @Nat.le_of_lt:= @Nat.le_of_lt
theorem a7:type_of% @List.cons_ne_nil:= @List.cons_ne_nil
theorem a8:type_of% @Nat.lt_of_lt_of_le:= @Nat.lt_of_lt_of_le
theorem a9:type_of% @beq_self_eq_true:= @beq_self_eq_true
theorem ba:type_of% @List.length_cons:= @List.length_cons
theorem bb:type_of% @Int.ofNat_le:= @Int.ofNat_le
end Mine
end
section
namespace Mine
section
theorem cr {p:Prop} (h:¬p->False):p:=Classical.byContradiction h
section
variable {α:Type u} {a b:α} {l:List α} {p:Prop}
theorem bW (h:some a=some b):a=b:=Option.some.inj h
theorem gq (h:some a=none):p:=nomatch h
theorem bZ (h:none=some a):p:=nomatch h
theorem B5 (h:[]=a::l):p:=nomatch h
theorem qm (h:a::l=[]):p:=nomatch h
theorem fh (h:a∈[]):p:=nomatch h
theorem lN (h:true=false):p:=nomatch h
theorem cR (h:false=true):p:=nomatch h
theorem C6 {n:Nat} (h:n<0):p:=absurd h (Nat.not_lt_zero n)
end
open PySem
section
variable {α β:Type} {M:Model} {A:Around} {x y:Sem α} {f:α->Sem β} {Q:α->Shared->Prop} {R:β->Shared->Prop} {E:Value->Shared->Prop} {s:Shared} {c:Prop}
theorem AC (h:x=y) (k:wpAny M A y Q E s):wpAny M A x Q E s:=h▸k
theorem weqb (h:x=y) (k:wpAny M A (y>>=f) R E s):wpAny M A (x>>=f) R E s:=h▸k
theorem gv (h:∀Q' E',(∀a s,Q a s->Q' a s)->(∀e s,E e s->E' e s)->wpAny M A x Q' E' s):wpAny M A x Q E s:=h Q E (fun U U h=>h) fun U U h=>h
theorem GF {c:Code} {R:Result->Shared->Prop} (h:∀R',(∀r s,R r s->R' r s)->codeAny M A c R' s):codeAny M A c R s:=h R fun U U h=>h
theorem wpb {b:Bool} {Q:Bool->Shared->Prop} (h:∀b,Q b s):wpAny M A (pure b) Q E s:=am (h b)
variable [Decidable c]
theorem qQ (h:c) (k:wpAny M A x Q E s):wpAny M A (if c then x else y) Q E s:=AC (if_pos h) k
theorem nV (h:¬c) (k:wpAny M A y Q E s):wpAny M A (if c then x else y) Q E s:=AC (if_neg h) k
end
section
variable {α:Sort u} {β:Sort v} {γ:Sort w} {δ:Sort x} {G A B C D E:Prop}
theorem fI (h:A/\B) (k:A->B->G):G:=k h.1 h.2
theorem lL (h:A/\B/\C) (k:A->B->C->G):G:=k h.1 h.2.1 h.2.2
theorem Ad (h:A/\B/\C/\D) (k:A->B->C->D->G):G:=k h.1 h.2.1 h.2.2.1 h.2.2.2
theorem Dg (h:A/\B/\C/\D/\E) (k:A->B->C->D->E->G):G:=k h.1 h.2.1 h.2.2.1 h.2.2.2.1 h.2.2.2.2
section
variable {a b c d:α->Prop}
theorem dU (h:∃x,a x) (k:∀x,a x->G):G:=h.elim k
theorem bu (h:∃x,a x/\b x) (k:∀x,a x->b x->G):G:=h.elim fun x h=>k x h.1 h.2
theorem gw (h:∃x,a x/\b x/\c x) (k:∀x,a x->b x->c x->G):G:=h.elim fun x h=>lL h (k x)
theorem Eb (h:∃x,a x/\b x/\c x/\d x) (k:∀x,a x->b x->c x->d x->G):G:=h.elim fun x h=>Ad h (k x)
end
section
variable {a b c d:α->β->Prop}
theorem oo (h:∃x y,a x y) (k:∀x y,a x y->G):G:=h.elim fun x h=>h.elim (k x)
theorem gU (h:∃x y,a x y/\b x y) (k:∀x y,a x y->b x y->G):G:=h.elim fun x h=>bu h (k x)
theorem eJ (h:∃x y,a x y/\b x y/\c x y) (k:∀x y,a x y->b x y->c x y->G):G:=h.elim fun x h=>gw h (k x)
theorem qj (h:∃x y,a x y/\b x y/\c x y/\d x y) (k:∀x y,a x y->b x y->c x y->d x y->G):G:=h.elim fun x h=>Eb h (k x)
end
section
variable {a b c d:α->β->γ->Prop}
theorem EG (h:∃x y z,a x y z) (k:∀x y z,a x y z->G):G:=h.elim fun x h=>oo h (k x)
theorem e31 (h:∃x y z,a x y z/\b x y z) (k:∀x y z,a x y z->b x y z->G):G:=h.elim fun x h=>gU h (k x)
theorem ov (h:∃x y z,a x y z/\b x y z/\c x y z) (k:∀x y z,a x y z->b x y z->c x y z->G):G:=h.elim fun x h=>eJ h (k x)
theorem wG (h:∃x y z,a x y z/\b x y z/\c x y z/\d x y z) (k:∀x y z,a x y z->b x y z->c x y z->d x y z->G):G:=h.elim fun x h=>qj h (k x)
end
end
theorem dB {α β:Type} [BEq α] [LawfulBEq α] {n k:α} {b:β} {fs:List (α×β)} (h:k=n):List.lookup n ((k,b)::fs)=some b:=by
 rw [<-h];exact List.lookup_cons_self
theorem cY {α β:Type} [BEq α] [LawfulBEq α] {n k:α} {b:β} {fs:List (α×β)} (h:k≠n):List.lookup n ((k,b)::fs)=fs.lookup n:=by
 show (match n==k with | true=>some b | false=>_)=_;rw [beq_false_of_ne (aS h)]
theorem jP {α β:Type} [BEq α] [LawfulBEq α] {n:α} {b:β} {fs:List (α×β)} (h:fs.lookup n=some b):(n,b)∈fs:=by
 induction fs with
 | nil=>exact bZ h
 | cons p fs ih=>
  by_cases q:p.1=n
  ·exact bW ((dB q).symm.trans h)▸q▸ .head _
  ·exact .tail _ (ih ((cY q).symm.trans h))
@[elab_as_elim] theorem bi {α:Sort u} {a b:α} {motive:α->Prop} (h:a=b) (k:motive b):motive a:=h▸k
@[elab_as_elim] theorem rt {α:Sort u} {a b:α} {motive:α->Prop} (h:b=a) (k:motive b):motive a:=h▸k
end
end Mine
end
section
namespace Mine
open PySem
inductive V where
 | none | bool (b:Bool) | int (i:Int) | str (l:List Nat) | bytes (l:List Nat)
 | tup (l:List V) | lst (l:List V) | ref (a:Addr) | rng (a b:Int)
inductive O where
 | list (l:List V) | inst (C dx:Addr) | idict (fs:List (Nat×V)) | dict (es:List (V×V)) | hid
noncomputable abbrev be:=Addr->Option O
noncomputable abbrev bv:=Nat->Option V
noncomputable abbrev KV:=V->be->Prop
noncomputable def be.set (Y:be) (a:Addr) (o:O):be:=fun b=>if b=a then some o else Y b
noncomputable def be.del (Y:be) (a:Addr):be:=fun b=>if b=a then none else Y b
noncomputable def bv.set (H:bv) (n:Nat) (v:V):bv:=fun k=>cond (Nat.beq k n) (some v) (H k)
inductive Fn where
 | len | min | max | all | ord | tuple | list (m:Bool) | bytes | str | range | user (i:Nat)
inductive Mt where
 | append | pop | extend | index | join | split | user (i:Nat)
inductive SK where
 | plain | zip | enum | enumzip | szw
inductive TT where
 | n (cell:Bool) (i:Nat) (p:Pos) | t (l:List TT) (p:Pos)
inductive DE where
 | lit (v:V) (p:Pos) | nm (cell:Bool) (n:Nat) (p:Pos) | glob (g:Nat) (p:Pos)
 | bin (m:Bool) (op:Operator) (l r:DE) (p:Pos) | un (neg:Bool) (x:DE) (p:Pos)
 | bop (a:Bool) (xs:List DE) (p:Pos)
 | cmp (op:CmpOp) (l r:DE) (p:Pos) | btw (l m r:DE) (p:Pos)
 | ife (t b o:DE) (p:Pos)
 | call (f:Fn) (args:List DE) (fp p:Pos)
 | meth (m:Mt) (o:DE) (args:List DE) (ap p:Pos)
 | attr (o:DE) (n:Nat) (p:Pos)
 | sub (o i:DE) (p:Pos)
 | szw (i:DE) (np p:Pos)
 | slc (mu:Bool) (o:DE) (l u s:Option DE) (sp p:Pos)
 | tup (xs:List DE) (p:Pos) | lst (mu:Bool) (xs:List DE) (p:Pos) | dict (p:Pos)
 | comp (mu:Bool) (elt:DE) (tg:TT) (sk:SK) (srcs:List DE) (ps:List Pos) (ifs:List DE) (sc:Scope) (p:Pos)
inductive DS where
 | expr (e:DE) (p:Pos)
 | asg (t:TT) (e:DE) (p:Pos)
 | asgAttr (o:DE) (n:Nat) (e:DE) (tp p:Pos)
 | asgSub (o i e:DE) (tp p:Pos)
 | asgSlc (o l u e:DE) (sp tp p:Pos)
 | ret (e:DE) (p:Pos)
 | ite (t:DE) (b o:List DS) (p:Pos)
 | while (t:DE) (b:List DS) (p:Pos)
 | for (tg:TT) (sk:SK) (srcs:List DE) (ps:List Pos) (b:List DS) (p:Pos)
 | cont (p:Pos)
 | raise (arg:DE) (fp cp p:Pos)
inductive Fl where
 | next | cont | ret (v:V)
noncomputable def nn {α β:Type}:α->Option β:=fun U=>none
noncomputable def nA {α:Type} (v:V) (b:Bool->Option α) (i:Int->Option α) (s y:List Nat->Option α) (t l:List V->Option α) (r:Addr->Option α):Option α:=V.casesOn v none b i s y t l r fun U U=>none
noncomputable def BX (v:V):Option Bool:=nA v some nn nn nn nn nn nn
noncomputable def gA (v:V):Option Int:=nA v nn some nn nn nn nn nn
noncomputable def lM (v:V):Option (List Nat):=nA v nn nn some nn nn nn nn
noncomputable def fv (v:V):Option (List Nat):=nA v nn nn nn some nn nn nn
noncomputable def vW (v:V):Option (List V):=nA v nn nn nn nn some nn nn
noncomputable def jf (v:V):Option (List V):=nA v nn nn nn nn nn some nn
noncomputable def asQ (v:V):Option (List V):=nA v nn nn nn nn some some nn
noncomputable def asR (v:V):Option Addr:=nA v nn nn nn nn nn nn some
noncomputable def Ah (v:V):Bool:=Nat.beq v.ctorIdx 0
noncomputable def oL (o:O):Option (List V):=O.casesOn o some (fun U U=>none) nn nn none
noncomputable def oI (o:O):Option (Addr×Addr):=O.casesOn o nn (fun C dx=>some (C,dx)) nn nn none
noncomputable def oF (o:O):Option (List (Nat×V)):=O.casesOn o nn (fun U U=>none) some nn none
noncomputable def oD (o:O):Option (List (V×V)):=O.casesOn o nn (fun U U=>none) nn some none
noncomputable def gd (b:Bool) (P:Prop):Prop:=match b with | true=>P | false=>False
theorem dG {b:Bool} {P:Prop} (h:gd b P):b=true/\P:=match b,h with | true,h=>⟨rfl,h⟩
theorem bx {p P:Prop} [Decidable p] (h:p) (q:P):gd (decide p) P:=by rw [aA h];exact q
theorem cD {b:Bool} {P:Prop} (h:b=true) (q:P):gd b P:=by rw [h];exact q
theorem cF {p P:Prop} [Decidable p] (h:gd (decide p) P):p/\P:=⟨aU (dG h).1,(dG h).2⟩
noncomputable def on {α:Type} (o:Option α) (f:α->Prop):Prop:=match o with | some x=>f x | none=>False
noncomputable def a1 (vs:List V) (f:V->Prop):Prop:=match vs with | [v]=>f v | _=>False
noncomputable def a2 (vs:List V) (f:V->V->Prop):Prop:=match vs with | [v,w]=>f v w | _=>False
noncomputable def cz {α:Type} (f:V->Option α):List V->Option (List α)
 | []=>some []
 | v::r=>(f v).bind fun a=>(cz f r).map (a:: ·)
noncomputable def fG (v:V) (Y:be):Option (Addr×List V):=(asR v).bind fun a=>(Y a).bind fun o=>(oL o).map (a, ·)
noncomputable def lP (v:V) (Y:be):Option (Addr×List (V×V)):=(asR v).bind fun a=>(Y a).bind fun o=>(oD o).map (a, ·)
noncomputable def gC (v:V) (Y:be):Option (Addr×Addr×List (Nat×V)):=
 (asR v).bind fun a=>(Y a).bind fun o=>(oI o).bind fun p=>(Y p.2).bind fun o=>(oF o).map (p.1,p.2, ·)
noncomputable def dC (v:V) (Y:be):Option (List V):=match jf v with | some l=>some l | none=>(fG v Y).map (·.2)
noncomputable def cI (v:V) (Y:be):Option (List V):=match vW v with | some l=>some l | none=>dC v Y
noncomputable def deref (v:V) (Y:be):V:=match fG v Y with | some p=> .lst p.2 | none=>v
noncomputable def C0 (v:V):Option Int:=nA v (fun b=>some (cond b 1 0)) some nn nn nn nn nn
mutual
noncomputable def bw:V->V->Bool
 | .none,w=>Ah w
 | .bool a,w=>match C0 w with | some j=>decide ((cond a 1 0:Int)=j) | none=>false
 | .int i,w=>match C0 w with | some j=>decide (i=j) | none=>false
 | .str a,w=>match lM w with | some b=>a==b | none=>false
 | .bytes a,w=>match fv w with | some b=>a==b | none=>false
 | .tup a,w=>match vW w with | some b=>eqVs a b | none=>false
 | .lst a,w=>match jf w with | some b=>eqVs a b | none=>false
 | .ref U,z1=>false
 | .rng U z1,z2=>false
noncomputable def eqVs:List V->List V->Bool
 | [],r=>r.isEmpty
 | a::l,r=>match r with | b::r=>bw a b && eqVs l r | []=>false
end
mutual
noncomputable def iu:V->Nat->Bool
 | .none,_ | .bool _,_ | .int _,_ | .str _,_=>true
 | .tup l,n=>Nat.rec false (fun m U=>okVs l m) n
 | .lst l,n=>Nat.rec false (fun m U=>okVs l m) n
 | .bytes _,_ | .ref _,_ | .rng _ _,_=>false
noncomputable def okVs:List V->Nat->Bool
 | [],U=>true
 | a::l,n=>iu a n && okVs l n
end
mutual
noncomputable def fj:V->Nat->Bool
 | .int _,_ | .str _,_=>true
 | .tup l,n=>Nat.rec false (fun m U=>keyVs l m) n
 | .none,_ | .bool _,_ | .bytes _,_ | .lst _,_ | .ref _,_ | .rng _ _,_=>false
noncomputable def keyVs:List V->Nat->Bool
 | [],U=>true
 | a::l,n=>fj a n && keyVs l n
end
noncomputable def hO (v:V):Bool:=match vW v with | some l=>keyVs l 7 | none=>false
noncomputable def hN (l:List V):Bool:=l.all fun v=>(fv v).isSome
noncomputable def okB (a b:V):Bool:=((fv a).isSome && (fv b).isSome) || ((jf a).any hN && (jf b).any hN)
noncomputable def gz (a b:V):Bool:=(iu a 8 && iu b 8) || okB a b
noncomputable def newL (xs:List V) (Y:be) (Q:KV):Prop:=gd (decide (xs.length<=16777216)) (∀a,Y a=none->Q (.ref a) (Y.set a (.list xs)))
noncomputable def Cq (m:Bool) (xs:List V) (Y:be) (Q:KV):Prop:=match m with
 | true=>newL xs Y Q
 | false=>gd (decide (xs.length<=16777216)) (Q (.lst xs) Y)
noncomputable def br (b:Bool) (P P':Prop):Prop:=match b with | true=>P | false=>P'
noncomputable def pK (v:V) (P P':Prop):Prop:=on (BX v) fun b=>br b P P'
noncomputable def gk (a b:V) (f:Int->Int->Prop):Prop:=on (gA a) fun i=>on (gA b) (f i)
noncomputable def EX (m:Bool) (a b:V) (Y:be) (Q:KV):Prop:=match a with
 | .int i=>on (gA b) fun j=>Q (.int (i+j)) Y
 | .str x=>on (lM b) fun y=>gd (decide (x.length+y.length<=16777216)) (Q (.str (x++y)) Y)
 | .bytes x=>on (fv b) fun y=>gd (decide (x.length+y.length<=16777216)) (Q (.bytes (x++y)) Y)
 | .tup x=>on (vW b) fun y=>gd (decide (x.length+y.length<=16777216)) (Q (.tup (x++y)) Y)
 | .lst x=>on (jf b) fun y=>Cq m (x++y) Y Q
 | _=>False
noncomputable def EK (a b:V) (Y:be) (Q:KV):Prop:=on (gA b) fun j=>match jf a with
 | some x=>gd (decide (0<=j)) (gd (decide (j<=100)) (gd (decide (x.length<=2)) (Q (.lst (List.replicate j.toNat x).flatten) Y)))
 | none=>on (gA a) fun i=>gd (decide (i.natAbs<2 ^ 63) || decide (j.natAbs<2 ^ 63)) (Q (.int (i*j)) Y)
noncomputable def FQ (m:Bool) (op:Operator) (a b:V) (Y:be) (Q:KV):Prop:=match op with
 | .Add=>EX m a b Y Q
 | .Sub=>gk a b fun i j=>Q (.int (i - j)) Y
 | .Mult=>EK a b Y Q
 | .FloorDiv=>gk a b fun i j=>gd (decide (0<j)) (gd (decide (j<1073741824)) (Q (.int (i / j)) Y))
 | .Mod=>gk a b fun i j=>gd (decide (0<j)) (Q (.int (i % j)) Y)
 | .BitAnd=>gk a b fun i j=>gd (decide (0<=i)) (gd (decide (0<=j)) (Q (.int ((i.toNat &&& j.toNat:Nat):Int)) Y))
 | .Pow=>gk a b fun i j=>gd (decide (i.natAbs<1000)) (gd (decide (0<=j)) (gd (decide (j<100)) (Q (.int (i ^ j.toNat)) Y)))
 | _=>False
noncomputable def unD (neg:Bool) (a:V) (Y:be) (Q:KV):Prop:=match neg with
 | true=>on (gA a) fun i=>Q (.int (-i)) Y
 | false=>on (BX a) fun b=>Q (.bool (!b)) Y
noncomputable def rG (op:CmpOp) (i j:Int):Option Bool:=match op with
 | .Lt=>some (decide (i<j)) | .LtE=>some (decide (i<=j)) | .Gt=>some (decide (j<i)) | .GtE=>some (decide (j<=i))
 | _=>none
noncomputable def fl (n b:Bool):Bool:=cond n (!b) b
noncomputable def eqD (neg:Bool) (a b:V) (Y:be) (Q:KV):Prop:=gd (gz (deref a Y) (deref b Y)) (Q (.bool (fl neg (bw (deref a Y) (deref b Y)))) Y)
noncomputable def rj (v:V):Bool:=Nat.blt v.ctorIdx 7
noncomputable def isD (neg:Bool) (a b:V) (Y:be) (Q:KV):Prop:=gd (Ah b) (gd (rj a) (Q (.bool (fl neg (Ah a))) Y))
noncomputable def Fg (neg:Bool) (a b:V) (Y:be) (Q:KV):Prop:=match cI b Y with
 | some l=>gd (l.all (gz · a)) (Q (.bool (fl neg (l.any (bw · a)))) Y)
 | none=>on (lP b Y) fun p=>gd (decide (p.1≠1)) (gd (hO a) (Q (.bool (fl neg (p.2.any (fun e=>bw e.1 a)))) Y))
noncomputable def EH (neg:Bool) (a b:V) (Y:be) (Q:KV):Prop:=match fv b with
 | some l=>on (gA a) fun i=>gd (decide (0<=i)) (gd (decide (i<256)) (Q (.bool (fl neg (l.contains i.toNat))) Y))
 | none=>Fg neg a b Y Q
noncomputable def BN (op:CmpOp) (a b:V) (Y:be) (Q:KV):Prop:=match op with
 | .Eq=>eqD false a b Y Q
 | .NotEq=>eqD true a b Y Q
 | .Is=>isD false a b Y Q
 | .IsNot=>isD true a b Y Q
 | .In=>EH false a b Y Q
 | .NotIn=>EH true a b Y Q
 | op=>gk a b fun i j=>on (rG op i j) fun r=>Q (.bool r) Y
noncomputable def dk (i:Int) (n:Nat):Option Nat:=
 if 0<=i then (if i.toNat<n then some i.toNat else none) else if 0<=(n:Int)+i then some ((n:Int)+i).toNat else none
noncomputable def rv (n:Nat) (v:V):Option (Option Nat):=match gA v with
 | some i=>some (some (if i<0 then n - (-i).toNat else i.toNat))
 | none=>match Ah v with | true=>some none | false=>none
noncomputable def Em {α:Type} (l:List α) (a b:Option Nat):List α:=((match b with | some j=>l.take j | none=>l).drop (match a with | some i=>i | none=>0))
noncomputable def l4 {α:Type} (l:List α) (a b:V):Option (List α):=(rv l.length a).bind fun x=>(rv l.length b).map fun y=>Em l x y
noncomputable def cU:Nat->Nat->List Nat
 | 0,U=>[]
 | f+1,n=>if n<10 then [48+n] else cU f (n / 10)++[48+n % 10]
noncomputable def bQ (i:Int):List Nat:=if i<0 then 45::cU 20 i.natAbs else cU 20 i.natAbs
noncomputable def bn (c:Nat):List Nat->List (List Nat)
 | []=>[[]]
 | x::r=>if x=c then []::bn c r else (match bn c r with | w::ws=>(x::w)::ws | []=>[[x]])
noncomputable def bk (sep:List Nat):List (List Nat)->List Nat
 | []=>[]
 | x::r=>match r with | []=>x | U::z1=>x++sep++bk sep r
noncomputable def dH (l:List Nat):Option (List Nat):=
 if l=[115,105,110,103,108,101]\/l=[119,105,100,101]\/l=[116,111,112]\/l=[98,111,116,116,111,109] then some l else none
noncomputable def sizeNames:List V:=[.str [115,105,110,103,108,101], .str [119,105,100,101], .str [116,111,112], .str [98,111,116,116,111,109]]
noncomputable abbrev dW:=Nat->List V->be->KV->KV->Prop
noncomputable def oW (v:V) (Y:be):Option Nat:=match fv v with
 | some l=>some l.length
 | none=>match cI v Y with
  | some l=>some l.length
  | none=>(lP v Y).bind fun p=>if p.1≠1/\p.2.length<=1000 then some p.2.length else none
noncomputable def tv (vs:List V):Option (Int×Int):=match vs with
 | []=>none
 | a::r=>match r with
  | []=>(gA a).map fun j=>(0,j)
  | b::r=>match r with
   | []=>(gA a).bind fun i=>(gA b).map fun j=>(i,j)
   | U::z1=>none
noncomputable def oO (Γ:dW) (f:Fn) (vs:List V) (Y:be) (Q X:KV):Prop:=match f with
 | .len=>a1 vs fun v=>on (oW v Y) fun n=>gd (decide (n<=16777216)) (Q (.int n) Y)
 | .min=>a2 vs fun a b=>gk a b fun i j=>Q (.int (if j<i then j else i)) Y
 | .max=>a2 vs fun a b=>gk a b fun i j=>Q (.int (if i<j then j else i)) Y
 | .all=>a1 vs fun v=>on (dC v Y) fun l=>on (cz BX l) fun bs=>Q (.bool (bs.all id)) Y
 | .ord=>a1 vs fun v=>on (lM v) fun l=>match l with | [c]=>Q (.int c) Y | _=>False
 | .tuple=>a1 vs fun v=>on (cI v Y) fun l=>gd (decide (l.length<=16777216)) (Q (.tup l) Y)
 | .list m=>a1 vs fun v=>on (cI v Y) fun l=>Cq m l Y Q
 | .bytes=>a1 vs fun v=>on (dC v Y) fun l=>on (cz gA l) fun is=>gd (is.all fun i=>decide (0<=i) && decide (i<256)) (gd (decide (is.length<=16777216)) (Q (.bytes (is.map Int.toNat)) Y))
 | .str=>a1 vs fun v=>on (gA v) fun i=>gd (decide (i.natAbs<10 ^ 18)) (Q (.str (bQ i)) Y)
 | .range=>on (tv vs) fun p=>gd (decide (-(2 ^ 24)<=p.1)) (gd (decide (p.1<=2 ^ 24)) (gd (decide (-(2 ^ 24)<=p.2)) (gd (decide (p.2<=2 ^ 24)) (Q (.rng p.1 p.2) Y))))
 | .user i=>Γ i vs Y Q X
noncomputable def dR (p:V->Bool):List V->Option Nat
 | []=>none
 | a::l=>if p a then some 0 else (dR p l).map (· +1)
noncomputable def xQ (Γ:dW) (m:Mt) (v:V) (vs:List V) (Y:be) (Q X:KV):Prop:=match m with
 | .append=>on (fG v Y) fun p=>a1 vs fun x=>gd (decide (p.2.length<16777216)) (Q .none (Y.set p.1 (.list (p.2++[x]))))
 | .pop=>on (fG v Y) fun p=>gd vs.isEmpty (gd (decide (p.2.length<=16777216)) (on p.2.getLast? fun x=>Q x (Y.set p.1 (.list p.2.dropLast))))
 | .extend=>on (fG v Y) fun p=>a1 vs fun x=>on (cI x Y) fun r=>gd (decide (p.2.length+r.length<=16777216)) (gd (match x with | .ref b=> !Nat.beq b p.1 | _=>true) (Q .none (Y.set p.1 (.list (p.2++r)))))
 | .index=>a1 vs fun x=>match fv v with
  | some l=>on (gA x) fun i=>gd (decide (0<=i)) (gd (decide (i<256)) (on (l.findIdx? (· ==i.toNat)) fun k=>Q (.int k) Y))
  | none=>on (dC v Y) fun l=>gd (iu x 8 && l.all (iu · 8)) (gd (decide (l.length<=16777216)) (on (dR (bw · x) l) fun k=>Q (.int k) Y))
 | .join=>a1 vs fun x=>on (dC x Y) fun l=>match fv v with
  | some sep=>on (cz fv l) fun bs=>gd (decide ((bk sep bs).length<=16777216)) (Q (.bytes (bk sep bs)) Y)
  | none=>on (lM v) fun sep=>on (cz lM l) fun bs=>gd (decide ((bs.map List.length).sum+bs.length*sep.length<=16777216)) (Q (.str (bk sep bs)) Y)
 | .split=>on (fv v) fun l=>a1 vs fun x=>on (fv x) fun s=>match s with | [c]=>gd (decide (l.length<16777216)) (Q (.lst ((bn c l).map V.bytes)) Y) | _=>False
 | .user i=>Γ i (v::vs) Y Q X
noncomputable def AK:Nat->Option Nat
 | 29=>some 28 | 32=>some 34 | 33=>some 69 | 34=>some 52 | _=>none
noncomputable def CB (cls:Nat->Addr) (m:Mt) (v:V) (Y:be):Bool:=match m with
 | .append | .pop | .extend=>(fG v Y).isSome
 | .index=>(fv v).isSome || (dC v Y).isSome
 | .join=>(fv v).isSome || (lM v).isSome
 | .split=>(fv v).isSome
 | .user i=>match gC v Y with | some p=>p.1==cls i && p.2.2.all (fun q=>some q.1 !=AK i) | none=>false
noncomputable def Ff (v:V) (n:Nat) (Y:be) (Q:KV):Prop:=on (gC v Y) fun p=>on (p.2.2.lookup n) fun x=>Q x Y
noncomputable def lV (n:Nat) (x:V):List (Nat×V)->List (Nat×V)
 | []=>[(n,x)]
 | p::r=>cond (Nat.beq p.1 n) ((p.1,x)::r) (p::lV n x r)
noncomputable def Dr (v:V) (n:Nat) (x:V) (Y:be) (P:be->Prop):Prop:=on (gC v Y) fun p=>gd (decide (p.2.2.length<=100)) (P (Y.set p.2.1 (.idict (lV n x p.2.2))))
noncomputable def l6 (v j:V) (Y:be) (Q:KV):Prop:=match lM v with
 | some l=>on (gA j) fun i=>gd (decide (l.length<=16777216)) (on (dk i l.length) fun k=>Q (.str [l.getD k 0]) Y)
 | none=>match cI v Y with
  | some l=>on (gA j) fun i=>gd (decide (l.length<=16777216)) (on (dk i l.length) fun k=>on l[k]? fun x=>Q x Y)
  | none=>on (lP v Y) fun p=>gd (decide (p.1≠1)) (gd (hO j) (on (p.2.find? (fun e=>bw e.1 j)) fun e=>Q e.2 Y))
noncomputable def DP (m:Bool) (v a b c:V) (Y:be) (Q:KV):Prop:=match gA c with
 | some i=>on (dC v Y) fun l=>gd (Ah a) (gd (Ah b) (gd (decide (i= -1)) (gd (decide (l.length<=16777216)) (Cq m l.reverse Y Q))))
 | none=>gd (Ah c) (match v with
  | .str l=>gd (decide (l.length<=16777216)) (on (l4 l a b) fun r=>Q (.str r) Y)
  | .bytes l=>gd (decide (l.length<=16777216)) (on (l4 l a b) fun r=>Q (.bytes r) Y)
  | .tup l=>gd (decide (l.length<=16777216)) (on (l4 l a b) fun r=>Q (.tup r) Y)
  | v=>on (dC v Y) fun l=>gd (decide (l.length<=16777216)) (on (l4 l a b) fun r=>Cq m r Y Q))
noncomputable def jv (k x:V):List (V×V)->List (V×V)
 | []=>[(k,x)]
 | p::r=>if bw p.1 k then (p.1,x)::r else p::jv k x r
noncomputable def jS (v j x:V) (Y:be) (P:be->Prop):Prop:=match fG v Y with
 | some p=>on (gA j) fun i=>gd (decide (p.2.length<=16777216)) (on (dk i p.2.length) fun k=>P (Y.set p.1 (.list (p.2.set k x))))
 | none=>on (lP v Y) fun p=>gd (decide (p.1≠1)) (gd (hO j) (gd (decide (p.2.length<=100)) (P (Y.set p.1 (.dict (jv j x p.2))))))
noncomputable def zJ (v a b x:V) (Y:be) (P:be->Prop):Prop:=on (fG v Y) fun p=>on (jf x) fun r=>gk a b fun i j=>
 gd (decide (0<=i)) (gd (decide (i<=j)) (gd (decide (j<=p.2.length)) (gd (decide (p.2.length+r.length<=16777216)) (P (Y.set p.1 (.list (p.2.take i.toNat++r++p.2.drop j.toNat)))))))
mutual
noncomputable def dT:TT->V->bv->Option bv
 | .n U i z1,v,H=>some (H.set i v)
 | .t l U,v,H=>(asQ v).bind fun vs=>bindTs l vs H
noncomputable def bindTs:List TT->List V->bv->Option bv
 | [],vs,H=>match vs with | []=>some H | U::z1=>none
 | t::ts,vs,H=>match vs with | []=>none | v::vs=>(dT t v H).bind fun H'=>bindTs ts vs H'
end
mutual
noncomputable def gj:TT->List Nat
 | .n U i z1=>[i]
 | .t l U=>namesTs l
noncomputable def namesTs:List TT->List Nat
 | []=>[]
 | t::r=>gj t++namesTs r
end
noncomputable def dl (a b:Int):List V:=(List.range (b - a).toNat).map fun (k:Nat)=>V.int (a+(k:Int))
noncomputable def gm:Nat->List V->List V
 | U,[]=>[]
 | k,v::r=> .tup [.int k,v]::gm (k+1) r
noncomputable def i4:List V->List V->List V
 | [],U=>[]
 | a::l,r=>match r with | []=>[] | b::r=> .tup [a,b]::i4 l r
noncomputable abbrev Cd:=Option (Addr×O)
noncomputable def yk (v:V) (Y:be):Option (List V×Cd):=match v with
 | .lst l | .tup l=>some (l,none)
 | .bytes l=>some (l.map fun (c:Nat)=>V.int c,none)
 | .str l=>some (l.map fun (c:Nat)=>V.str [c],none)
 | .rng a b=>some (dl a b,none)
 | v=>(fG v Y).map fun p=>(p.2,some (p.1, .list p.2))
noncomputable def zy (sk:SK) (vs:List V) (Y:be):Option (List V×Cd):=match sk with
 | .plain=>match vs with | [v]=>yk v Y | _=>none
 | .szw=>some (sizeNames,none)
 | .enum=>(cz jf vs).bind fun ls=>match ls with | [l]=>some (gm 0 l,none) | _=>none
 | .zip=>(cz jf vs).bind fun ls=>match ls with | [l,r]=>some (i4 l r,none) | _=>none
 | .enumzip=>(cz jf vs).bind fun ls=>match ls with | [l,r]=>some (gm 0 (i4 l r),none) | _=>none
noncomputable def cb (c:Cd) (Y:be):Prop:=match c with
 | some p=>Y p.1=some p.2
 | none=>True
noncomputable def DO (sk:SK) (c:Cd) (Y:be) (f:Cd->be->Prop):Prop:=match sk with
 | .zip | .enumzip=>∀Z,Y Z=none->f (some (Z, .hid)) (Y.set Z .hid)
 | .plain | .enum | .szw=>f c Y
noncomputable def unhid (c:Cd) (Y:be):be:=match c with
 | some (Z, .hid)=>Y.del Z
 | _=>Y
mutual
noncomputable def Fz (Y Y':be):V->V->Prop
 | .lst ys,v=>(∃xs,v= .lst xs/\Fzs Y Y' ys xs)\/(∃a xs,v= .ref a/\Y a=some (.list xs)/\Y' a=none/\Fzs Y Y' ys xs)
 | .tup ys,v=>∃xs,v= .tup xs/\Fzs Y Y' ys xs
 | .none,v=>v= .none
 | .bool b,v=>v= .bool b
 | .int i,v=>v= .int i
 | .str l,v=>v= .str l
 | .bytes l,v=>v= .bytes l
 | .ref a,v=>v= .ref a
 | .rng a b,v=>v= .rng a b
noncomputable def Fzs (Y Y':be):List V->List V->Prop
 | [],xs=>xs=[]
 | y::ys,xs=>match xs with | []=>False | x::xs=>Fz Y Y' y x/\Fzs Y Y' ys xs
end
noncomputable def FzO (Y Y':be) (o o':O):Prop:=o'=o\/(∃xs ys,o= .list xs/\o'= .list ys/\Fzs Y Y' ys xs)\/
 ∃fs gs,o= .idict fs/\o'= .idict gs/\fs.map (·.1)=gs.map (·.1)/\Fzs Y Y' (gs.map (·.2)) (fs.map (·.2))
noncomputable def ck (Y Y':be):Prop:=∀a o',Y' a=some o'->∃o,Y a=some o/\FzO Y Y' o o'
noncomputable def i0 (Y Y':be) (H H':bv):Prop:=∀n v',H' n=some v'->∃v,H n=some v/\Fz Y Y' v' v
noncomputable def xA (Q:KV):KV:=fun v Y=>∃v' Y',ck Y Y'/\Fz Y Y' v' v/\Q v' Y'
noncomputable def CQ (P:bv->be->Prop):bv->be->Prop:=fun H Y=>∃H' Y',ck Y Y'/\i0 Y Y' H H'/\P H' Y'
noncomputable abbrev KF:=Fl->bv->be->Prop
noncomputable def dQ (ifsK eltK:bv->be->KV->Prop) (tg:TT) (c:Cd) (D:Addr):List V->bv->be->(be->Prop)->Prop
 | [],U,Y,Q=>Q Y
 | x::xs,H,Y,Q=>on (dT tg x H) fun H'=>ifsK H' Y (fun b Jo=>pK b
   (eltK H' Jo (fun y Jp=>cb c Jp/\∃acc,Jp D=some (.list acc)/\acc.length<16777216/\dQ ifsK eltK tg c D xs H (Jp.set D (.list (acc++[y]))) Q))
   (cb c Jo/\dQ ifsK eltK tg c D xs H Jo Q))
noncomputable def kK (m:Bool) (D:Addr) (Y:be) (Q:KV):Prop:=match m with
 | true=>Q (.ref D) Y
 | false=>∃acc,Y D=some (.list acc)/\Q (.lst acc) (Y.del D)
noncomputable def KL (Q:KF) (c:Cd) (W:bv->be->Prop):KF:=fun fl Ji Jo=>match fl with
 | .ret v=>Q (.ret v) Ji Jo
 | _=>CQ (fun Jj Jp=>cb c Jp/\W Jj Jp) Ji Jo
noncomputable def fZ (body:bv->be->KF->Prop) (tg:TT) (c:Cd):List V->bv->be->KF->Prop
 | [],H,Y,Q=>Q .next H Y
 | x::xs,H,Y,Q=>on (dT tg x H) fun H'=>body H' Y (KL Q c fun Jj Jp=>fZ body tg c xs Jj Jp Q)
noncomputable def gT (test:bv->be->KV->Prop) (body:bv->be->KF->Prop):Nat->bv->be->KF->Prop
 | 0,U,z1,z2=>False
 | n+1,H,Y,Q=>test H Y (fun b Jo=>pK b (body H Jo (KL Q none fun Jj Jp=>gT test body n Jj Jp Q)) (Q .next H Jo))
noncomputable def i6 (tg:TT) (H:bv):bv:=fun n=>if n∈gj tg then none else H n
structure eT where
 gval:Nat->V
 cls:Nat->Addr
mutual
noncomputable def dO (T:eT) (Γ:dW):DE->bv->be->KV->KV->Prop
 | .lit v U,z1,Y,Q,z2=>Q v Y
 | .nm U n z1,H,Y,Q,z2=>on (H n) fun v=>Q v Y
 | .glob g U,z1,Y,Q,z2=>Q (T.gval g) Y
 | .bin m op l r U,H,Y,Q,X=>dO T Γ l H Y (fun a Jo=>dO T Γ r H Jo (fun b Jp=>FQ m op a b Jp Q) X) X
 | .un n x U,H,Y,Q,X=>dO T Γ x H Y (fun a Jo=>unD n a Jo Q) X
 | .bop a xs U,H,Y,Q,X=>evB T Γ a xs H Y Q X
 | .cmp op l r U,H,Y,Q,X=>dO T Γ l H Y (fun a Jo=>dO T Γ r H Jo (fun b Jp=>BN op a b Jp Q) X) X
 | .btw l m r U,H,Y,Q,X=>dO T Γ l H Y (fun a Jo=>dO T Γ m H Jo (fun b Jp=>gk a b fun i j=>
   br (decide (i<=j)) (dO T Γ r H Jp (fun c Jq=>on (gA c) fun k=>Q (.bool (decide (j<=k))) Jq) X) (Q (.bool false) Jp)) X) X
 | .ife t b o U,H,Y,Q,X=>dO T Γ t H Y (fun c Jo=>pK c (dO T Γ b H Jo Q X) (dO T Γ o H Jo Q X)) X
 | .call f args U z1,H,Y,Q,X=>evs T Γ args H Y (fun vs Jo=>oO Γ f vs Jo Q X) X
 | .meth m o args U z1,H,Y,Q,X=>dO T Γ o H Y (fun v Jo=>gd (CB T.cls m v Jo) (evs T Γ args H Jo (fun vs Jp=>xQ Γ m v vs Jp Q X) X)) X
 | .attr o n U,H,Y,Q,X=>dO T Γ o H Y (fun v Jo=>Ff v n Jo Q) X
 | .sub o i U,H,Y,Q,X=>dO T Γ o H Y (fun v Jo=>dO T Γ i H Jo (fun j Jp=>l6 v j Jp Q) X) X
 | .szw i U z1,H,Y,Q,X=>dO T Γ i H Y (fun j Jo=>on ((lM j).bind dH) fun x=>Q (.bytes x) Jo) X
 | .slc m o l u s U z1,H,Y,Q,X=>dO T Γ o H Y (fun v Jo=>evO T Γ l H Jo (fun a Jp=>evO T Γ u H Jp (fun b Jq=>evO T Γ s H Jq (fun c Jr=>DP m v a b c Jr Q) X) X) X) X
 | .tup xs U,H,Y,Q,X=>evs T Γ xs H Y (fun vs Jo=>Q (.tup vs) Jo) X
 | .lst m xs U,H,Y,Q,X=>evs T Γ xs H Y (fun vs Jo=>match m with
   | true=>∀a,Jo a=none->Q (.ref a) (Jo.set a (.list vs))
   | false=>Q (.lst vs) Jo) X
 | .dict U,z1,Y,Q,z2=>∀a,Y a=none->a≠1->Q (.ref a) (Y.set a (.dict []))
 | .comp m elt tg sk srcs U ifs z1 z2,H,Y,Q,X=>evs T Γ srcs H Y (fun vs Jo=>on (zy sk vs Jo) fun p=>DO sk p.2 Jo fun c Jp=>∀D,Jp D=none->
   dQ (fun H' Y' Q'=>evB T Γ true ifs H' Y' Q' (fun U U=>False)) (fun H' Y' Q'=>dO T Γ elt H' Y' Q' (fun U U=>False)) tg c D p.1 (i6 tg H) (Jp.set D (.list [])) (fun Jq=>kK m D (unhid c Jq) Q)) X
noncomputable def evs (T:eT) (Γ:dW):List DE->bv->be->(List V->be->Prop)->KV->Prop
 | [],U,Y,Q,z1=>Q [] Y
 | x::r,H,Y,Q,X=>dO T Γ x H Y (fun v Jo=>evs T Γ r H Jo (fun vs Jp=>Q (v::vs) Jp) X) X
noncomputable def evO (T:eT) (Γ:dW):Option DE->bv->be->KV->KV->Prop
 | none,U,Y,Q,z1=>Q .none Y
 | some x,H,Y,Q,X=>dO T Γ x H Y Q X
noncomputable def evB (T:eT) (Γ:dW) (a:Bool):List DE->bv->be->KV->KV->Prop
 | [],U,Y,Q,z1=>Q (.bool a) Y
 | x::r,H,Y,Q,X=>dO T Γ x H Y (fun v Jo=>on (BX v) fun b=>br (cond a b !b) (evB T Γ a r H Jo Q X) (Q (.bool (!a)) Jo)) X
end
mutual
noncomputable def Gd (T:eT) (Γ:dW):DS->bv->be->KF->KV->Prop
 | .expr e U,H,Y,Q,X=>dO T Γ e H Y (fun U Jo=>Q .next H Jo) X
 | .asg t e U,H,Y,Q,X=>dO T Γ e H Y (fun v Jo=>on (dT t v H) fun H'=>Q .next H' Jo) X
 | .asgAttr o n e U z1,H,Y,Q,X=>dO T Γ e H Y (fun v Jo=>dO T Γ o H Jo (fun w Jp=>Dr w n v Jp (fun Jq=>Q .next H Jq)) X) X
 | .asgSub o i e U z1,H,Y,Q,X=>dO T Γ e H Y (fun v Jo=>dO T Γ o H Jo (fun w Jp=>dO T Γ i H Jp (fun j Jq=>jS w j v Jq (fun Jr=>Q .next H Jr)) X) X) X
 | .asgSlc o l u e U z1 z2,H,Y,Q,X=>dO T Γ e H Y (fun v Jo=>dO T Γ o H Jo (fun w Jp=>dO T Γ l H Jp (fun a Jq=>dO T Γ u H Jq (fun b Jr=>zJ w a b v Jr (fun Js=>Q .next H Js)) X) X) X) X
 | .ret e U,H,Y,Q,X=>dO T Γ e H Y (fun v Jo=>Q (.ret v) H Jo) X
 | .ite t b o U,H,Y,Q,X=>dO T Γ t H Y (fun c Jo=>pK c (exDs T Γ b H Jo Q X) (exDs T Γ o H Jo Q X)) X
 | .while t b U,H,Y,Q,X=>∃n,gT (fun H' Y' Q'=>dO T Γ t H' Y' Q' X) (fun H' Y' Q'=>exDs T Γ b H' Y' Q' X) n H Y Q
 | .for tg sk srcs U b z1,H,Y,Q,X=>evs T Γ srcs H Y (fun vs Jo=>on (zy sk vs Jo) fun p=>DO sk p.2 Jo fun c Jp=>fZ (fun H' Y' Q'=>exDs T Γ b H' Y' Q' X) tg c p.1 H Jp (fun fl H' Y'=>Q fl H' (unhid c Y'))) X
 | .cont U,H,Y,Q,z1=>Q .cont H Y
 | .raise arg U z1 z2,H,Y,z3,X=>dO T Γ arg H Y X X
noncomputable def exDs (T:eT) (Γ:dW):List DS->bv->be->KF->KV->Prop
 | [],H,Y,Q,U=>Q .next H Y
 | s::r,H,Y,Q,X=>Gd T Γ s H Y (fun fl Ji Jo=>match fl with
   | .next=>exDs T Γ r Ji Jo Q X
   | fl=>Q fl Ji Jo) X
end
end Mine
end
section
namespace Mine
open PySem PySem.W PyProof.Rows PySem.Calls
noncomputable def nmL:List Str:=[Str.ofString "number",Str.ofString "rest",Str.ofString "found",Str.ofString "octets",Str.ofString "octet",Str.ofString "pen",Str.ofString "is_blank",Str.ofString "flags",Str.ofString "fore",Str.ofString "back",Str.ofString "under",Str.ofString "cell",Str.ofString "codes",Str.ofString "width",Str.ofString "is_guarded",Str.ofString "cells",Str.ofString "column",Str.ofString "one",Str.ofString "other",Str.ofString "row",Str.ofString "near",Str.ofString "far",Str.ofString "left",Str.ofString "right",Str.ofString "picture",Str.ofString "signs",Str.ofString "code",Str.ofString "goes_on",Str.ofString "words",Str.ofString "shown",Str.ofString "reader",Str.ofString "rows",Str.ofString "columns",Str.ofString "more",Str.ofString "sizes",Str.ofString "wraps",Str.ofString "size",Str.ofString "script",Str.ofString "mixed",Str.ofString "deck",Str.ofString "below",Str.ofString "figure",Str.ofString "is_empty",Str.ofString "kind",Str.ofString "turn",Str.ofString "place",Str.ofString "many",Str.ofString "lines",Str.ofString "built",Str.ofString "is_seen",Str.ofString "at",Str.ofString "is_wide",Str.ofString "line",Str.ofString "way",Str.ofString "value",Str.ofString "ahead",Str.ofString "word",Str.ofString "sign",Str.ofString "spots",Str.ofString "fault",Str.ofString "k",Str.ofString "again",Str.ofString "told",Str.ofString "known",Str.ofString "keys",Str.ofString "numbers",Str.ofString "is_same",Str.ofString "is_whole",Str.ofString "bent",Str.ofString "run",Str.ofString "self",Str.ofString "cursor",Str.ofString "is_shown",Str.ofString "is_fine",Str.ofString "part"]
noncomputable def fnL:List (Str×Addr):=[(Str.ofString "decimal_octets",54),(Str.ofString "number_of",61),(Str.ofString "picture_pen",70),(Str.ofString "shown_cell",77),(Str.ofString "blank_shown",84),(Str.ofString "Picture",142),(Str.ofString "width_of",106),(Str.ofString "row_cells",113),(Str.ofString "row_shown",120),(Str.ofString "equals",125),(Str.ofString "equals_whole",132),(Str.ofString "used",139),(Str.ofString "whole_left",153),(Str.ofString "whole_right",160),(Str.ofString "changed_in_row",167),(Str.ofString "changed",172),(Str.ofString "RowKeys",201),(Str.ofString "number_of",193),(Str.ofString "of",198),(Str.ofString "text_rows",212),(Str.ofString "picture_hex",219),(Str.ofString "picture_hex_number",226),(Str.ofString "picture_signed_octets",233),(Str.ofString "picture_number",240),(Str.ofString "picture_signed_number",247),(Str.ofString "cell_word",252),(Str.ofString "picture_row_octets",257),(Str.ofString "picture_octets",264),(Str.ofString "PictureReader",319),(Str.ofString "words",285),(Str.ofString "next_word",292),(Str.ofString "need",299),(Str.ofString "sizes",306),(Str.ofString "run",316),(Str.ofString "line",311),(Str.ofString "read_picture",330),(Str.ofString "_law_bare",338),(Str.ofString "_law_seen",347),(Str.ofString "_law_deck",352),(Str.ofString "_law_draw",359),(Str.ofString "_law_pen",366),(Str.ofString "_law_line",373),(Str.ofString "_law_built",380),(Str.ofString "_law_turned",385),(Str.ofString "_law_picture",390),(Str.ofString "_law_number",397),(Str.ofString "_law_hex",404),(Str.ofString "_law_rows",409),(Str.ofString "_law_octets",414),(Str.ofString "_law_bent",419),(Str.ofString "_law_refused",426),(Str.ofString "_law_shown",433),(Str.ofString "_law_runs",438),(Str.ofString "_law_changes",445),(Str.ofString "_law_is_told",450),(Str.ofString "law",455)]
noncomputable def glL:List Str:=[Str.ofString "SPACE",Str.ofString "NORMAL",Str.ofString "UNDER_BITS",Str.ofString "SEEN_ON_BLANKS",Str.ofString "HEX_FIGURES",Str.ofString "_law_normal",Str.ofString "_law_sizes",Str.ofString "_law_flags"]
noncomputable def nm (i:Nat):Str:=nmL.getD i ⟨#[]⟩
noncomputable def dN (i:Nat):Str:=(fnL.getD i (⟨#[]⟩,0)).1
noncomputable def bX (i:Nat):Addr:=(fnL.getD i (⟨#[]⟩,0)).2
noncomputable def lz (i:Nat):Str:=glL.getD i ⟨#[]⟩
noncomputable def Fn.name:Fn->Str
 | .len=> "len" | .min=> "min" | .max=> "max" | .all=> "all" | .ord=> "ord" | .tuple=> "tuple" | .list U=> "list"
 | .bytes=> "bytes" | .str=> "str" | .range=> "range" | .user i=>dN i
noncomputable def Fn.val:Fn->Value
 | .len=> .builtin "len" | .min=> .builtin "min" | .max=> .builtin "max" | .all=> .builtin "all" | .ord=> .builtin "ord"
 | .tuple=> .type "tuple" | .list U=> .type "list" | .bytes=> .type "bytes" | .str=> .type "str" | .range=> .type "range"
 | .user i=> .ref (bX i)
noncomputable def Mt.name:Mt->Str
 | .append=> "append" | .pop=> "pop" | .extend=> "extend" | .index=> "index" | .join=> "join" | .split=> "split" | .user i=>dN i
mutual
noncomputable def TT.toE:TT->Expr
 | .n U i p=> .Name (nm i) p
 | .t l p=> .Tuple (TT.toEs l) 0 p
noncomputable def TT.toEs:List TT->List Expr
 | []=>[]
 | x::r=>TT.toE x::TT.toEs r
end
noncomputable def p0:Pos:=⟨0,0,0,0⟩
noncomputable def pS (sk:SK) (es:List Expr) (ps:List Pos):Expr:=match sk with
 | .plain=>es.headD (.Constant .none 0 p0)
 | .zip=> .Call (.Name "zip" (ps.getD 0 p0)) es [] (ps.getD 1 p0)
 | .enum=> .Call (.Name "enumerate" (ps.getD 0 p0)) es [] (ps.getD 1 p0)
 | .enumzip=> .Call (.Name "enumerate" (ps.getD 0 p0)) [.Call (.Name "zip" (ps.getD 2 p0)) es [] (ps.getD 3 p0)] [] (ps.getD 1 p0)
 | .szw=> .Name "SIZE_WORDS" (ps.getD 0 p0)
noncomputable def litC (v:V):Const:=V.casesOn v .none .bool .int (fun l=> .str ⟨l.toArray⟩) (fun l=> .bytes (l.map UInt8.ofNat)) (fun U=> .none) (fun U=> .none) (fun U=> .none) fun U U=> .none
mutual
noncomputable def DE.toE:DE->Expr
 | .lit v p=> .Constant (litC v) 0 p
 | .nm U n p=> .Name (Mine.nm n) p
 | .glob g p=> .Name (lz g) p
 | .bin U op l r p=> .BinOp (DE.toE l) op (DE.toE r) p
 | .un n x p=> .UnaryOp (cond n .USub .Not) (DE.toE x) p
 | .bop a xs p=> .BoolOp (cond a .And .Or) (DE.toEs xs) p
 | .cmp op l r p=> .Compare (DE.toE l) [op] [DE.toE r] p
 | .btw l m r p=> .Compare (DE.toE l) [.LtE, .LtE] [DE.toE m,DE.toE r] p
 | .ife t b o p=> .IfExp (DE.toE t) (DE.toE b) (DE.toE o) p
 | .call f args fp p=> .Call (.Name f.name fp) (DE.toEs args) [] p
 | .meth m o args ap p=> .Call (.Attribute (DE.toE o) m.name ap) (DE.toEs args) [] p
 | .attr o n p=> .Attribute (DE.toE o) (Mine.nm n) p
 | .sub o i p=> .Subscript (DE.toE o) (DE.toE i) p
 | .szw i np p=> .Subscript (.Name "SIZE_WORDS" np) (DE.toE i) p
 | .slc U o l u s sp p=> .Subscript (DE.toE o) (.Slice (DE.toEo l) (DE.toEo u) (DE.toEo s) sp) p
 | .tup xs p=> .Tuple (DE.toEs xs) 0 p
 | .lst U xs p=> .List (DE.toEs xs) p
 | .dict p=> .Dict [] [] p
 | .comp U elt tg sk srcs ps ifs sc p=> .ListComp (DE.toE elt) [⟨tg.toE,pS sk (DE.toEs srcs) ps,DE.toEs ifs,0⟩] sc p
noncomputable def DE.toEs:List DE->List Expr
 | []=>[]
 | x::r=>DE.toE x::DE.toEs r
noncomputable def DE.toEo:Option DE->Option Expr
 | none=>none
 | some x=>some (DE.toE x)
end
mutual
noncomputable def DS.toS:DS->Stmt
 | .expr e p=> .Expr e.toE p
 | .asg t e p=> .Assign [t.toE] e.toE p
 | .asgAttr o n e tp p=> .Assign [.Attribute o.toE (nm n) tp] e.toE p
 | .asgSub o i e tp p=> .Assign [.Subscript o.toE i.toE tp] e.toE p
 | .asgSlc o l u e sp tp p=> .Assign [.Subscript o.toE (.Slice (some l.toE) (some u.toE) none sp) tp] e.toE p
 | .ret e p=> .Return (some e.toE) p
 | .ite t b o p=> .If t.toE (DS.toSs b) (DS.toSs o) p
 | .while t b p=> .While t.toE (DS.toSs b) [] p
 | .for tg sk srcs ps b p=> .For tg.toE (pS sk (DE.toEs srcs) ps) (DS.toSs b) [] p
 | .cont p=> .Continue p
 | .raise arg fp cp p=> .Raise (some (.Call (.Name "BadInfo" fp) [arg.toE] [] cp)) none p
noncomputable def DS.toSs:List DS->List Stmt
 | []=>[]
 | s::r=>DS.toS s::DS.toSs r
end
noncomputable def Mt.val (m:Mt) (v:V):Value:=match m with
 | .append=> .builtin "list.append" | .pop=> .builtin "list.pop" | .extend=> .builtin "list.extend"
 | .index=> .builtin (cond (fv v).isSome "bytes.index" "list.index")
 | .join=> .builtin (cond (fv v).isSome "bytes.join" "str.join") | .split=> .builtin "bytes.split"
 | .user i=> .ref (bX i)
noncomputable def gG (i:Nat):Bool:=(6<=i && i<=11) || i==17 || i==18 || (29<=i && i<=34)
noncomputable abbrev cO:=Str->Option NameKind
noncomputable def fu (k:cO) (sc:Scope):cO:=fun x=>(sc.names.map fun (n,kd)=>if (kd== .free && k n==some .cell) then (n,NameKind.cell) else (n,kd)).lookup x
noncomputable def xz (k:cO) (x:Str) (t:NameKind):Bool:=k x==some t
noncomputable def nOk (k:cO) (c:Bool) (i:Nat):Bool:=decide (i<nmL.length) && xz k (nm i) (cond c .cell .local)
mutual
noncomputable def tD (k:cO) (cells:Bool):TT->Bool
 | .n c i _=>(!c || cells) && nOk k c i
 | .t l U=>okTs k cells l && decide (l.length<=100)
noncomputable def okTs (k:cO) (cells:Bool):List TT->Bool
 | []=>true
 | t::r=>tD k cells t && okTs k cells r
end
noncomputable def vq (k:cO) (sk:SK) (n:Nat):Bool:=match sk with
 | .plain=>n==1
 | .zip=>n==2 && xz k "zip" .globalImplicit
 | .enum=>n==1 && xz k "enumerate" .globalImplicit
 | .enumzip=>n==2 && (xz k "enumerate" .globalImplicit && xz k "zip" .globalImplicit)
 | .szw=>n==0 && xz k "SIZE_WORDS" .globalImplicit
noncomputable def CG (t:TT):Bool:=Nat.beq t.ctorIdx 1
noncomputable def Eg (sk:SK) (t:TT):Bool:=match sk with
 | .plain=>true
 | .szw=> !CG t
 | _=>CG t
noncomputable def D6 (k:cO) (tg:TT) (sc:Scope):Bool:=
 (sc.kind== .function && sc.names.all (fun x=>x.2 != .cell)) && (sc.names.all (fun x=>x.2 != .free || k x.1==some .cell) && (sc.names.all (fun x=>x.2 != .local || x.1== ".0" || (gj tg).any (fun i=>nm i==x.1)) && sc.names.all (fun x=>x.2 != .local || sc.names.lookup x.1==some .local)))
noncomputable def F7 (v:V):Bool:=V.casesOn v true (fun U=>true) (fun U=>true) (fun l=>decide (l.length<=1000) && l.all (fun c=>decide (c<1114112))) (fun l=>decide (l.length<=1000) && l.all (fun c=>decide (c<256))) (fun U=>false) (fun U=>false) (fun U=>false) fun U U=>false
mutual
noncomputable def fe (cf:Bool) (nf:Nat) (k:cO):DE->Bool
 | .lit v U=>F7 v
 | .nm c n U=>nOk k c n
 | .glob g U=>decide (g<8) && xz k (lz g) .globalImplicit
 | .bin U z1 l r z2=>fe cf nf k l && fe cf nf k r
 | .un U x z1=>fe cf nf k x
 | .bop U xs z1=>okEs cf nf k xs && !xs.isEmpty
 | .cmp U l r z1=>fe cf nf k l && fe cf nf k r
 | .btw l m r U=>fe cf nf k l && (fe cf nf k m && fe cf nf k r)
 | .ife t b o U=>fe cf nf k t && (fe cf nf k b && fe cf nf k o)
 | .call f args U z1=>okEs cf nf k args && (xz k f.name .globalImplicit && (decide (args.length<29) && (match f with | .user i=>decide (i<nf) && !gG i | _=>true)))
 | .meth m o args ap p=>fe cf nf k o && (okEs cf nf k args && (decide (args.length<29) && (ap.endLine==p.line && (match m with | .user i=>decide (i<nf) && gG i | _=>true))))
 | .attr o n U=>fe cf nf k o && decide (n<nmL.length)
 | .sub o i U=>fe cf nf k o && fe cf nf k i
 | .szw i U z1=>fe cf nf k i && xz k "SIZE_WORDS" .globalImplicit
 | .slc U o l u s z1 z2=>fe cf nf k o && (okEo cf nf k l && (okEo cf nf k u && okEo cf nf k s))
 | .tup xs U=>okEs cf nf k xs && decide (xs.length<=100)
 | .lst U xs z1=>okEs cf nf k xs && decide (xs.length<=100)
 | .dict U=>true
 | .comp U elt tg sk srcs z1 ifs sc z2=>(cf && okEs cf nf k srcs) && ((vq k sk srcs.length && Eg sk tg) && ((D6 k tg sc && tD (fu k sc) false tg) && (fe false nf (fu k sc) elt && (okEs false nf (fu k sc) ifs && decide (ifs.length<=1)))))
noncomputable def okEs (cf:Bool) (nf:Nat) (k:cO):List DE->Bool
 | []=>true
 | x::r=>fe cf nf k x && okEs cf nf k r
noncomputable def okEo (cf:Bool) (nf:Nat) (k:cO):Option DE->Bool
 | none=>true
 | some x=>fe cf nf k x
end
noncomputable def mI (e:DE):Bool:=Nat.beq e.ctorIdx 18
noncomputable def CC (ln:Nat) (t:TT):Option Nat:=TT.casesOn t (fun c i p=>cond (!c && p.line==ln) (some i) none) fun U U=>none
noncomputable def ic (ln:Nat):List TT->Option (List Nat)
 | []=>some []
 | t::r=>(CC ln t).bind fun i=>(ic ln r).map (i:: ·)
noncomputable def Cs:List TT->Bool | .n true U z1::z2=>true | _=>false
noncomputable def my (l:List TT):Nat:=((TT.toEs l).head?.map (·.pos.line)).getD 0
noncomputable def CA (l:List TT) (xs:List DE):Bool:=(!(l.length==2 || l.length==3) || Cs l) ||
 (!(xs.all fun x=>constantsAlone 8 x.toE) && match ic (my l) l with | some ns=>(ns.map nm).eraseDups.length==ns.length && decide ns.Nodup | none=>false)
noncomputable def swOk (t:TT) (e:DE):Bool:=TT.casesOn t (fun U U U=>true) fun l U=>DE.casesOn e (fun U U=>true) (fun U U U=>true) (fun U U=>true) (fun U U U U U=>true) (fun U U U=>true) (fun U U U=>true) (fun U U U U=>true) (fun U U U U=>true) (fun U U U U=>true) (fun U U U U=>true) (fun U U U U U=>true) (fun U U U=>true) (fun U U U=>true) (fun U U U=>true) (fun U U U U U U U=>true) (fun xs U=>CA l xs) (fun U U U=>true) (fun U=>true) fun U U U U U U U U U=>true
mutual
noncomputable def okS (nf:Nat) (k:cO):DS->Bool
 | .expr e U=>fe true nf k e && !mI e
 | .asg t e U=>tD k true t && (fe true nf k e && swOk t e)
 | .asgAttr o n e U z1=>fe true nf k o && (decide (n<nmL.length) && fe true nf k e)
 | .asgSub o i e U z1=>fe true nf k o && (fe true nf k i && fe true nf k e)
 | .asgSlc o l u e U z1 z2=>fe true nf k o && (fe true nf k l && (fe true nf k u && fe true nf k e))
 | .ret e U=>fe true nf k e
 | .ite t b o U=>fe true nf k t && (okSs nf k b && okSs nf k o)
 | .while t b U=>fe true nf k t && okSs nf k b
 | .for tg sk srcs U b z1=>tD k true tg && (okEs true nf k srcs && (vq k sk srcs.length && (Eg sk tg && okSs nf k b)))
 | .cont U=>true
 | .raise arg U z1 z2=>fe true nf k arg && xz k "BadInfo" .globalImplicit
noncomputable def okSs (nf:Nat) (k:cO):List DS->Bool
 | []=>true
 | s::r=>okS nf k s && okSs nf k r
end
theorem al {a b:Bool} (h:(a && b)=true):a=true:=(ay.mp h).1
theorem ar {a b:Bool} (h:(a && b)=true):b=true:=(ay.mp h).2
theorem d6 {k:cO} {x:Str} {t:NameKind} (h:xz k x t=true):k x=some t:=eq_of_beq h
theorem iC {p:Prop} [Decidable p] (h:decide p=true):p:=aU h
noncomputable def eE (d:Data):Bool:=Nat.beq d.ctorIdx 2 || Nat.beq d.ctorIdx 9
noncomputable def cN (o:Obj):Prop:=(o.cls= .type "tuple" \/o.cls= .type "list" \/o.cls= .type "range")/\eE o.data=true
noncomputable abbrev Wd:=Addr->Obj->Prop
noncomputable def G (Y:be) (h:Heap):Wd:=fun a o=>h.get? a=some o/\Y a=none/\cN o
noncomputable abbrev ey (c:String) (vs:List Value) (n:Nat):Obj:={cls:= .type c,data:= .seq vs.toArray n}
noncomputable abbrev bG (l:List Nat):Array UInt8:=(l.map UInt8.ofNat).toArray
inductive Al (G:Wd) (c:String) (Q:List Value->Prop) (v:Value):Prop
 | mk (a:Addr) (vs:List Value) (n:Nat) (e:v= .ref a) (g:G a (ey c vs n)) (q:Q vs)
mutual
noncomputable def VR (G:Wd):V->Value->Prop
 | .none,v=>v= .none
 | .bool b,v=>v= .bool b
 | .int i,v=>∃t,v= .int i t
 | .str l,v=>∃t,v= .str ⟨l.toArray⟩ t/\∀x∈l,x<1114112
 | .bytes l,v=>∃t,v= .bytes (bG l) t/\∀x∈l,x<256
 | .tup ds,v=>Al G "tuple" (VRs G ds) v
 | .lst ds,v=>Al G "list" (VRs G ds) v
 | .ref a,v=>v= .ref a
 | .rng i j,v=>∃a t u w,v= .ref a/\G a {cls:= .type "range",data:= .fields #[.int i t, .int j u, .int 1 w]}/\(-(2 ^ 24)<=i/\i<=2 ^ 24/\-(2 ^ 24)<=j/\j<=2 ^ 24)
noncomputable def VRs (G:Wd):List V->List Value->Prop
 | [],vs=>vs=[]
 | d::ds,vs=>match vs with | []=>False | v::vs=>VR G d v/\VRs G ds vs
end
noncomputable def jq (G G':Wd):Prop:=∀a o,G a o->G' a o
theorem VRs.cons {G:Wd} {d:V} {ds:List V}:∀{vs:List Value},VRs G (d::ds) vs->∃v r,vs=v::r/\VR G d v/\VRs G ds r
 | [],h=>False.elim h
 | v::r,h=>⟨v,r,rfl,h⟩
@[elab_as_elim] theorem VRs.ind {G:Wd} {motive:List V->List Value->Prop} (h0:motive [] []) (h1:∀{d v ds vs},VR G d v->VRs G ds vs->motive ds vs->motive (d::ds) (v::vs)) {ds:List V} {vs:List Value} (h:VRs G ds vs):motive ds vs:=by
 induction ds generalizing vs with
 | nil=>exact (show vs=[] from h)▸h0
 | cons d ds ih=>
  cases vs with
  | nil=>exact h.elim
  | cons v vs=>exact h1 h.1 h.2 (ih h.2)
theorem TT.both {P:TT->Prop} {Q:List TT->Prop} (c1:∀c i p,P (.n c i p)) (c2:∀l p,Q l->P (.t l p)) (d0:Q []) (d1:∀t l,P t->Q l->Q (t::l)):(∀t,P t)/\∀l,Q l:=⟨TT.rec c1 c2 d0 d1,TT.rec_1 c1 c2 d0 d1⟩
theorem V.both {P:V->Prop} {Q:List V->Prop} (c1:P .none) (c2:∀b,P (.bool b)) (c3:∀i,P (.int i)) (c4:∀l,P (.str l)) (c5:∀l,P (.bytes l)) (c6:∀l,Q l->P (.tup l)) (c7:∀l,Q l->P (.lst l)) (c8:∀a,P (.ref a)) (c9:∀a b,P (.rng a b)) (d0:Q []) (d1:∀d l,P d->Q l->Q (d::l)):(∀d,P d)/\∀l,Q l:=⟨V.rec c1 c2 c3 c4 c5 c6 c7 c8 c9 d0 d1,V.rec_1 c1 c2 c3 c4 c5 c6 c7 c8 c9 d0 d1⟩
theorem Al.imp {G G':Wd} {c:String} {Q R:List Value->Prop} {v:Value} (le:jq G G') (k:∀vs,Q vs->R vs) (h:Al G c Q v):Al G' c R v:=h.rec fun a vs n e g q=>⟨a,vs,n,e,le _ _ g,k vs q⟩
theorem VR.mono2 {G G':Wd} (le:jq G G'):(∀(d:V) (v:Value),VR G d v->VR G' d v)/\∀(ds:List V) (vs:List Value),VRs G ds vs->VRs G' ds vs:=by
 refine V.both (fun U=>id) (fun U U=>id) (fun U U=>id) (fun U U=>id) (fun U U=>id) (fun l ih v=> .imp le ih) (fun l ih v=> .imp le ih) (fun U U=>id) (fun U U U h=>h.imp fun U h=>h.imp fun U h=>h.imp fun U h=>h.imp fun U h=>⟨h.1,le _ _ h.2.1,h.2.2⟩) (fun U=>id) fun d l h1 h2 vs=> ?_
 cases vs with
 | nil=>exact id
 | cons v vs=>exact And.imp (h1 v) (h2 vs)
theorem VR.mono {G G':Wd} (le:jq G G') {d:V} {v:Value}:VR G d v->VR G' d v:=(VR.mono2 le).1 d v
theorem VRs.mono {G G':Wd} (le:jq G G') {ds:List V} {vs:List Value}:VRs G ds vs->VRs G' ds vs:=(VR.mono2 le).2 ds vs
section
variable {G:Wd} {v:Value} {d:V} {ds es:List V} {vs ws:List Value}
theorem wt (h:VRs G [d] vs):∃v,vs=[v]/\VR G d v:=by
 obtain ⟨v,r,rfl,h1,h2⟩:=h.cons;exact ⟨v,aB _ h2,h1⟩
theorem Bh {e:V} (h:VRs G [d,e] vs):∃v w,vs=[v,w]/\VR G d v/\VR G e w:=by
 obtain ⟨v,r,rfl,h1,h2⟩:=h.cons;obtain ⟨w,rfl,h3⟩:=wt h2;exact ⟨v,w,rfl,h1,h3⟩
theorem VRs.length (h:VRs G ds vs):vs.length=ds.length:=h.ind rfl fun U U ih=>aB (· +1) ih
theorem VRs.append (h:VRs G ds vs) (k:VRs G es ws):VRs G (ds++es) (vs++ws):=h.ind k fun h U ih=>⟨h,ih⟩
theorem VRs.one (h:VR G d v):VRs G [d] [v]:=⟨h,rfl⟩
theorem VRs.get {k:Nat} (h:VRs G ds vs):ds[k]? =some d->∃v,vs[k]? =some v/\VR G d v:=
 h.ind (motive:=fun ds vs=>∀k,ds[k]? =some d->∃v,vs[k]? =some v/\VR G d v) (fun U=>bZ) (fun h U ih k=>Nat.casesOn k (fun e=>⟨_,rfl,bW e▸h⟩) fun k=>ih k) k
theorem VRs.get' {k:Nat} (h:VRs G ds vs):vs[k]? =some v->∃d,ds[k]? =some d/\VR G d v:=
 h.ind (motive:=fun ds vs=>∀k,vs[k]? =some v->∃d,ds[k]? =some d/\VR G d v) (fun U=>bZ) (fun h U ih k=>Nat.casesOn k (fun e=>⟨_,rfl,bW e▸h⟩) fun k=>ih k) k
theorem VRs.set (hv:VR G d v) (k:Nat) (h:VRs G ds vs):VRs G (ds.set k d) (vs.set k v):=
 h.ind (motive:=fun ds vs=>∀k,VRs G (ds.set k d) (vs.set k v)) (fun U=>rfl) (fun h t ih k=>Nat.casesOn k ⟨hv,t⟩ fun k=>⟨h,ih k⟩) k
theorem VRs.take (k:Nat) (h:VRs G ds vs):VRs G (ds.take k) (vs.take k):=
 h.ind (motive:=fun ds vs=>∀k,VRs G (ds.take k) (vs.take k)) (fun k=>Nat.casesOn k rfl fun U=>rfl) (fun h U ih k=>Nat.casesOn k rfl fun k=>⟨h,ih k⟩) k
theorem VRs.drop (k:Nat) (h:VRs G ds vs):VRs G (ds.drop k) (vs.drop k):=
 h.ind (motive:=fun ds vs=>∀k,VRs G (ds.drop k) (vs.drop k)) (fun k=>Nat.casesOn k rfl fun U=>rfl) (fun h t ih k=>Nat.casesOn k ⟨h,t⟩ fun k=>ih k) k
theorem VRs.reverse (h:VRs G ds vs):VRs G ds.reverse vs.reverse:=h.ind rfl fun h U ih=>by rw [List.reverse_cons,List.reverse_cons];exact ih.append (.one h)
theorem VRs.dropLast (h:VRs G ds vs):VRs G ds.dropLast vs.dropLast:=by
 rw [List.dropLast_eq_take,List.dropLast_eq_take,h.length];exact h.take _
theorem VRs.replicate (h:VRs G ds vs) (n:Nat):VRs G (List.replicate n ds).flatten (List.replicate n vs).flatten:=by
 induction n with
 | zero=>exact rfl
 | succ n ih=>exact h.append ih
end
noncomputable def FR (G:Wd) (P:Params):List (Nat×V)->List DictEntry->Prop
 | [],es=>es=[]
 | p::fs,es=>p.1<nmL.length/\∃t v r,es=⟨PyData.keyHash P (nm p.1), .str (nm p.1) t,v⟩::r/\VR G p.2 v/\FR G P fs r
noncomputable def DR (G:Wd) (hash:V->Int):List (V×V)->List DictEntry->Prop
 | [],es=>es=[]
 | p::fs,es=>∃u v r,es=⟨hash p.1,u,v⟩::r/\VR G p.1 u/\VR G p.2 v/\DR G hash fs r
noncomputable def i8 (C:Addr):Bool:=C==142 || C==201 || C==319
noncomputable def nh (fs:List (V×V)):Prop:=(∀e∈fs,hO e.1=true)/\(fs.map (·.1)).Nodup
noncomputable abbrev ig (es:List DictEntry) (n:Nat):Obj:={cls:= .type "dict",data:= .dict es.toArray n}
noncomputable def OR (G:Wd) (P:Params) (hash:V->Int):O->Obj->Prop
 | .list ds,o=>∃vs n,o=ey "list" vs n/\VRs G ds vs
 | .inst C dx,o=>o={cls:= .ref C,dict:=some dx,data:= .plain}/\i8 C=true
 | .idict fs,o=>∃es n,o=ig es n/\FR G P fs es
 | .dict fs,o=>∃es n,o=ig es n/\DR G hash fs es/\nh fs
 | .hid,U=>True
theorem FR.mk {G:Wd} {P:Params} {p:Nat×V} {fs:List (Nat×V)} {t:Tok} {v:Value} {r:List DictEntry} (hn:p.1<nmL.length) (hv:VR G p.2 v) (h:FR G P fs r):FR G P (p::fs) (⟨PyData.keyHash P (nm p.1), .str (nm p.1) t,v⟩::r):=⟨hn,t,v,r,rfl,hv,h⟩
theorem DR.mk {G:Wd} {hash:V->Int} {p:V×V} {fs:List (V×V)} {u v:Value} {r:List DictEntry} (hu:VR G p.1 u) (hv:VR G p.2 v) (h:DR G hash fs r):DR G hash (p::fs) (⟨hash p.1,u,v⟩::r):=⟨u,v,r,rfl,hu,hv,h⟩
@[elab_as_elim] theorem FR.ind {G:Wd} {P:Params} {motive:List (Nat×V)->List DictEntry->Prop} (h0:motive [] []) (h1:∀{p fs t v r},p.1<nmL.length->VR G p.2 v->FR G P fs r->motive fs r->motive (p::fs) (⟨PyData.keyHash P (nm p.1), .str (nm p.1) t,v⟩::r)) {fs:List (Nat×V)} {es:List DictEntry} (h:FR G P fs es):motive fs es:=by
 induction fs generalizing es with
 | nil=>exact (show es=[] from h)▸h0
 | cons p fs ih=>
  obtain ⟨hn,t,v,r,e,hv,h⟩:=h;exact e▸h1 hn hv h (ih h)
@[elab_as_elim] theorem DR.ind {G:Wd} {hash:V->Int} {motive:List (V×V)->List DictEntry->Prop} (h0:motive [] []) (h1:∀{p fs u v r},VR G p.1 u->VR G p.2 v->DR G hash fs r->motive fs r->motive (p::fs) (⟨hash p.1,u,v⟩::r)) {fs:List (V×V)} {es:List DictEntry} (h:DR G hash fs es):motive fs es:=by
 induction fs generalizing es with
 | nil=>exact (show es=[] from h)▸h0
 | cons p fs ih=>
  obtain ⟨u,v,r,e,hu,hv,h⟩:=h;exact e▸h1 hu hv h (ih h)
section
variable {G G':Wd} {P:Params} {hash:V->Int}
theorem FR.mono (le:jq G G') {fs:List (Nat×V)} {es:List DictEntry} (h:FR G P fs es):FR G' P fs es:=h.ind rfl fun hn hv U ih=> .mk hn (hv.mono le) ih
theorem DR.mono (le:jq G G') {fs:List (V×V)} {es:List DictEntry} (h:DR G hash fs es):DR G' hash fs es:=h.ind rfl fun hu hv U ih=> .mk (hu.mono le) (hv.mono le) ih
theorem OR.mono (le:jq G G') {d:O} {o:Obj} (h:OR G P hash d o):OR G' P hash d o:=by
 cases d with
 | list=>exact h.imp fun U h=>h.imp fun U h=>⟨h.1,h.2.mono le⟩
 | idict=>exact h.imp fun U h=>h.imp fun U h=>⟨h.1,h.2.mono le⟩
 | dict=>exact h.imp fun U h=>h.imp fun U h=>⟨h.1,h.2.1.mono le,h.2.2⟩
 | _=>exact h
end
end Mine
end
section
namespace Mine
open PySem PySem.W PyProof.Rows PySem.Calls PySem.SeqAt
structure cK where
 prog:Program
 w:World
 hash:V->Int
 gl:Str->Option Value
 bl:Str->Option Value
 lo:Nat
 lo1:1<=lo
 top:Heap->Prop
 size:∀{h:Heap},top h->lo<=h.objs.size
 keep:∀{h h':Heap},top h->(∀a o,a<lo->h.get? a=some o->h'.get? a=some o)->top h'
structure Cx where
 env:Env
 fn:Bool
 envs:List Env
noncomputable abbrev put (s:Shared) (h:Heap) (tk:Nat):Shared:={s with heap:=h,toks:=tk}
noncomputable abbrev dS (h h':Heap):Prop:=∀b o,h.get? b=some o->h'.get? b=some o
structure St (T:cK) (Y:be) (h:Heap):Prop where
 top:T.top h
 sto:∀a d,Y a=some d->T.lo<=a/\∃o,h.get? a=some o/\OR (G Y h) T.w.params T.hash d o
noncomputable def o7 (lo:Nat) (a:Addr) (o o':Obj):Prop:=o'=o\/(lo<=a/\(∃es n,o.data= .dict es n)/\∃sl,o'={o with slots:=sl})
noncomputable def free (x:Option O):Prop:=x=none\/x=some .hid
noncomputable def Dn (x y:Option O):Prop:=(y=none->x=none)/\(free y->free x)
structure To (T:cK) (L:Addr->Prop) (Y:be) (h:Heap) (Y':be) (h':Heap):Prop where
 st:St T Y' h'
 keep:∀a o,h.get? a=some o->∃o',h'.get? a=some o'/\(free (Y a)->¬L a->o7 T.lo a o o')
 dom:∀a o,h.get? a=some o->Dn (Y' a) (Y a)
noncomputable abbrev Nl:Addr->Prop:=fun U=>False
noncomputable def fY (T:cK) (Y:be) (h:Heap) (l:List Env):Prop:=∀e∈l,e.scope.kind≠ .module/\∃L o,e.frame=some L/\T.lo<=L/\Y L=none/\h.get? L=some o/\∃es n,o.data= .dict es n
structure Rl (T:cK) (C:Cx) (H:bv) (Y:be) (h:Heap):Prop where
 st:St T Y h
 loc:∃m,h.Ns C.env.locals m/\∀n d,H n=some d->n<nmL.length/\(C.env.kindOf (nm n)=some .local->∃v,m (nm n)=some v/\VR (G Y h) d v)
 cel:∀n d,H n=some d->C.env.kindOf (nm n)=some .cell->∃c v,C.env.cells.lookup (nm n)=some c/\h.IsCell c (some v)/\VR (G Y h) d v
 cells:∀x c,(x,c)∈C.env.cells->Y c=none/\∃v,h.IsCell c v
 own:Y C.env.locals=none
 fr:fY T Y h C.envs
noncomputable def hH (C:Cx) (b:Addr):Prop:=b=C.env.locals\/(C.fn=true/\∃x,(x,b)∈C.env.cells)
structure Ac (T:cK) (A:Around) (C:Cx) (lv:Nat):Prop where
 kind:C.env.scope.kind= .function
 glob:C.env.globals=mainGlobals
 blt:C.env.builtins=builtinsNs
 apart:C.fn=true->C.env.cells.Pairwise fun x y=>x.2≠y.2
 cin:C.fn=true->∀x,C.env.kindOf x=some .cell->(C.env.cells.lookup x).isSome=true
 frame:C.fn=true->C.env.frame=some C.env.locals
 envs:C.fn=true->∃r,C.envs=C.env::r
 llo:T.lo<=C.env.locals
 clo:∀x c,(x,c)∈C.env.cells->T.lo<=c
 handled:A.handled=none
 frames:A.frames=some C.envs
 depth:A.depth+5*lv<=900
 units:A.units+100*lv<=9000
section
variable {T:cK} {C:Cx} {H H':bv} {Y Y' Jo Jp:be} {h h' HZ H0:Heap} {L L':Addr->Prop}
theorem bS {α:Type} {o:Option α} {x:α} (e:o=some x) (n:o=none) {P:Prop}:P:=by rw [n] at e;exact bZ e
theorem bB {a:Addr} (ha:h.objs.size<=a):h.get? a=none:=Heap.get?_none_of_le ha
theorem St.free (s:St T Y h) {a:Addr} (ha:h.get? a=none):Y a=none:=by
 cases e:Y a with
 | none=>rfl
 | some d=>obtain ⟨U,o,ho,U⟩:=s.sto a d e;exact bS ho ha
theorem o7.trans {lo:Nat} {a:Addr} {o o' o'':Obj} (x:o7 lo a o o') (y:o7 lo a o' o''):o7 lo a o o'':=by
 rcases x with rfl | ⟨x1,x2,sl,rfl⟩
 ·exact y
 ·rcases y with rfl | ⟨U,U,sl',rfl⟩<;>exact .inr ⟨x1,x2,_,rfl⟩
theorem Dn.refl (x:Option O):Dn x x:=⟨id,id⟩
theorem Dn.of {x y:Option O} (h:x≠y->¬free y):Dn x y:=⟨fun e=>Classical.byContradiction fun q=>h (fun r=>q (r.trans e)) (.inl e),fun e=>Classical.byContradiction fun q=>h (fun r=>q (r▸e)) e⟩
theorem To.refl (s:St T Y h):To T L Y h Y h:=⟨s,fun U o e=>⟨o,e,fun U U=> .inl rfl⟩,fun U U U=> .refl _⟩
theorem To.trans (x:To T L Y h Jo HZ) (y:To T L Jo HZ Jp H0):To T L Y h Jp H0:=by
 refine ⟨y.st,fun a o e=> ?_,fun a o e=> ?_⟩
 ·refine bu (x.keep a o e) fun Ip Hh Ia=>(bu (y.keep a Ip Hh) fun Iq Hi Ib=> ?_);exact ⟨Iq,Hi,fun n l=>(Ia n l).trans (Ib ((x.dom a o e).2 n) l)⟩
 ·refine bu (x.keep a o e) fun Ip Hh U=> ?_;have d:=y.dom a Ip Hh;have d':=x.dom a o e;exact ⟨fun n=>d.1 (d'.1 n),fun n=>d.2 (d'.2 n)⟩
theorem To.drop (x:To T L Y h Y' h') (l:∀a o,h.get? a=some o->L a->L' a):To T L' Y h Y' h':=
 ⟨x.st,fun a o e=>bu (x.keep a o e) fun o' e' k=>⟨o',e',fun n q=>k n fun r=>q (l a o e r)⟩,x.dom⟩
theorem To.up (x:To T Nl Y h Y' h'):To T L Y h Y' h':=x.drop fun U U U q=>q.elim
theorem To.off (x:To T L Y h Y' h') {a:Addr} {o:Obj} (e:h.get? a=some o) (n:Y a=none):Y' a=none:=(x.dom a o e).1 n
theorem To.same (x:To T L Y h Y' h') {a:Addr} {o:Obj} (e:h.get? a=some o) (n:free (Y a)) (l:¬L a) (d:∀es n,o.data≠ .dict es n):h'.get? a=some o:=by
 refine bu (x.keep a o e) fun o' e' k=> ?_;rcases k n l with q | ⟨U,⟨es,m,q⟩,U⟩
 ·exact q▸e'
 ·exact absurd q (d es m)
theorem cN.nd {o:Obj} (v:cN o) (es:Array DictEntry) (n:Nat):o.data≠ .dict es n:=fun q=>by have:=v.2;rw [q] at this;exact cR this
noncomputable def AV (L:Addr->Prop) (Y:be) (h:Heap):Prop:=∀a o,L a->Y a=none->h.get? a=some o->¬cN o/\∃vs,o.data= .fields vs
theorem AV.nl:AV Nl Y h:=fun U U q=>q.elim
theorem To.gle' (x:To T L Y h Y' h') (l:∀a o,L a->Y a=none->h.get? a=some o->¬cN o):jq (G Y h) (G Y' h'):=fun a o z=>lL z fun e n v=>⟨x.same e (.inl n) (fun q=>l a o q n e v) v.nd,x.off e n,v⟩
theorem To.gle (x:To T Nl Y h Y' h'):jq (G Y h) (G Y' h'):=x.gle' fun U U q=>q.elim
theorem Ns.to (x:To T L Y h Y' h') {a:Addr} {m:Str->Option Value} (n:h.Ns a m) (s:Y a=none) (l:¬L a):h'.Ns a m:=by
 refine ov n fun o es ep e d r=>(bu (x.keep a o e) fun o' e' k=> ?_);clear e x;rcases k (.inl s) l with rfl | ⟨U,U,sl,rfl⟩
 ·exact ⟨_,es,ep,e',d,r⟩
 ·exact ⟨_,es,ep,e',d,r⟩
theorem fY.to (x:To T L Y h Y' h') {l:List Env} (f:fY T Y h l) (hl:∀e∈l,∀F,e.frame=some F->¬L F):fY T Y' h' l:=fun e he=>by
 refine cr fun hn=> ?_;obtain ⟨f1,F,o,f2,f3,f4,f5,es,n,f6⟩:=f e he;refine bu (x.keep F o f5) fun o' e' k=>(hn ⟨f1,F,o',f2,f3,x.off f5 f4,e',es,n, ?_⟩);clear e' f5 f3 f1 x;rcases k (.inl f4) (hl e he F f2) with rfl | ⟨U,U,sl,rfl⟩<;>exact f6
theorem AV.not (q:AV L Y h) {a:Addr} {o:Obj} (n:Y a=none) (e:h.get? a=some o) (d:∀vs,o.data≠ .fields vs):¬L a:=fun l=>by obtain ⟨U,vs,r⟩:=q a o l n e;exact d vs r
theorem cy {o:Obj} {es:Array DictEntry} {n:Nat} (d:o.data= .dict es n) (vs:Array Value):o.data≠ .fields vs:=fun q=>by rw [d] at q;contradiction
theorem ir {o:Obj} {v:Option Value} (d:o.data= .cell v) (vs:Array Value):o.data≠ .fields vs:=fun q=>by rw [d] at q;contradiction
theorem eA {o:Obj} {v:Option Value} (d:o.data= .cell v) (es:Array DictEntry) (n:Nat):o.data≠ .dict es n:=fun q=>by rw [d] at q;contradiction
theorem Rl.to (R:Rl T C H Y h) (x:To T L Y h Y' h') (q:AV L Y h):Rl T C H Y' h':=by
 have le:jq (G Y h) (G Y' h'):=x.gle' fun a o l n e=>(q a o l n e).1;refine bu (R.loc) fun m hm hl=> ?_;have cell:∀{c v},Y c=none->h.IsCell c v->h'.IsCell c v:=fun n z=>bu z fun o e d=>⟨o,x.same e (.inl n) (q.not n e (ir d)) (eA d),d⟩;refine ⟨x.st,⟨m,Ns.to x hm R.own (show ¬L C.env.locals by refine ov hm fun U U U e d U=> ?_;exact q.not R.own e (cy d)),fun n d e=>⟨(hl n d e).1,fun hk=>bu ((hl n d e).2 hk) fun v h1 h2=>⟨v,h1,h2.mono le⟩⟩⟩,fun n d e hk=> ?_,fun y c hc=> ?_, ?_,R.fr.to x fun e he F hF=> ?_⟩
 ·exact eJ (R.cel n d e hk) fun c v h1 h2 h3=>⟨c,v,h1,cell (R.cells _ _ (mem_of_lookup h1)).1 h2,h3.mono le⟩
 ·obtain ⟨n,v,hv⟩:=R.cells y c hc;exact ⟨x.off hv.choose_spec.1 n,v,cell n hv⟩
 ·refine e31 hm fun U U U e U=> ?_;exact x.off e R.own
 ·obtain ⟨U,F',o,f2,U,f4,f5,es,n,f6⟩:=R.fr e he;rw [hF] at f2;(replace f2:=bW f2;subst f2);exact q.not f4 f5 (cy f6)
theorem Rl.to0 (R:Rl T C H Y h) (x:To T Nl Y h Y' h'):Rl T C H Y' h':=R.to x .nl
theorem d9 (hk:dS h h'):jq (G Y h) (G Y h'):=fun U U x=>⟨hk _ _ x.1,x.2⟩
theorem St.grow (s:St T Y h) (hk:dS h h'):St T Y h':=
 ⟨T.keep s.top fun a o U e=>hk a o e,fun a d e=>let ⟨l,o,ho,r⟩:=s.sto a d e;⟨l,o,hk _ _ ho,r.mono (d9 hk)⟩⟩
theorem To.grow (s:St T Y h) (hk:dS h h'):To T L Y h Y h':=⟨s.grow hk,fun a o e=>⟨o,hk a o e,fun U U=> .inl rfl⟩,fun U U U=> .refl _⟩
theorem be.set_same (Y:be) (a:Addr) (o:O):Y.set a o a=some o:=if_pos rfl
theorem be.set_ne (Y:be) {a b:Addr} (o:O) (hb:b≠a):Y.set a o b=Y b:=if_neg hb
theorem To.upd (s:St T Y h) {a:Addr} {d d':O} {o':Obj} (hs:Y a=some d) (hd:d≠ .hid) (hk:∀b o,b≠a->h.get? b=some o->h'.get? b=some o) (ha:h'.get? a=some o') (ho:OR (G Y h) T.w.params T.hash d' o'):To T L Y h (Y.set a d') h':=by
 have le:jq (G Y h) (G (Y.set a d') h'):=fun b o x=>by
  have hb:b≠a:=fun e=>bS hs (e▸x.2.1);exact ⟨hk b o hb x.1,(be.set_ne Y d' hb).trans x.2.1,x.2.2⟩
 have la:=(s.sto a d hs).1;have nf:¬free (Y a):=fun q=>q.elim (fun n=>bS hs n) fun n=>hd (Option.some.inj (hs.symm.trans n));refine ⟨⟨T.keep s.top fun b o hb e=>hk b o (Nat.ne_of_lt (a8 hb la)) e,fun b e q=> ?_⟩,fun b o e=> ?_,fun b o e=> .of fun q=> ?_⟩
 ·by_cases hb:b=a
  ·subst hb;rw [be.set_same] at q;(replace q:=bW q;subst q);exact ⟨la,o',ha,ho.mono le⟩
  ·rw [be.set_ne _ _ hb] at q;refine fI (s.sto b e q) fun l y1=> ?_;refine bu y1 fun o h1 h2=> ?_;exact ⟨l,o,hk _ _ hb h1,h2.mono le⟩
 ·by_cases hb:b=a
  ·subst hb;exact ⟨o',ha,fun n=>absurd n nf⟩
  ·exact ⟨o,hk b o hb e,fun U U=> .inl rfl⟩
 ·by_cases hb:b=a
  ·subst hb;exact nf
  ·exact absurd (be.set_ne _ _ hb) q
theorem To.alloc (s:St T Y h) {a:Addr} {d:O} {o:Obj} (hk:dS h h') (hn:h.objs.size<=a) (ha:h'.get? a=some o) (ho:OR (G Y h) T.w.params T.hash d o):To T L Y h (Y.set a d) h':=by
 have e0:=bB hn
 have le:jq (G Y h) (G (Y.set a d) h'):=fun b o x=>by
  exact ⟨hk b o x.1,(be.set_ne Y d (fun e=>bS x.1 (e▸e0):b≠a)).trans x.2.1,x.2.2⟩
 refine ⟨⟨T.keep s.top fun b o U e=>hk b o e,fun b e q=> ?_⟩,fun b o e=>⟨o,hk b o e,fun U U=> .inl rfl⟩,fun b o e=> .of fun q=> ?_⟩
 ·by_cases hb:b=a
  ·subst hb;rw [be.set_same] at q;(replace q:=bW q;subst q);exact ⟨aj (T.size s.top) hn,o,ha,ho.mono le⟩
  ·rw [be.set_ne _ _ hb] at q;obtain ⟨l,o,h1,h2⟩:=s.sto b e q;exact ⟨l,o,hk _ _ h1,h2.mono le⟩
 ·by_cases hb:b=a
  ·subst hb;exact bS e e0
  ·exact absurd (be.set_ne _ _ hb) q
theorem lD {i j:Nat} (hi:i<nmL.length) (hj:j<nmL.length) (e:nm i=nm j):i=j:=by
 delta nm at e;rw [List.getD_eq_getElem?_getD,List.getD_eq_getElem?_getD,an hi,an hj] at e;exact (List.getElem_inj (show nmL.Nodup by decide+kernel)).mp e
theorem bv.set_same (H:bv) (n:Nat) (d:V):H.set n d n=some d:=by delta bv.set;rw [Nat.beq_refl];rfl
theorem bv.set_ne (H:bv) {n k:Nat} (d:V) (hk:k≠n):H.set n d k=H k:=by
 delta bv.set
 cases e:Nat.beq k n with
 | true=>exact absurd (aQ e) hk
 | false=>rfl
theorem To.own (R:Rl T C H Y h) (ac:∀b,hH C b->T.lo<=b) {c:Addr} (hc:hH C c) (hs:Heap.SameBut c h h') (he:∃o,h'.get? c=some o/\¬cN o) (hv:∀o,h.get? c=some o->¬cN o) (sc:Y c=none):To T (hH C) Y h Y h'/\jq (G Y h) (G Y h'):=by
 have kp:∀b o,b≠c->h.get? b=some o->h'.get? b=some o:=fun b o hb e=>(hs.2 b hb).trans e;have le:jq (G Y h) (G Y h'):=fun b o x=>⟨kp b o (fun e=>hv o (e▸x.1) x.2.2) x.1,x.2⟩;refine ⟨⟨⟨T.keep R.st.top fun b o hb e=>kp b o (fun q=>absurd (ac c hc) (Nat.not_le.mpr (q▸hb))) e,fun b d e=> ?_⟩,fun b o e=> ?_,fun U U U=> .refl _⟩,le⟩
 ·obtain ⟨l,o,h1,h2⟩:=R.st.sto b d e;exact ⟨l,o,kp b o (fun q=>bS (q▸e) sc) h1,h2.mono le⟩
 ·by_cases hb:b=c
  ·subst hb;exact ⟨he.choose,he.choose_spec.1,fun U n=>absurd hc n⟩
  ·exact ⟨o,kp b o hb e,fun U U=> .inl rfl⟩
theorem gg {o:Obj} {es:Array DictEntry} {n:Nat} (d:o.data= .dict es n):¬cN o:=fun v=>v.nd es n d
theorem iv {o:Obj} {v:Option Value} (d:o.data= .cell v):¬cN o:=fun x=>by have:=x.2;rw [d] at this;exact cR this
theorem BV {a:Addr} {m m':Str->Option Value} (x:h.Ns a m) (y:h.Ns a m'):m=m':=by
 refine wG x fun o es ep e1 e2 U e3=>(wG y fun o' es' ep' f1 f2 U f3=> ?_);rw [e1] at f1;(replace f1:=bW f1;subst f1);rw [e2] at f2;injection f2 with f2 _;subst f2
 funext n;(refine ak (Eq.symm (e3 n ..)) ?_;refine ak (f3 n) ?_;rfl)
variable {A:Around} {lv:Nat}
theorem Ac.lo (hA:Ac T A C lv) (b:Addr) (q:hH C b):T.lo<=b:=q.elim (fun e=>e▸hA.llo) fun ⟨_,x,e⟩=>hA.clo x b e
theorem fY.own {l:List Env} (f:fY T Y h l) {c:Addr} (kp:∀b o,b≠c->h.get? b=some o->h'.get? b=some o) (hd:∀o,h.get? c=some o->(∃es n,o.data= .dict es n)->∃o',h'.get? c=some o'/\∃es n,o'.data= .dict es n):fY T Y h' l:=fun e he=>by
 refine cr fun hn=> ?_;obtain ⟨f1,F,o,f2,f3,f4,f5,f6⟩:=f e he;refine hn ?_
 by_cases q:F=c
 ·subst q;exact bu (hd o f5 f6) fun o' h1 h2=>⟨f1,F,o',f2,f3,f4,h1,h2⟩
 ·exact ⟨f1,F,o,f2,f3,f4,kp F o q f5,f6⟩
theorem Rl.bindL (R:Rl T C H Y h) (hA:Ac T A C lv) {n:Nat} {d:V} {v:Value} (hn:n<nmL.length) (hk:C.env.kindOf (nm n)=some .local) (hv:VR (G Y h) d v) {m:Str->Option Value} (hm:h.Ns C.env.locals m) (hm':h'.Ns C.env.locals (fun x=>if x=nm n then some v else m x)) (hs:Heap.SameBut C.env.locals h h'):Rl T C (H.set n d) Y h'/\To T (hH C) Y h Y h':=by
 have kp:∀b o,b≠C.env.locals->h.get? b=some o->h'.get? b=some o:=fun b o hb e=>(hs.2 b hb).trans e;have dic:=fun o (e:h.get? C.env.locals=some o)=>show ∃es n,o.data=Data.dict es n from by refine ov hm fun U es ep e1 e2 U=> ?_;exact ⟨es,ep,(Option.some.inj (e.symm.trans e1))▸e2⟩
 have d':∃o',h'.get? C.env.locals=some o'/\∃es n,o'.data=Data.dict es n:=by refine ov hm' fun o es ep e1 e2 U=> ?_;exact ⟨o,e1,es,ep,e2⟩
 obtain ⟨t,le⟩:=To.own R hA.lo (.inl rfl) hs (let ⟨o,e,_,_,d⟩:=d';⟨o,e,gg d⟩) (fun o e=>oo (dic o e) fun U U d=>gg d) R.own;have cell:∀{c v},h.IsCell c v->h'.IsCell c v:=fun z=>bu z fun o e q=>⟨o,kp _ o (fun r=>by rw [r] at e;obtain ⟨U,U,d⟩:=dic o e;exact eA q _ _ d) e,q⟩;refine bu (R.loc) fun Ik hm0 hl=> ?_;have:=BV hm0 hm;subst this;refine ⟨⟨t.st,⟨_,hm',fun k e q=> ?_⟩,fun k e q hkd=> ?_,fun x c q=>⟨(R.cells x c q).1,dU ((R.cells x c q).2) fun v hv=>⟨v,cell hv⟩⟩,R.own,R.fr.own kp fun U U U=>d'⟩,t⟩
 ·by_cases hkn:k=n
  ·subst hkn;rw [bv.set_same] at q;(replace q:=bW q;subst q);exact ⟨hn,fun U=>⟨v,if_pos rfl,hv.mono le⟩⟩
  ·rw [bv.set_ne _ _ hkn] at q;refine ⟨(hl k e q).1,fun hkd=>bu ((hl k e q).2 hkd) fun v' h1 h2=>⟨v', ?_,h2.mono le⟩⟩;exact (if_neg fun r=>hkn (lD (hl k e q).1 hn r)).trans h1
 ·by_cases hkn:k=n
  ·subst hkn;rw [hk] at hkd;(replace hkd:=bW hkd;cases hkd)
  ·rw [bv.set_ne _ _ hkn] at q;exact eJ (R.cel k e q hkd) fun c v' h1 h2 h3=>⟨c,v',h1,cell h2,h3.mono le⟩
theorem Rl.bindC (R:Rl T C H Y h) (hA:Ac T A C lv) (hf:C.fn=true) {n:Nat} {d:V} {v:Value} {c:Addr} (hn:n<nmL.length) (hk:C.env.kindOf (nm n)=some .cell) (hv:VR (G Y h) d v) (hc:C.env.cells.lookup (nm n)=some c) (hcv:h'.IsCell c (some v)) (hs:Heap.SameBut c h h'):Rl T C (H.set n d) Y h'/\To T (hH C) Y h Y h':=by
 have hmem:=mem_of_lookup hc;have kp:∀b o,b≠c->h.get? b=some o->h'.get? b=some o:=fun b o hb e=>(hs.2 b hb).trans e;refine fI (R.cells _ _ hmem) fun sc y1=>(gU y1 fun I9 Io Hg Hf=> ?_);have old:∀{o},h.get? c=some o->o.data= .cell I9:=fun e=>(Option.some.inj (Hg.symm.trans e))▸Hf;refine fI (To.own R hA.lo (.inr ⟨hf,_,hmem⟩) hs (bu hcv fun o e d=>⟨o,e,iv d⟩) (fun o e=>iv (old e)) sc) fun t le=> ?_;clear sc hs;obtain ⟨m,⟨oL,es,ep,eL,dL,r⟩,hl⟩:=R.loc;refine ⟨⟨t.st,⟨m,⟨oL,es,ep,kp _ _ (fun q=>by subst q;exact eA (old eL) _ _ dL) eL,dL,r⟩,fun k e q=> ?_⟩,fun k e q hkd=> ?_,fun x c' q=>⟨(R.cells x c' q).1, ?_⟩,R.own,R.fr.own kp fun o e z=>oo z fun es n q=>absurd q (eA (old e) es n)⟩,t⟩
 ·by_cases hkn:k=n
  ·subst hkn;exact ⟨hn,fun q=>by rw [hk] at q;(replace q:=bW q;cases q)⟩
  ·rw [bv.set_ne _ _ hkn] at q;exact ⟨(hl k e q).1,fun hkd=>bu ((hl k e q).2 hkd) fun v' h1 h2=>⟨v',h1,h2.mono le⟩⟩
 ·by_cases hkn:k=n
  ·subst hkn;rw [bv.set_same] at q;(replace q:=bW q;subst q);exact ⟨c,v,hc,hcv,hv.mono le⟩
  ·rw [bv.set_ne _ _ hkn] at q;refine eJ (R.cel k e q hkd) fun c' v' h1 y31 h3=>(bu y31 fun o h2 h2'=> ?_);exact ⟨c',v',h1,⟨o,kp _ _ (show c'≠c from fun r=>hkn (lD ((hl k e q).1) hn (name_of_addr (hA.apart hf) (mem_of_lookup h1) (r▸hmem)))) h2,h2'⟩,h3.mono le⟩
 ·by_cases q:c'=c
  ·subst q;exact ⟨_,hcv⟩
  ·refine gU ((R.cells x c' ‹_›).2) fun v' o h2 h2'=> ?_;exact ⟨v',o,kp _ _ q h2,h2'⟩
theorem gf (z:ck Y Y') {b:Addr} (x:Y b=none):Y' b=none:=by
 cases e:Y' b with
 | none=>rfl
 | some d=>obtain ⟨o,ho,U⟩:=z b d e;exact bS ho x
theorem zp (z:ck Y Y'):jq (G Y h) (G Y' h):=fun U U x=>⟨x.1,gf z x.2.1,x.2.2⟩
theorem cA (c:String) (hc:c= "tuple" \/c= "list") (vs:List Value) (n:Nat):cN (ey c vs n):=⟨by rcases hc with rfl | rfl;exact .inl rfl;exact .inr (.inl rfl),rfl⟩
theorem Fz.vr2 (s:St T Y h) (z:ck Y Y'):(∀(d' d:V) (v:Value),Fz Y Y' d' d->VR (G Y h) d v->VR (G Y' h) d' v)/\∀(ds' ds:List V) (vs:List Value),Fzs Y Y' ds' ds->VRs (G Y h) ds vs->VRs (G Y' h) ds' vs:=by
 have leaf:∀d0 d v,d=d0->VR (G Y h) d v->VR (G Y' h) d0 v:=fun d0 d v e r=>(e▸r).mono (zp z);refine V.both (leaf _) (fun U=>leaf _) (fun U=>leaf _) (fun U=>leaf _) (fun U=>leaf _) (fun ys ih d v f r=> ?_) (fun ys ih d v f r=> ?_) (fun U=>leaf _) (fun U U=>leaf _) (fun ds vs f r=>(f▸r:VRs (G Y h) [] vs)) fun y ys h1 h2 ds vs f r=> ?_
 ·exact bu f fun xs e q=>(.imp (zp z) (fun vs=>ih xs vs q) (e▸r:VR (G Y h) (.tup xs) v))
 ·rcases f with ⟨xs,e,q⟩ | ⟨a,xs,e,e1,e2,q⟩
  ·exact .imp (zp z) (fun vs=>ih xs vs q) (e▸r:VR (G Y h) (.lst xs) v)
  ·obtain ⟨U,o,ho,vs,n,e3,hv⟩:=s.sto a _ e1;exact ⟨a,vs,n,(e▸r:VR (G Y h) (.ref a) v),⟨e3▸ho,e2,cA _ (.inr rfl) vs n⟩,ih _ _ q hv⟩
 ·cases ds with
  | nil=>exact f.elim
  | cons d ds=>
   cases vs with
   | nil=>exact r.elim
   | cons v vs=>exact ⟨h1 d v f.1 r.1,h2 ds vs f.2 r.2⟩
theorem Fz.vr (s:St T Y h) (z:ck Y Y') {d' d:V} {v:Value}:Fz Y Y' d' d->VR (G Y h) d v->VR (G Y' h) d' v:=(Fz.vr2 s z).1 d' d v
theorem Fzs.vr (s:St T Y h) (z:ck Y Y') {ds' ds:List V} {vs:List Value}:Fzs Y Y' ds' ds->VRs (G Y h) ds vs->VRs (G Y' h) ds' vs:=(Fz.vr2 s z).2 ds' ds vs
theorem F2 (s:St T Y h) (z:ck Y Y') {P:Params} {fs gs:List (Nat×V)} {es:List DictEntry} (x:FR (G Y h) P fs es):fs.map (·.1)=gs.map (·.1)->Fzs Y Y' (gs.map (·.2)) (fs.map (·.2))->FR (G Y' h) P gs es:=by
 refine x.ind (motive:=fun fs es=>∀gs:List (Nat×V),fs.map (·.1)=gs.map (·.1)->Fzs Y Y' (gs.map (·.2)) (fs.map (·.2))->FR (G Y' h) P gs es) (fun gs e U=> ?_) (fun {p fs t v r} hn hv _ ih gs q f=> ?_) gs
 ·cases gs with
  | nil=>exact rfl
  | cons=>exact B5 e
 ·cases gs with
  | nil=>exact qm q
  | cons g gs=>
   have q1:p.1=g.1:=(List.cons.inj q).1;rw [q1] at hn ⊢;exact .mk hn (f.1.vr s z hv) (ih gs (List.cons.inj q).2 f.2)
theorem St.freeze (s:St T Y h) (z:ck Y Y'):St T Y' h:=⟨s.top,fun a d e=>by
 refine bu (z a d e) fun d0 e0 q=> ?_;obtain ⟨l,o,h1,h2⟩:=s.sto a d0 e0;refine ⟨l,o,h1, ?_⟩;clear h1 l e0;rcases q with rfl | ⟨xs,ys,rfl,rfl,q⟩ | ⟨fs,gs,rfl,rfl,ek,q⟩
 ·exact h2.mono (zp z)
 ·refine gU h2 fun vs n e r=> ?_;exact ⟨vs,n,e,q.vr s z r⟩
 ·refine gU h2 fun es n e r=> ?_;exact ⟨es,n,e,F2 s z r ek q⟩⟩
theorem Ep (z:ck Y Y') {b:Addr} (x:Y b=some .hid):free (Y' b):=by
 cases e:Y' b with
 | none=>exact .inl rfl
 | some d=>
  refine bu (z b d e) fun o ho q=> ?_;rw [x] at ho
  (replace ho:=bW ho;subst ho)
  clear e x z;rcases q with rfl | ⟨U,U,q,U⟩ | ⟨U,U,q,U⟩
  ·exact .inr rfl
  ·contradiction
  ·contradiction
theorem To.freeze (s:St T Y h) (z:ck Y Y'):To T L Y h Y' h:=⟨s.freeze z,fun U o e=>⟨o,e,fun U U=> .inl rfl⟩,fun U U U=>⟨gf z,fun q=>q.elim (fun q=> .inl (gf z q)) (Ep z)⟩⟩
theorem Rl.freeze (R:Rl T C H Y h) (z:ck Y Y') (zl:i0 Y Y' H H'):Rl T C H' Y' h:=by
 refine bu (R.loc) fun m hm hl=>((⟨R.st.freeze z,⟨m,hm,fun n d e=> ?_⟩,fun n d e hk=> ?_,fun x c q=>⟨gf z (R.cells x c q).1,(R.cells x c q).2⟩,gf z R.own,fun e he=> ?_⟩))
 ·exact bu (zl n d e) fun d0 e0 q=>((⟨(hl n d0 e0).1,fun hk=>bu ((hl n d0 e0).2 hk) fun v h1 h2=>⟨v,h1,q.vr R.st z h2⟩⟩))
 ·refine bu (zl n d e) fun d0 e0 q=>(eJ (R.cel n d0 e0 hk) fun c v h1 h2 h3=> ?_);exact ⟨c,v,h1,h2,q.vr R.st z h3⟩
 ·refine fI (R.fr e he) fun f1 y41=>(qj y41 fun F o f2 f3 f4 f5=> ?_);exact ⟨f1,F,o,f2,f3,gf z f4,f5⟩
theorem Fz.refl2 (Y Y':be):(∀d:V,Fz Y Y' d d)/\∀l:List V,Fzs Y Y' l l:=
 V.both rfl (fun U=>rfl) (fun U=>rfl) (fun U=>rfl) (fun U=>rfl) (fun l h=>⟨l,rfl,h⟩) (fun l h=> .inl ⟨l,rfl,h⟩) (fun U=>rfl) (fun U U=>rfl) rfl fun U U=> .intro
theorem Fz.refl (Y Y':be):∀d:V,Fz Y Y' d d:=(Fz.refl2 Y Y').1
theorem Fzs.refl (Y Y':be):∀l:List V,Fzs Y Y' l l:=(Fz.refl2 Y Y').2
theorem ck.refl (Y:be):ck Y Y:=fun U o e=>⟨o,e, .inl rfl⟩
theorem i0.refl (Y Y':be) (H:bv):i0 Y Y' H H:=fun U v e=>⟨v,e, .refl Y Y' v⟩
theorem ck.del (Y:be) (a:Addr):ck Y (Y.del a):=fun b o e=>by
 by_cases hb:b=a
 ·rw [show Y.del a b=none from if_pos hb] at e;exact bZ e
 ·exact ⟨o,(if_neg hb).symm.trans e, .inl rfl⟩
end
noncomputable def Kv (T:cK) (Y:be) (s:Shared) (Q:KV) (K:Value->Shared->Prop):Prop:=
 ∀v d Y' h' tk,To T Nl Y s.heap Y' h'->VR (G Y' h') d v->Q d Y'->K v (put s h' tk)
noncomputable def EF (T:cK) (Y:be) (s:Shared) (P:be->Prop) (K:Shared->Prop):Prop:=
 ∀Y' h' tk,To T Nl Y s.heap Y' h'->P Y'->K (put s h' tk)
section
variable {T:cK} {C:Cx} {Y Jo:be} {s:Shared} {HZ h':Heap} {Ia:Nat} {Q:KV} {K:Value->Shared->Prop} {v:Value} {d:V}
theorem Kv.after (k:Kv T Y s Q K) (t:To T Nl Y s.heap Jo HZ):Kv T Jo (put s HZ Ia) Q K:=fun v d Y' h' tk t' r q=>k v d Y' h' tk (t.trans t') r q
theorem Kv.same (k:Kv T Y s Q K) (st:St T Y s.heap) (tk:Nat) (r:VR (G Y s.heap) d v) (q:Q d Y):K v {s with toks:=tk}:=k v d Y s.heap tk (.refl st) r q
theorem Kv.same0 (k:Kv T Y s Q K) (st:St T Y s.heap) (r:VR (G Y s.heap) d v) (q:Q d Y):K v s:=k v d Y s.heap s.toks (.refl st) r q
theorem Kv.grown (k:Kv T Y s Q K) (st:St T Y s.heap) (tk:Nat) (hk:dS s.heap h') (r:VR (G Y h') d v) (q:Q d Y):K v (put s h' tk):=k v d Y h' tk (.grow st hk) r q
theorem St.newG (st:St T Y s.heap) {a:Addr} {c:String} {vs:List Value} {n:Nat} (hc:c= "tuple" \/c= "list") (hn:s.heap.objs.size<=a) (e:h'.get? a=some (ey c vs n)):G Y h' a (ey c vs n):=⟨e,st.free (bB hn),cA c hc vs n⟩
theorem Kv.newTup (k:Kv T Y s Q K) (st:St T Y s.heap) {a:Addr} {vs:List Value} {n:Nat} {ds:List V} (tk:Nat) (hk:dS s.heap h') (hn:s.heap.objs.size<=a) (e:h'.get? a=some (ey "tuple" vs n)) (r:VRs (G Y s.heap) ds vs) (q:Q (.tup ds) Y):K (.ref a) (put s h' tk):=
 k.grown (d:= .tup ds) st tk hk ⟨a,vs,n,rfl,st.newG (.inl rfl) hn e,r.mono (d9 hk)⟩ q
theorem Kv.newL {m:Bool} (k:Kv T Y s Q K) (st:St T Y s.heap) {a:Addr} {vs:List Value} {n:Nat} {ds:List V} (tk:Nat) (hk:dS s.heap h') (hn:s.heap.objs.size<=a) (e:h'.get? a=some (ey "list" vs n)) (r:VRs (G Y s.heap) ds vs) (q:Cq m ds Y Q):K (.ref a) (put s h' tk):=by
 cases m with
 | true=>exact k _ (.ref a) _ _ tk (.alloc (d:= .list ds) st hk hn e ⟨vs,n,rfl,r⟩) rfl ((cF q).2 a (st.free (bB hn)))
 | false=>exact k.grown (d:= .lst ds) st tk hk ⟨a,vs,n,rfl,st.newG (.inr rfl) hn e,r.mono (d9 hk)⟩ (cF q).2
theorem bA (h:Heap) (o:Obj):dS h (h.push o):=fun U U e=>aW _ e
end
section
variable {G:Wd} {P:Value->Prop} {d:V} {a:Value}
theorem yi {x:List V} (h:asQ d=some x):d= .tup x\/d= .lst x:=by
 cases d with
 | tup y=>exact .inl (aB _ (bW h))
 | lst y=>exact .inr (aB _ (bW h))
 | _=>exact bZ h
theorem bH {α:Type} {o:Option α} {f:α->Prop} (q:on o f):∃x,o=some x/\f x:=by
 cases o with
 | none=>exact q.elim
 | some x=>exact ⟨x,rfl,q⟩
theorem nj {x:Bool} (h:BX d=some x):d= .bool x:=by
 cases d with
 | bool y=>exact aB _ (bW h)
 | _=>exact bZ h
theorem jx {x:Int} (h:gA d=some x):d= .int x:=by
 cases d with
 | int y=>exact aB _ (bW h)
 | _=>exact bZ h
theorem rA {x:List Nat} (h:lM d=some x):d= .str x:=by
 cases d with
 | str y=>exact aB _ (bW h)
 | _=>exact bZ h
theorem nr {x:List Nat} (h:fv d=some x):d= .bytes x:=by
 cases d with
 | bytes y=>exact aB _ (bW h)
 | _=>exact bZ h
theorem rp {x:List V} (h:jf d=some x):d= .lst x:=by
 cases d with
 | lst y=>exact aB _ (bW h)
 | _=>exact bZ h
theorem yW {x:List V} (h:vW d=some x):d= .tup x:=by
 cases d with
 | tup y=>exact aB _ (bW h)
 | _=>exact bZ h
theorem qz {x:Addr} (h:asR d=some x):d= .ref x:=by
 cases d with
 | ref y=>exact aB _ (bW h)
 | _=>exact bZ h
@[elab_as_elim] theorem vB {f:Bool->Prop} (q:on (BX d) f) (r:VR G d a) (k:∀b,d= .bool b->f b->P (.bool b)):P a:=
 bu (bH q) fun b e q=>bi (nj e▸r:VR G (.bool b) a) (k b (nj e) q)
@[elab_as_elim] theorem vI {f:Int->Prop} (q:on (gA d) f) (r:VR G d a) (k:∀i t,d= .int i->f i->P (.int i t)):P a:=
 bu (bH q) fun i e q=>dU (jx e▸r:VR G (.int i) a) fun t h=>bi h (k i t (jx e) q)
@[elab_as_elim] theorem vS {f:List Nat->Prop} (q:on (lM d) f) (r:VR G d a) (k:∀l t,d= .str l->(∀x∈l,x<1114112)->f l->P (.str ⟨l.toArray⟩ t)):P a:=
 bu (bH q) fun l e q=>bu (rA e▸r:VR G (.str l) a) fun t h b=>bi h (k l t (rA e) b q)
@[elab_as_elim] theorem vY {f:List Nat->Prop} (q:on (fv d) f) (r:VR G d a) (k:∀l t,d= .bytes l->(∀x∈l,x<256)->f l->P (.bytes (bG l) t)):P a:=
 bu (bH q) fun l e q=>bu (nr e▸r:VR G (.bytes l) a) fun t h b=>bi h (k l t (nr e) b q)
@[elab_as_elim] theorem vT {f:List V->Prop} (q:on (vW d) f) (r:VR G d a) (k:∀ds x vs n,d= .tup ds->G x (ey "tuple" vs n)->VRs G ds vs->f ds->P (.ref x)):P a:=
 bu (bH q) fun l e q=>(yW e▸r:VR G (.tup l) a).rec fun x vs n h g hv=>bi h (k l x vs n (yW e) g hv q)
@[elab_as_elim] theorem vL {f:List V->Prop} (q:on (jf d) f) (r:VR G d a) (k:∀ds x vs n,d= .lst ds->G x (ey "list" vs n)->VRs G ds vs->f ds->P (.ref x)):P a:=
 bu (bH q) fun l e q=>(rp e▸r:VR G (.lst l) a).rec fun x vs n h g hv=>bi h (k l x vs n (rp e) g hv q)
theorem GU {o:O} {l:List V} (h:oL o=some l):o= .list l:=by
 cases o with
 | list l=>exact aB _ (bW h)
 | _=>exact bZ h
theorem Gy {o:O} {l:List (V×V)} (h:oD o=some l):o= .dict l:=by
 cases o with
 | dict l=>exact aB _ (bW h)
 | _=>exact bZ h
theorem gh {Y:be} {p:Addr×List V} (h:fG d Y=some p):d= .ref p.1/\Y p.1=some (.list p.2):=
 bu (aK.mp h) fun x e1 h=>bu (aK.mp h) fun o e2 h=>bu (aL.mp h) fun l e3 e=>e▸⟨qz e1,GU e3▸e2⟩
theorem vR {Y:be} {p:Addr×List (V×V)} (h:lP d Y=some p):d= .ref p.1/\Y p.1=some (.dict p.2):=
 bu (aK.mp h) fun x e1 h=>bu (aK.mp h) fun o e2 h=>bu (aL.mp h) fun l e3 e=>e▸⟨qz e1,Gy e3▸e2⟩
end
mutual
noncomputable def gQ:V->PyData
 | .none=> .none
 | .bool b=> .bool b
 | .int i=> .int i
 | .str l=> .str ⟨l.toArray⟩
 | .tup l=> .tuple (toPys l)
 | .lst l=> .list (toPys l)
 | .bytes _ | .ref _ | .rng _ _=> .dict []
noncomputable def toPys:List V->List PyData
 | []=>[]
 | a::l=>gQ a::toPys l
end
theorem rN {G:Wd} {h:Heap} (hG:∀a o,G a o->h.get? a=some o):(∀(d:V) (v:Value) (n:Nat),iu d n=true->VR G d v->∃as,Reads h v (gQ d) as/\(gQ d).canLay0=true/\(gQ d).depth<=n)/\∀(ds:List V) (vs:List Value) (n:Nat),okVs ds n=true->VRs G ds vs->∃as,ReadsAll h vs (toPys ds) as/\PyData.canLayAll0 (toPys ds)=true/\PyData.depthAll (toPys ds)<=n:=by
 refine V.both (fun v n U r=>bi r ⟨_, .none,rfl,aX _⟩) (fun b v n U r=>bi r ⟨_, .bool b,rfl,aX _⟩) (fun i v n U r=>dU r fun t e=>bi e ⟨_, .int i t,rfl,aX _⟩)
  (fun l v n U r=>bu r fun t e hb=>bi e ⟨_, .str _ t,(List.all_toArray ..).trans (aG.mpr fun x h=>aA (hb x h)),aX _⟩) (fun l v n e=>cR e) (fun l ih v n e r=> ?_) (fun l ih v n e r=> ?_) (fun a v n e=>cR e) (fun a b v n e=>cR e)
  (fun vs n U r=>bi r ⟨_, .nil,rfl,aX _⟩) (fun d ds h1 h2 vs n e r=> ?_)
 ·cases n with
  | zero=>exact cR e
  | succ n=>exact r.rec fun a vs m q g hv=>bi q (gw (ih vs n e hv) fun as q c dp=>⟨_, .tuple (hG _ _ g) rfl rfl q,c,aO dp⟩)
 ·cases n with
  | zero=>exact cR e
  | succ n=>exact r.rec fun a vs m q g hv=>bi q (gw (ih vs n e hv) fun as q c dp=>⟨_, .list (hG _ _ g) rfl rfl q,c,aO dp⟩)
 ·cases vs with
  | nil=>exact r.elim
  | cons v vs=>exact gw (h1 v n (al e) r.1) fun as q c dp=>gw (h2 vs n (ar e) r.2) fun bs q' c' dp'=>⟨_, .cons q q',ay.mpr ⟨c,c'⟩,Nat.max_le.mpr ⟨dp,dp'⟩⟩
theorem gR {G:Wd} {h:Heap} (hG:∀a o,G a o->h.get? a=some o) {d:V} {v:Value} {n:Nat}:iu d n=true->VR G d v->∃as,Reads h v (gQ d) as/\(gQ d).canLay0=true/\(gQ d).depth<=n:=(rN hG).1 d v n
theorem B4 (l r:List Nat):((⟨l.toArray⟩:Str)==⟨r.toArray⟩)=(l==r):=by
 rw [Bool.eq_iff_iff];simp
theorem iQ:(∀(d e:V) (n:Nat),iu d n=true->PyData.eqv (gQ d) (gQ e)=bw d e)/\∀(l r:List V) (n:Nat),okVs l n=true->PyData.eqvAll (toPys l) (toPys r)=eqVs l r:=by
 refine V.both (fun e n U=> ?_) (fun b e n U=> ?_) (fun i e n U=> ?_) (fun l e n U=> ?_) (fun l e n h=>cR h) (fun l ih e n h=> ?_) (fun l ih e n h=> ?_) (fun a e n h=>cR h) (fun a b e n h=>cR h) (fun r n U=> ?_) (fun d ds h1 h2 r n h=> ?_)
 ·cases e<;>rfl
 ·cases e with
  | bool c=>cases b<;>cases c<;>rfl
  | int j=>cases b<;>rfl
  | _=>rfl
 ·cases e with
  | bool c=>cases c<;>rfl
  | _=>rfl
 ·cases e with
  | str r=>exact B4 l r
  | _=>rfl
 ·cases n with
  | zero=>exact cR h
  | succ n=>
   cases e with
   | tup r=>exact ih r n h
   | _=>rfl
 ·cases n with
  | zero=>exact cR h
  | succ n=>
   cases e with
   | lst r=>exact ih r n h
   | _=>rfl
 ·cases r<;>rfl
 ·cases r with
  | nil=>rfl
  | cons e r=>exact (congr (aB and (h1 e n (al h))) (h2 r n (ar h)) :)
theorem ofNat_inj {l r:List Nat} (h:∀x∈l,x<256) (h':∀x∈r,x<256) (e:l.map UInt8.ofNat=r.map UInt8.ofNat):l=r:=by
 have q:∀l:List Nat,(∀x∈l,x<256)->(l.map UInt8.ofNat).map UInt8.toNat=l:=fun l h=>by
  rw [List.map_map];exact (List.map_congr_left fun x hx=>(UInt8.toNat_ofNat'.trans (Nat.mod_eq_of_lt (h x hx)):_=id x)).trans (List.map_id l)
 exact (q l h).symm.trans ((aB (List.map UInt8.toNat) e).trans (q r h'))
theorem pD {l r:List Nat} (h:∀x∈l,x<256) (h':∀x∈r,x<256) (e:bG l=bG r):l=r:=ofNat_inj h h' (aB Array.toList e)
theorem xb {l r:List Nat} (h:∀x∈l,x<256) (h':∀x∈r,x<256):((bG l).toList==(bG r).toList)=(l==r):=by
 rw [Bool.eq_iff_iff,beq_iff_eq,beq_iff_eq];exact ⟨ofNat_inj h h',fun e=>by rw [e]⟩
section
variable {A:Around} {s:Shared} {G:Wd}
theorem ki {l r:List Nat} {t u:Tok} (h:∀x∈l,x<256) (h':∀x∈r,x<256):RcAt A s (.bytes (bG l) t) (.bytes (bG r) u) (l==r)/\RcNeAt A s (.bytes (bG l) t) (.bytes (bG r) u) (!(l==r)):=by
 rw [<-xb h h'];exact ⟨fun U U U U=>eq_bytes,fun U U U U=>ne_bytes⟩
theorem kY {l r:List Nat} {t u:Tok} (h:∀x∈l,x<256) (h':∀x∈r,x<256):EqAt A s (.bytes (bG l) t) (.bytes (bG r) u) (l==r):=fun prog w E Q hq=>by
 refine aH (wpAny_ite_split (fun hab=> ?_) fun U=>ae ((ki h h').1 _ _ _ _ (wpAny_truthy_bool hq)));have:=eq_of_beq hab;injection this with this;rw [pD h h' this,a9] at hq;exact ae (wpAny_rule (am hq))
theorem xZ {d:V} (h:(fv d).isSome=true):∃l,d= .bytes l:=dU (Option.isSome_iff_exists.mp h) fun l e=>⟨l,nr e⟩
theorem zU {d:V} {p:List V->Bool} (h:(jf d).any p=true):∃l,d= .lst l/\p l=true:=by
 cases e:jf d with
 | none=>rw [e] at h;exact cR h
 | some l=>rw [e] at h;exact ⟨l,rp e,h⟩
theorem fV {d:V} {v:Value} (h:(fv d).isSome=true) (r:VR G d v):∃l t,d= .bytes l/\v= .bytes (bG l) t/\∀x∈l,x<256:=
 dU (xZ h) fun l e=>dU (e▸r:VR G (.bytes l) v) fun t q=>⟨l,t,e,q⟩
theorem pu {ds es:List V} {vs ws:List Value} (o1:hN ds=true) (o2:hN es=true) (r1:VRs G ds vs) (r2:VRs G es ws) (hl:ds.length=es.length):∃e:Nat->Bool,(∀j (h1:j<vs.length) (h2:j<ws.length),EqAt A s vs[j] ws[j] (e j))/\(List.range ds.length).all e=eqVs ds es:=by
 refine r1.ind (motive:=fun ds vs=>∀es ws,hN ds=true->hN es=true->VRs G es ws->ds.length=es.length->∃e:Nat->Bool,(∀j (h1:j<vs.length) (h2:j<ws.length),EqAt A s vs[j] ws[j] (e j))/\(List.range ds.length).all e=eqVs ds es) (fun es ws U U U hl=> ?_) (fun {d v ds vs} hd _ ih es ws o1 o2 r hl=> ?_) es ws o1 o2 r2 hl
 ·cases es with
  | nil=>exact ⟨fun U=>true,fun j h=>C6 h,rfl⟩
  | cons=>exact absurd hl.symm (Nat.succ_ne_zero _)
 ·cases es with
  | nil=>exact absurd hl (Nat.succ_ne_zero _)
  | cons e es=>
   cases ws with
   | nil=>exact r.elim
   | cons w ws=>
    refine bu (ih es ws (ar o1) (ar o2) r.2 (Nat.succ.inj hl)) fun f f1 f2=>eJ (fV (al o1) hd) fun l t q0 q1 hb=>eJ (fV (al o2) r.1) fun l' t' q0' q1' hb'=>⟨Nat.rec (l==l') fun j U=>f j,fun j h1 h2=> ?_, ?_⟩
    ·cases j with
     | zero=>exact (bi q1 (bi q1' (kY hb hb')):EqAt A s v w (l==l'))
     | succ j=>exact f1 j (Nat.lt_of_succ_lt_succ h1) (Nat.lt_of_succ_lt_succ h2)
    ·rw [ba,List.range_succ_eq_map,q0,q0'];refine ak (List.all_cons ..) ?_;rw [List.all_map];exact aB (and (l==l')) f2
theorem yE (l:List V):∀r:List V,l.length≠r.length->eqVs l r=false:=by
 induction l with
 | nil=>exact fun r=>List.rec (fun h=>absurd rfl h) (fun U U U U=>rfl) r
 | cons a l ih=>exact fun r=>List.rec (fun U=>rfl) (fun b r U h=>(aB (bw a b && ·) (ih r fun e=>h (aB (· +1) e))).trans (Bool.and_false _)) r
theorem nJ {a b:Addr} {vs ws:List Value} {l r:List V} (o1:hN l=true) (o2:hN r=true) (l1:s.heap.IsList a vs.toArray) (l2:s.heap.IsList b ws.toArray) (v1:VRs G l vs) (v2:VRs G r ws) (hu:A.units<cLine):RcAt A s (.ref a) (.ref b) (eqVs l r)/\RcNeAt A s (.ref a) (.ref b) (!eqVs l r):=by
 have n1:=v1.length;have n2:=v2.length
 by_cases hsz:l.length=r.length
 ·obtain ⟨e,he,ee⟩:=pu o1 o2 v1 v2 hsz;rw [<-ee,<-n1];exact ⟨RcAt.lists l1 l2 (n1.trans (hsz.trans n2.symm)) hu he,RcNeAt.lists l1 l2 (n1.trans (hsz.trans n2.symm)) hu he⟩
 ·rw [yE _ _ hsz];have hn:(vs.toArray.size !=ws.toArray.size)=true:=bne_iff_ne.mpr fun q=>hsz (n1.symm.trans (q.trans n2));exact ⟨RcAt.lists_lengths l1 l2 hn hu,RcNeAt.lists_lengths l1 l2 hn hu⟩
theorem wp (l:List V) (h:hN l=true):eqVs l l=true:=by
 induction l with
 | nil=>rfl
 | cons a l ih=>
  refine dU (xZ (al h)) fun x q=>ay.mpr ⟨bi q (a9 x),ih (ar h)⟩
theorem qq {ds es:List V} {vs:List Value} (o1:hN ds=true) (o2:hN es=true) (r1:VRs G ds vs) (r2:VRs G es vs):ds=es:=by
 refine r1.ind (motive:=fun ds vs=>∀es,hN ds=true->hN es=true->VRs G es vs->ds=es) (fun es U U r=> ?_) (fun {d v ds vs} hd _ ih es o1 o2 r=> ?_) es o1 o2 r2
 ·cases es with
  | nil=>rfl
  | cons=>exact r.elim
 ·cases es with
  | nil=>exact qm r
  | cons e es=>
   rw [ih es (ar o1) (ar o2) r.2];refine aB (· ::es) (eJ (fV (al o1) hd) fun l t q0 q1 hb=>eJ (fV (al o2) r.1) fun l' t' q0' q1' hb'=> ?_);injection q1.symm.trans q1' with q _;exact q0.trans ((aB V.bytes (pD hb hb' q)).trans q0'.symm)
theorem vv (hG:∀a o,G a o->s.heap.get? a=some o) {a b:Value} {d e:V} (ok:gz d e=true) (ra:VR G d a) (rb:VR G e b) (hu:A.units+8<cLine):(RcAt A s a b (bw d e)/\RcNeAt A s a b (!bw d e))/\EqAt A s a b (bw d e):=by
 refine (aY.mp ok).elim (fun ok=> ?_) fun ok=>(aY.mp ok).elim (fun ok=> ?_) fun ok=> ?_
 ·refine iQ.1 d e 8 (al ok)▸gw (gR hG (al ok) ra) fun as q1 c1 d1=>gw (gR hG (ar ok) rb) fun bs q2 c2 d2=> ?_;have hd:A.units+min (gQ d).depth (gQ e).depth<cLine:=az (Nat.add_le_add_left (aj (Nat.min_le_left _ _) d1) _) hu;exact ⟨⟨rcAt_reads q1 q2 c1 c2 hd,rcNeAt_reads q1 q2 c1 c2 hd⟩,eqAt_reads _ _ A s a b as bs q1 q2 c1 c2 hd⟩
 ·refine eJ (fV (al ok) ra) fun l t e1 e2 h1=>eJ (fV (ar ok) rb) fun r u e3 e4 h2=> ?_;rw [e1,e2,e3,e4];exact ⟨ki h1 h2,kY h1 h2⟩
 ·refine bu (zU (al ok)) fun l e1 o1=>bu (zU (ar ok)) fun r e2 o2=> ?_;rw [e1] at ra ⊢;rw [e2] at rb ⊢;refine ra.rec fun x vs n e3 g1 v1=>rb.rec fun y ws m e4 g2 v2=> ?_;rw [e3,e4];have rc:=nJ o1 o2 ⟨_,hG _ _ g1,rfl,_,rfl⟩ ⟨_,hG _ _ g2,rfl,_,rfl⟩ v1 v2 (az (aP _ _) hu);refine ⟨rc, ?_⟩
  by_cases hxy:x=y
  ·have e1:vs=ws:=aB Array.toList (Data.seq.inj (aB Obj.data (bW ((hG _ _ (hxy▸g1)).symm.trans (hG _ _ g2))))).1;rw [qq o1 o2 v1 (e1▸v2),hxy];exact bi (show bw (.lst r) (.lst r)=true from wp _ o2) (EqAt.same _)
  ·exact EqAt.of_refs hxy rc.1
end
theorem xn {α:Type} (l:List α):∀(k:Nat) (a:List α),List.foldl (fun x1 x2=>x1++x2) a.toArray (List.replicate k l.toArray)=(a++(List.replicate k l).flatten).toArray:=by
 intro zl
 induction zl with
 | zero=>
  intro a;rw [List.replicate_zero,List.replicate_zero,List.flatten_nil,aE];rfl
 | succ k ih=>
  intro a;rw [List.replicate_succ,List.foldl_cons,List.append_toArray,ih,List.replicate_succ,List.flatten_cons,aw]
theorem wo {α:Type} (l:List α) (n:Nat):List.foldl (fun x1 x2=>x1++x2) #[] (List.replicate (if l.toArray.isEmpty=true then 0 else n) l.toArray)=(List.replicate n l).flatten.toArray:=by
 rw [xn,List.nil_append]
 cases l with
 | nil=>simp
 | cons a l=>rfl
section
variable {T:cK} {Y:be} {s:Shared} {A:Around} {K E:Value->Shared->Prop} {Q:KV} {a b:Value} {d e:V} {m neg:Bool}
theorem Kv.int (k:Kv T Y s Q K) (st:St T Y s.heap) (tk:Nat) {i:Int} {t:Tok} (q:Q (.int i) Y):K (.int i t) {s with toks:=tk}:=k.same (d:= .int i) st tk ⟨t,rfl⟩ q
theorem Kv.bool (k:Kv T Y s Q K) (st:St T Y s.heap) {i:Bool} (q:Q (.bool i) Y):K (.bool i) s:=k.same0 (d:= .bool i) st rfl q
theorem Kv.str (k:Kv T Y s Q K) (st:St T Y s.heap) (tk:Nat) {l:List Nat} {t:Tok} (h:∀x∈l,x<1114112) (q:Q (.str l) Y):K (.str ⟨l.toArray⟩ t) {s with toks:=tk}:=k.same (d:= .str l) st tk ⟨t,rfl,h⟩ q
theorem Kv.bytes (k:Kv T Y s Q K) (st:St T Y s.heap) (tk:Nat) {l:List Nat} {t:Tok} (h:∀x∈l,x<256) (q:Q (.bytes l) Y):K (.bytes (bG l) t) {s with toks:=tk}:=k.same (d:= .bytes l) st tk ⟨t,rfl,h⟩ q
theorem sO {n:Nat} {l r:List Nat} (h:∀x∈l,x<n) (h':∀x∈r,x<n):∀x∈l++r,x<n:=fun x hx=>(aD.mp hx).elim (h x) (h' x)
theorem lines {x y:List Value} {l r:List V} {G:Wd} (h:l.length+r.length<=16777216) (p:VRs G l x) (q:VRs G r y):x.length+y.length<=sizeLine:=by rw [p.length,q.length];exact h
theorem B7 (st:St T Y s.heap) {x y:Addr} {vs ws:List Value} {n o:Nat} {ds es:List V} (g:G Y s.heap x (ey "tuple" vs n)) (g2:G Y s.heap y (ey "tuple" ws o)) (v1:VRs (G Y s.heap) ds vs) (v2:VRs (G Y s.heap) es ws) (h:ds.length+es.length<=16777216) (q:Q (.tup (ds++es)) Y) (k:Kv T Y s Q K):wpAny (model T.prog T.w) A (binaryOp .Add (.ref x) (.ref y)) K E s:=by
 refine wpAny_binaryOp_concat ⟨_,g.1,rfl⟩ ⟨_,g2.1,rfl⟩ noFill_tuple_add seq_tuple_add ?_;have go:=fun {S:PySem.Spec} (M:Meets (Builtin.«tuple.__add__» ⟨[.ref x, .ref y],[]⟩) S)=>call_meets (prog:=T.prog) (w:=T.w) (A:=A) (Q:=K) (E:=E) (s:=s) PySem.F.slot_tuple_add (show s.TypeIs (.ref x) "tuple" from ⟨_,g.1,rfl⟩) PySem.F.entry_tuple_add (PySem.F.args_tuple_add_2 _ _) M
 cases vs with
 | nil=>
  refine go (tuple_addW0 x y #[] ws.toArray n o none none #[] #[] rfl) ⟨g.1,g2.1, ?_⟩
  cases ds with
  | nil=>exact k.same0 (d:= .tup es) st ⟨y,ws,o,rfl,g2,v2⟩ q
  | cons U z1=>exact False.elim v1
 | cons u vs=>
  cases ws with
  | nil=>
   refine go (tuple_addW1 x y (u::vs).toArray #[] n o none none #[] #[] (by simp) rfl) ⟨g.1,g2.1, ?_⟩
   cases es with
   | nil=>rw [aE] at q;exact k.same0 (d:= .tup ds) st ⟨x,u::vs,n,rfl,g,v1⟩ q
   | cons U z1=>exact False.elim v2
  | cons w ws=>
   refine go (tuple_addW2 x y (u::vs).toArray (w::ws).toArray n o none none #[] #[] (by simp) (by simp) (lines h v1 v2)) ⟨g.1,g2.1, ?_⟩;rw [List.append_toArray];exact k.newTup st _ (bA _ _) (av _) (aF _ rfl) (v1.append v2) q
theorem uc {l:List V} (q:Cq m l Y Q):l.length<=16777216:=by
 cases m with
 | true=>exact (cF q).1
 | false=>exact (cF q).1
theorem wN (st:St T Y s.heap) (va:VR (G Y s.heap) d a) (vb:VR (G Y s.heap) e b) (hd:EX m d e Y Q) (k:Kv T Y s Q K):wpAny (model T.prog T.w) A (binaryOp .Add a b) K E s:=by
 cases d with
 | int i=>
  obtain ⟨t,rfl⟩:=va;exact vI hd vb fun j u U q=>PyProof.Rows.add_int (k.int st _ q)
 | str x=>
  obtain ⟨t,rfl,hx⟩:=va;refine vS hd vb fun y u U hy q=>SB.add (fun t' kk=> ?_) ?_
  ·rw [show (⟨x.toArray⟩:Str)++(⟨y.toArray⟩:Str)=⟨(x++y).toArray⟩ from aB Str.mk (List.append_toArray ..)];exact k.str st _ (sO hx hy) (cF q).2
  ·exact (cF q).1
 | bytes x=>
  obtain ⟨t,rfl,hx⟩:=va;refine vY hd vb fun y u U hy q=>KBy.add_bytes ?_ (fun t' kk=> ?_)
  ·rw [aI,aI,ah,ah];exact (cF q).1
  ·rw [show bG x++bG y=bG (x++y) by (refine ak (List.append_toArray ..) ?_;rw [<-aJ])];exact k.bytes st _ (sO hx hy) (cF q).2
 | tup x=>
  obtain ⟨p,vs,n,rfl,g,v1⟩:=va;exact vT hd vb fun ds y ws o U g2 v2 q=>B7 st g g2 v1 v2 (cF q).1 (cF q).2 k
 | lst x=>
  obtain ⟨p,vs,n,rfl,g,v1⟩:=va;refine vL hd vb fun ds y ws o U g2 v2 q=>P.add_list g.1 g2.1 ?_ (lines (by rw [<-ai];exact uc q) v1 v2);rw [List.append_toArray];exact k.newL st _ (bA _ _) (av _) (aF _ rfl) (v1.append v2) q
 | _=>exact False.elim hd
theorem yJ {i j:Int} (h:i.natAbs<2 ^ 63\/j.natAbs<2 ^ 63):IntMulOk i j:=by
 rcases h with h | h
 ·exact IntMulOk.of_left (intBits_le_64 (by lia) (by lia))
 ·exact IntMulOk.of_right (intBits_le_64 (by lia) (by lia))
theorem yL (st:St T Y s.heap) {x:Addr} {vs:List Value} {n:Nat} {ds:List V} {j:Int} {u:Tok} (g:G Y s.heap x (ey "list" vs n)) (v1:VRs (G Y s.heap) ds vs) (h1:0<=j) (h2:j<=100) (h3:ds.length<=2) (q:Q (.lst (List.replicate j.toNat ds).flatten) Y) (k:Kv T Y s Q K):wpAny (model T.prog T.w) A (binaryOp .Mult (.ref x) (.int j u)) K E s:=by
 have hz:vs.toArray.size*j.toNat<=2*100:=by
  rw [aI,v1.length];exact Nat.mul_le_mul h3 (by lia)
 refine wpAny_binaryOp_repeat_ref (T:= "list") (U:= "int") (by decide) ⟨_,g.1,rfl⟩ (fun s'=>typeIs_int s' j u) noFill_list_mul F.fills_int_mul F.slot_int_rmul repeat_list F.slot_int_index.lookup
  (call_meets F.slot_int_rmul (typeIs_int s j u) F.entry_int_rmul (F.args_int_rmul_2 _ _) (lm_int_rmul_list_any j u x vs.toArray n none #[])
   ⟨g.1,rfl,⟨_,g.1,rfl⟩,call_meets F.slot_list_mul ⟨_,g.1,rfl⟩ F.entry_list_mul (F.args_list_mul_2 _ _)
    (lm_list_mul_any x vs.toArray n none #[] j u (by simp [Builtin.List.listFitsIndex];lia) (by lia) (by simp [Builtin.List.listTooLong,sizeLine] at hz ⊢;exact aj ‹_› (ad rfl))) ⟨g.1, ?_⟩⟩)
 rw [wo];exact k.newL (m:=false) st _ (bA _ _) (av _) (aF _ rfl) (v1.replicate _) (bx (by have:=(v1.replicate j.toNat).length;simp at hz this ⊢;have:=v1.length;rw [<-this,Nat.mul_comm];exact aj ‹_› (ad rfl)) q)
theorem wR (st:St T Y s.heap) (va:VR (G Y s.heap) d a) (vb:VR (G Y s.heap) e b) (hd:EK d e Y Q) (k:Kv T Y s Q K):wpAny (model T.prog T.w) A (binaryOp .Mult a b) K E s:=
 vI hd vb fun j u U q=>by
  cases h:jf d with
  | some x=>
   rw [h] at q;obtain ⟨q1,q⟩:=cF q;obtain ⟨q2,q⟩:=cF q;obtain ⟨q3,q⟩:=cF q;exact vL (f:=fun l=>l=x) (by rw [h];rfl) va fun ds y vs n U g v1 r=>yL st g v1 q1 q2 (r▸q3) (r▸q) k
  | none=>
   rw [h] at q;exact vI q va fun i t U q=>PySem.P.mul_int (k.int st _ (dG q).2) (yJ ((aY.mp (dG q).1).imp aU aU))
theorem wJ {op:Operator} (st:St T Y s.heap) (va:VR (G Y s.heap) d a) (vb:VR (G Y s.heap) e b) (hd:FQ m op d e Y Q) (k:Kv T Y s Q K):wpAny (model T.prog T.w) A (binaryOp op a b) K E s:=by
 have two:∀{f:Int->Int->Prop},gk d e f->(∀i t j u,f i j->wpAny (model T.prog T.w) A (binaryOp op (.int i t) (.int j u)) K E s)->wpAny (model T.prog T.w) A (binaryOp op a b) K E s:=
  fun q h=>vI q va fun i t U q=>vI q vb fun j u U q=>h i t j u q
 cases op with
 | Add=>exact wN st va vb hd k
 | Mult=>exact wR st va vb hd k
 | Sub=>exact two hd fun i t j u q=>PyProof.Rows.sub_int (k.int st _ q)
 | Mod=>exact two hd fun i t j u q=>PyProof.Rows.mod_int' (by have:=(cF q).1;lia) (k.int st _ ((Int.fmod_eq_emod_of_nonneg _ (Int.le_of_lt (cF q).1)).symm▸(cF q).2))
 | FloorDiv=>exact two hd fun i t j u q=>PyProof.Rows.floordiv_int (by have:=(cF q).1;lia) (k.int st _ ((Int.fdiv_eq_ediv_of_nonneg _ (Int.le_of_lt (cF q).1)).symm▸(cF (cF q).2).2)) (.inl (PyProof.noPylong_small (by have:=(cF q).1;have:=(cF (cF q).2).1;lia)))
 | BitAnd=>exact two hd fun i t j u q=>PyProof.Rows.and_int (k.int st _ ((PyProof.Rows.bitAnd_pp (cF q).1 (cF (cF q).2).1).symm▸(cF (cF q).2).2))
 | Pow=>exact two hd fun i t j u q=>PyProof.Rows.pow_int_small (cF (cF q).2).1 (by have:=(cF (cF (cF q).2).2).1;lia) (by have:=(cF q).1;exact a8 ‹_› (ad rfl)) (k.int st _ (cF (cF (cF q).2).2).2)
 | _=>exact False.elim hd
theorem i5 {W:Wd} {f:Bool->Prop} (hd:on (BX d) f) (va:VR W d a) {K:Bool->Shared->Prop} (k:∀b,f b->K b s):wpAny (model T.prog T.w) A (truthy a) K E s:=
 vB hd va fun b U q=>wpAny_truthy_bool (k b q)
noncomputable def G' (h:Heap):Wd:=fun a o=>h.get? a=some o/\cN o
theorem VR.deref (st:St T Y s.heap) (r:VR (G Y s.heap) d a):VR (G' s.heap) (deref d Y) a:=by
 have le:jq (G Y s.heap) (G' s.heap):=fun U U p=>⟨p.1,p.2.2⟩;delta Mine.deref
 cases e:fG d Y with
 | none=>exact r.mono le
 | some p=>
  refine cr fun hn=> ?_;obtain ⟨rfl,e2⟩:=gh e;obtain ⟨U,o,ho,vs,n,rfl,hv⟩:=st.sto _ _ e2;exact hn (⟨p.1,vs,n,r,⟨ho,cA _ (.inr rfl) vs n⟩,hv.mono le⟩)
theorem oA (st:St T Y s.heap) (hu:A.units+8<cLine) (va:VR (G Y s.heap) d a) (vb:VR (G Y s.heap) e b) (hd:eqD neg d e Y Q) (k:Kv T Y s Q K):wpAny (model T.prog T.w) A (compareOp (cond neg .NotEq .Eq) a b) K E s:=by
 have hd:=dG hd;have rc:=(vv (fun U U p=>p.1) hd.1 (va.deref st) (vb.deref st) hu).1
 cases neg with
 | true=>exact rc.2 _ _ _ _ (k.bool st hd.2)
 | false=>exact rc.1 _ _ _ _ (k.bool st hd.2)
theorem qM {W:Wd} (r:VR W d a) (h:rj d=true):(a==Value.none)=Ah d:=by
 cases d with
 | none=>rw [show a=_ from r];rfl
 | bool b=>rw [show a=_ from r];rfl
 | int i=>obtain ⟨t,rfl⟩:=r;rfl
 | str l=>obtain ⟨t,rfl,U⟩:=r;rfl
 | bytes l=>obtain ⟨t,rfl,U⟩:=r;rfl
 | tup l=>obtain ⟨x,U,U,rfl,U⟩:=r;rfl
 | lst l=>obtain ⟨x,U,U,rfl,U⟩:=r;rfl
 | ref U=>exact cR h
 | rng U z1=>exact cR h
theorem mV {W:Wd} (h:Ah e=true) (r:VR W e b):b= .none:=by
 cases e with
 | none=>exact r
 | _=>cases h
theorem pJ (st:St T Y s.heap) (va:VR (G Y s.heap) d a) (vb:VR (G Y s.heap) e b) (hd:isD neg d e Y Q) (k:Kv T Y s Q K):wpAny (model T.prog T.w) A (compareOp (cond neg .IsNot .Is) a b) K E s:=by
 refine fI (dG hd) fun h1 hd=> ?_;obtain ⟨h2,hd⟩:=dG hd;obtain rfl:=mV h1 vb;have hn:=qM va h2
 cases neg with
 | true=>exact PyProof.Rows.isnot_none_gen (k.bool st (by show Q (.bool (!(a==Value.none))) Y;rw [hn];exact hd))
 | false=>exact PyProof.Rows.is_none_gen (k.bool st (by rw [hn];exact hd))
theorem fW (st:St T Y s.heap) {l:List V} (vb:VR (G Y s.heap) e b) (hl:cI e Y=some l):∃x c vs n,b= .ref x/\s.heap.get? x=some (ey c vs n)/\((c= "tuple" /\e= .tup l)\/(c= "list" /\dC e Y=some l))/\VRs (G Y s.heap) l vs:=by
 cases e with
 | tup ds=>(replace hl:=bW hl;subst hl);obtain ⟨x,vs,n,rfl,g,r⟩:=vb;exact ⟨x,_,vs,n,rfl,g.1, .inl ⟨rfl,rfl⟩,r⟩
 | lst ds=>(replace hl:=bW hl;subst hl);obtain ⟨x,vs,n,rfl,g,r⟩:=vb;exact ⟨x,_,vs,n,rfl,g.1, .inr ⟨rfl,rfl⟩,r⟩
 | ref x=>
  refine cr fun hn=>(bu (aL.mp (hl)) fun p e y21=> ?_);subst y21;obtain ⟨e1,e2⟩:=gh e;injection e1 with e1;obtain ⟨U,o,ho,vs,n,rfl,hv⟩:=st.sto _ _ e2;exact hn (⟨x,_,vs,n,vb,e1▸ho, .inr ⟨rfl,hl⟩,hv⟩)
 | _=>cases hl
theorem e9 (st:St T Y s.heap) {l:List V} (vb:VR (G Y s.heap) e b) (hl:dC e Y=some l):∃x vs n,b= .ref x/\s.heap.get? x=some (ey "list" vs n)/\VRs (G Y s.heap) l vs:=by
 have hs:cI e Y=some l:=by
  delta cI
  cases h:vW e with
  | none=>exact hl
  | some x=>exact vT (by rw [h];trivial) vb fun ds U U U e U U U=>by subst e;exact bZ hl
 refine cr fun hn=> ?_;obtain ⟨x,c,vs,n,rfl,ho,h,hv⟩:=fW st vb hs;refine hn ?_;clear hs vb st T;rcases h with ⟨U,rfl⟩ | ⟨rfl,U⟩
 ·exact bZ hl
 ·exact ⟨x,vs,n,rfl,ho,hv⟩
theorem y6 (hu:A.units+9<cLine) {vs:List Value} {ds:List V} (va:VR (G Y s.heap) d a) (hv:VRs (G Y s.heap) ds vs) (ok:ds.all (gz · d)=true):∃f:Value->Bool,(∀y,y∈vs.toArray->EqAt A.in1 s y a (f y))/\vs.toArray.any f=ds.any (bw · d):=by
 have each:∀j x y,ds[j]? =some x->vs[j]? =some y->EqAt A.in1 s y a (bw x d):=fun j x y hx hy=>by
  refine bu (hv.get hx) fun y' e r=> ?_;rw [hy] at e;(replace e:=bW e;subst e);exact (vv (fun U U p=>p.1) (aG.mp ok x (aq hx)) r va (by show A.units+1+8<cLine;assumption)).2
 have at':∀y∈vs.toArray,∃j x,ds[j]? =some x/\vs[j]? =some y:=fun y hy=>by
  obtain ⟨j,hj⟩:=List.getElem?_of_mem (List.mem_toArray.mp hy);exact bu (hv.get' hj) fun x hx U=>⟨j,x,hx,hj⟩
 cases h:ds.any (bw · d) with
 | false=>
  refine ⟨fun U=>false,fun y hy=> ?_,by simp⟩;refine gU (at' y hy) fun j x h1 h2=> ?_;have:=List.any_eq_false.mp h x (aq h1);exact (Bool.not_eq_true _).mp this▸each j x y h1 h2
 | true=>
  refine ⟨fun y=> @decide (EqAt A.in1 s y a true) (Classical.propDecidable _),fun y hy=> ?_, ?_⟩
  ·show EqAt A.in1 s y a (@decide _ (Classical.propDecidable _));refine gU (at' y hy) fun j x h1 h2=> ?_;have:=each j x y h1 h2
   cases q: @decide (EqAt A.in1 s y a true) (Classical.propDecidable _) with
   | true=>exact @aU _ (_) q
   | false=>
    cases r:bw x d with
    | true=>exact absurd (r▸this) (@of_decide_eq_false _ (_) q)
    | false=>exact r▸this
  ·refine cr fun hn=> ?_;obtain ⟨x,hx,r⟩:=List.any_eq_true.mp h;obtain ⟨j,hj⟩:=List.getElem?_of_mem hx;exact bu (hv.get hj) fun y hy U=>(hn (Array.any_eq_true'.mpr ⟨y,List.mem_toArray.mpr (aq hy), @aA _ (_) (r▸each j x y hj hy)⟩))
theorem mO (st:St T Y s.heap) (hu:A.units+9<cLine) {l:List V} (va:VR (G Y s.heap) d a) (vb:VR (G Y s.heap) e b) (hl:cI e Y=some l) (ok:l.all (gz · d)=true) (q:Q (.bool (fl neg (l.any (bw · d)))) Y) (k:Kv T Y s Q K):wpAny (model T.prog T.w) A (compareOp (cond neg .NotIn .In) a b) K E s:=by
 obtain ⟨x,c,vs,n,rfl,ho,h,hv⟩:=fW st vb hl;refine bu (y6 hu va hv ok) fun f i1 i2=> ?_;rw [<-i2] at q
 cases neg with
 | true=>
  rcases h with ⟨rfl,U⟩ | ⟨rfl,U⟩
  ·exact notIn_tupleAt f ⟨_,ho,rfl,_,rfl⟩ i1 (k.bool st q)
  ·exact notIn_listAt f ⟨_,ho,rfl,_,rfl⟩ i1 (k.bool st q)
 | false=>
  rcases h with ⟨rfl,U⟩ | ⟨rfl,U⟩
  ·exact in_tupleAt f ⟨_,ho,rfl,_,rfl⟩ i1 (k.bool st q)
  ·exact in_listAt f ⟨_,ho,rfl,_,rfl⟩ i1 (k.bool st q)
end
end Mine
end
section
namespace Mine
open PySem PySem.W PyProof.Rows PySem.Calls PySem.SeqAt Builtin
namespace BF
theorem slot_index:Slot "bytes" "index" "bytes.index" :=
 .of (owner:= "bytes") (n:= "index") (by rw [typeLookup_type,builtinLookup_eq_fast];kernel_rfl) (by decide+kernel) (by decide+kernel) (by decide+kernel)
  (by first | exact .inl (by decide+kernel) | exact .inr (by decide+kernel)) (by rw [isSubtype_type];kernel_rfl)
theorem type_index:typeOf (.builtin "bytes.index")=pure (.type "method_descriptor"):=by show builtinType _=_;rw [builtinType_eq_fast];kernel_rfl
theorem entry_index:entryFor table "bytes.index" =some Builtin.«bytes.index»:=entryFor_of_tree (by kernel_rfl)
theorem args_index (a b:Value):argsOk "bytes.index" ⟨[a,b],[]⟩:=by
 unfold argsOk;rw [signature?_of (id:= "bytes.index") (n:=['x','e','d','n','i']) (o:=['s','e','t','y','b']) (by kernel_rfl) FB.owner_bytes];kernel_rfl
theorem slot_join:Slot "bytes" "join" "bytes.join" :=
 .of (owner:= "bytes") (n:= "join") (by rw [typeLookup_type,builtinLookup_eq_fast];kernel_rfl) (by decide+kernel) (by decide+kernel) (by decide+kernel)
  (by first | exact .inl (by decide+kernel) | exact .inr (by decide+kernel)) (by rw [isSubtype_type];kernel_rfl)
theorem type_join:typeOf (.builtin "bytes.join")=pure (.type "method_descriptor"):=by show builtinType _=_;rw [builtinType_eq_fast];kernel_rfl
theorem entry_join:entryFor table "bytes.join" =some Builtin.«bytes.join»:=entryFor_of_tree (by kernel_rfl)
theorem args_join (a b:Value):argsOk "bytes.join" ⟨[a,b],[]⟩:=by
 unfold argsOk;rw [signature?_of (id:= "bytes.join") (n:=['n','i','o','j']) (o:=['s','e','t','y','b']) (by kernel_rfl) FB.owner_bytes];kernel_rfl
theorem slot_split:Slot "bytes" "split" "bytes.split" :=
 .of (owner:= "bytes") (n:= "split") (by rw [typeLookup_type,builtinLookup_eq_fast];kernel_rfl) (by decide+kernel) (by decide+kernel) (by decide+kernel)
  (by first | exact .inl (by decide+kernel) | exact .inr (by decide+kernel)) (by rw [isSubtype_type];kernel_rfl)
theorem type_split:typeOf (.builtin "bytes.split")=pure (.type "method_descriptor"):=by show builtinType _=_;rw [builtinType_eq_fast];kernel_rfl
theorem entry_split:entryFor table "bytes.split" =some Builtin.«bytes.split»:=entryFor_of_tree (by kernel_rfl)
theorem args_split (a b:Value):argsOk "bytes.split" ⟨[a,b],[]⟩:=by
 unfold argsOk;rw [signature?_of (id:= "bytes.split") (n:=['t','i','l','p','s']) (o:=['s','e','t','y','b']) (by kernel_rfl) FB.owner_bytes];kernel_rfl
end BF
theorem kW {a b:Nat} (ha:a<256) (hb:b<256):(UInt8.ofNat a=UInt8.ofNat b)↔a=b:=by
 constructor
 ·intro h;have:=aB UInt8.toNat h
  simpa [Nat.mod_eq_of_lt ha,Nat.mod_eq_of_lt hb] using this
 ·rintro rfl;rfl
theorem rP {l:List Nat} {c:Nat} (h:∀x∈l,x<256) (hc:c<256):(bG l).contains (UInt8.ofNat c)=l.contains c:=by
 rw [Bool.eq_iff_iff];rw [Array.contains_iff_mem,List.mem_toArray,aN,List.contains_iff_mem]
 constructor
 ·intro zp1;refine bu zp1 fun x hx e=> ?_;rw [<-(kW (h x hx) hc).mp e];exact hx
 ·exact fun hx=>⟨c,hx,rfl⟩
theorem lA (b:Array UInt8) (t:Tok) (i:Int) (u:Tok) (h0:0<=i) (h1:i<256):Gives (Builtin.«bytes.__contains__» ⟨[.bytes b t, .int i u],[]⟩) (.val (.bool (b.contains i.toNat.toUInt8))):=by
 refine .of_wp fun M A E s Q hq=> ?_;show wpAny M A (Bytes.containsIn "bytes.__contains__" (.bytes b t) (.int i u)>>=fun r=>_) _ E s;refine ae (ae (wpAny_attempt (wpAny_of_eq rfl ?_)));refine ae (wpAny_of_eq KBy.buffer_eq ?_);dsimp only;rw [(show (decide (i<0) || decide (i>=256))=false by simp;lia)];exact am (am ⟨_,rfl,hq⟩)
theorem kC {α:Type} {p q:α->Bool} {l:List α} (h:∀x∈l,p x=q x):l.find? p=l.find? q:=by
 induction l with
 | nil=>rfl
 | cons a l ih=>
  have h:=aa.mp h;rw [List.find?_cons,List.find?_cons,h.1,ih h.2]
theorem Ap (b:Array UInt8) (c:UInt8):Bytes.find? b #[c] 0 b.size=b.toList.findIdx? (· ==c):=by
 delta Bytes.find?;rw [(show (List.range (b.size+1 - (0+(#[c]:Array UInt8).size))).map (· +0)=List.range b.size by simp)]
 have e2:∀i,i<b.size->(b.extract i (i+(#[c]:Array UInt8).size)== #[c])=(b.toList[i]? ==some c):=fun i hi=>by
  have:b.extract i (i+(#[c]:Array UInt8).size)= #[b[i]]:=by
   apply Array.ext
   ·simp;lia
   ·intro j h1 h2;have:j=0:=by simp at h2;assumption
    subst this;simp
  rw [this];simp [hi]
 have key:∀(l:List UInt8) (k:Nat),(List.range' k l.length).find? (fun i=>l[i - k]? ==some c)=(l.findIdx? (· ==c)).map (· +k):=by
  intro l
  induction l with
  | nil=>intro k;rfl
  | cons x l ih=>
   intro k
   (rw [ba];refine ak (List.find?_cons ..) ?_;rw [List.findIdx?_cons])
   rw [Nat.sub_self,List.getElem?_cons_zero]
   by_cases hx:(x==c)=true
   ·have:(some x==some c)=true:=by exact hx
    rw [this,if_pos hx];grind
   ·have:(some x==some c)=false:=by simpa using hx
    rw [this,if_neg hx]
    have cg:(List.range' (k+1) l.length).find? (fun i=>(x::l)[i - k]? ==some c)=(List.range' (k+1) l.length).find? (fun i=>l[i - (k+1)]? ==some c):=by
     apply kC;intro i hi;have:k+1<=i:=(List.mem_range'_1.mp hi).1;have:i - k=(i - (k+1))+1:=by lia
     rw [this];rfl
    (refine ak cg ?_;refine ak (ih (k+1)) ?_)
    cases l.findIdx? (· ==c) with
    | none=>rfl
    | some j=>simp;lia
 have hb:=key b.toList 0;rw [<-List.range_eq_range'] at hb;have:(b.toList.findIdx? (· ==c)).map (· +0)=b.toList.findIdx? (· ==c):=by cases b.toList.findIdx? (· ==c)<;>rfl
 rw [this] at hb;rw [<-hb];apply kC;intro i hi;refine ak (e2 i (List.mem_range.mp hi)) ?_;rfl
theorem q6 {l:List Nat} {c k:Nat} (h:∀x∈l,x<256) (hc:c<256) (hk:l.findIdx? (· ==c)=some k):(bG l).toList.findIdx? (· ==UInt8.ofNat c)=some k:=by
 have:(bG l).toList=l.map UInt8.ofNat:=by rfl
 (rw [this];refine ak (List.findIdx?_map ..) ?_)
 rw [<-hk]
 have key:∀(l:List Nat),(∀x∈l,x<256)->l.findIdx? ((fun x=>x==UInt8.ofNat c)∘UInt8.ofNat)=l.findIdx? (· ==c):=by
  intro l
  induction l with
  | nil=>intro _;rfl
  | cons x l ih=>
   intro h
   (refine ak (List.findIdx?_cons ..) ?_;rw [List.findIdx?_cons,ih fun y hy=>h y (.tail _ hy)])
   have:((fun x=>x==UInt8.ofNat c)∘UInt8.ofNat) x=(x==c):=by
    rw [Bool.eq_iff_iff];simp;exact kW (h x (.head _)) hc
   rw [this]
 exact key l h
theorem rB {id:String} {i:Int} {u:Tok}:Bytes.buffer? id (.int i u)=pure none:=by
 delta Bytes.buffer?;rfl
theorem pO (b:Array UInt8) (t:Tok) (i:Int) (u:Tok) (h0:0<=i) (h1:i<256) (k:Nat) (hk:b.toList.findIdx? (· ==i.toNat.toUInt8)=some k):Gives (Builtin.«bytes.index» ⟨[.bytes b t, .int i u],[]⟩) (.int k):=by
 refine .of_wp fun M A E s Q hq=> ?_
 have hne:b.size>=1:=by
  rcases Nat.eq_zero_or_pos b.size with q | q
  ·have:b= #[]:=Array.eq_empty_of_size_eq_zero q;subst this;simp at hk
  ·exact q
 have sa:wpAny M A (Bytes.searchArgs .bytes "index" ⟨[.bytes b t, .int i u],[]⟩) (fun r s'=>r=(b, #[i.toNat.toUInt8],some (0,b.size))/\s'=s) E s:=by
  refine ae (wpAny_of_eq (a:=(Value.bytes b t,[Value.int i u])) rfl ?_);refine ae (wpAny_of_eq rfl ?_);refine ae (wpAny_of_eq rfl ?_);refine ae (wpAny_of_eq rB ?_);refine ae (wpAny_specialOf (typeIs_int s i u) F.slot_int_index.lookup ?_);refine ae (wpAny_of_eq rfl ?_);rw [(show (decide (i<0) || decide (i>=256))=false by simp;lia)];refine ae (am ?_);refine ae (wpAny_of_eq (a:=b) rfl ?_);refine am ⟨?_,rfl⟩;simp;lia
 refine ae (wpAny_mono sa (fun r s' h=> ?_) fun U U x=>x);clear sa u t hne h1 h0;obtain ⟨rfl,rfl⟩:=h;show wpAny M A (match (Bytes.find? b #[i.toNat.toUInt8] 0 b.size) with | some i=>_ | none=>_) _ E _;rw [Ap,hk];exact ae (wpAny_mkInt (am ⟨_,rfl,hq⟩))
section
variable {T:cK} {Y:be} {s:Shared} {A:Around} {K E:Value->Shared->Prop} {Q:KV}
theorem xF {a b:Value} {d e:V} {l:List Nat} {neg:Bool} (st:St T Y s.heap) (va:VR (G Y s.heap) d a) (vb:VR (G Y s.heap) e b) (he:fv e=some l) (q:EH neg d e Y Q) (k:Kv T Y s Q K):wpAny (model T.prog T.w) A (compareOp (cond neg .NotIn .In) a b) K E s:=by
 delta EH at q;rw [he] at q;refine vY (f:=fun l'=>l'=l) (by rw [he];rfl) vb fun l' t U hb e=> ?_;clear he vb xF;subst e;refine vI q va fun i u U q=> ?_;obtain ⟨q1,q⟩:=cF q;obtain ⟨q2,q⟩:=cF q;have g:=lA (bG l') t i u q1 q2;rw [(rP hb (by lia))] at g
 cases neg with
 | true=>exact notIn_gives (typeIs_bytes s _ t) FB.slot_bytes_contains FB.entry_bytes_contains (FB.args_bytes_contains_2 _ _) g (k.bool st q)
 | false=>exact in_gives (typeIs_bytes s _ t) FB.slot_bytes_contains FB.entry_bytes_contains (FB.args_bytes_contains_2 _ _) g (k.bool st q)
theorem wv {l:List Nat} {t u:Tok} {n:Int} {j:Nat} (st:St T Y s.heap) (hb:∀x∈l,x<256) (q0:0<=n) (q1:n<256) (hk:l.findIdx? (· ==n.toNat)=some j) (q:Q (.int j) Y) (k:Kv T Y s Q K):wpAny (model T.prog T.w) A (PySem.call (.builtin "bytes.index") [.bytes (bG l) t, .int n u]) K E s:=
 call_gives BF.slot_index (typeIs_bytes s _ t) BF.entry_index (BF.args_index _ _) (pO (bG l) t n u q0 q1 j (q6 hb (by lia) hk)) (k.int st _ q)
end
theorem B1 {b:Array UInt8} {i:Nat} {c:UInt8} (hi:i<b.size):(b.extract i (i+(#[c]:Array UInt8).size)== #[c])=(b.toList[i]? ==some c):=by
 have:b.extract i (i+(#[c]:Array UInt8).size)= #[b[i]]:=by
  apply Array.ext
  ·simp;lia
  ·intro j h1 h2;have:j=0:=by simp at h2;assumption
   subst this;simp
 rw [this];simp [hi]
noncomputable def cm (c:UInt8):Nat->List UInt8->List Nat
 | U,[]=>[]
 | k,x::l=>if x=c then k::cm c (k+1) l else cm c (k+1) l
theorem eN {c x:UInt8} {k:Nat} {l:List UInt8} (h:x=c):cm c k (x::l)=k::cm c (k+1) l:=if_pos h
theorem d8 {c x:UInt8} {k:Nat} {l:List UInt8} (h:¬x=c):cm c k (x::l)=cm c (k+1) l:=if_neg h
theorem A2 (b:Array UInt8) (c:UInt8):Bytes.occurrences b #[c] 0 b.size=cm c 0 b.toList:=by
 delta Bytes.occurrences;rw [(show (List.range (b.size+1 - (0+(#[c]:Array UInt8).size))).map (· +0)=List.range b.size by simp)]
 have key:∀(l:List UInt8) (k:Nat) (acc:List Nat) (m:Nat),b.toList.drop k=l->m<=k->
   ∃m',(List.range' k l.length).foldl (fun (acc:List Nat×Nat) i=>if (decide (i>=acc.2) && (b.extract i (i+(#[c]:Array UInt8).size)== #[c]))=true then (i::acc.1,i+(#[c]:Array UInt8).size) else acc) (acc,m)=((cm c k l).reverse++acc,m'):=by
  intro l
  induction l with
  | nil=>intro k acc m _ _;exact ⟨m,rfl⟩
  | cons x l ih=>
   intro k acc m hd hm;rw [ba,List.range'_succ,List.foldl_cons]
   have hk:k<b.size:=by
    have:=aB List.length hd;simp at this;omega
   have hx:b.toList[k]? =some x:=by
    have:=aB (·[0]?) hd
    simpa using this
   have hd':b.toList.drop (k+1)=l:=by
    have:=aB List.tail hd
    simpa using this
   rw [B1 hk,hx]
   by_cases hxc:x=c
   ·have:(decide (k>=m) && (some x==some c))=true:=by grind
    simp only [this,if_true];refine dU (ih (k+1) (k::acc) (k+(#[c]:Array UInt8).size) hd' (by simp)) fun m' h=> ?_;exact ⟨m',by (refine ak h ?_;rw [eN hxc]);simp⟩
   ·have:(decide (k>=m) && (some x==some c))=false:=by grind
    simp only [this,Bool.false_eq_true,if_false];refine dU (ih (k+1) acc m hd' (by lia)) fun m' h=> ?_;exact ⟨m',by (refine ak h ?_;rw [d8 hxc])⟩
 obtain ⟨m',h⟩:=key b.toList 0 [] 0 rfl (av _);rw [<-List.range_eq_range'] at h;rw [(show b.toList.length=b.size by rfl)] at h;dsimp only;rw [h];grind
noncomputable def eH (c:UInt8):List UInt8->List (List UInt8)
 | []=>[[]]
 | x::r=>if x=c then []::eH c r else (match eH c r with | w::ws=>(x::w)::ws | []=>[[x]])
theorem iI {c x:UInt8} {l:List UInt8} (h:x=c):eH c (x::l)=[]::eH c l:=if_pos h
theorem fC {c x:UInt8} {l w:List UInt8} {ws:List (List UInt8)} (h:¬x=c) (e:eH c l=w::ws):eH c (x::l)=(x::w)::ws:=by
 refine ak (if_neg h) ?_;rw [e]
theorem mf (c:UInt8) (l:List UInt8):∃w ws,eH c l=w::ws:=by
 induction l with
 | nil=>exact ⟨[],[],rfl⟩
 | cons x l ih=>
  by_cases hx:x=c
  ·exact ⟨_,_,iI hx⟩
  ·exact oo ih fun w ws e=>⟨_,_,fC hx e⟩
theorem pA (b:Array UInt8) (c:UInt8):Bytes.between b 1 (cm c 0 b.toList)=(eH c b.toList).map List.toArray:=by
 have key:∀(l:List UInt8) (k m:Nat) (parts:Array (Array UInt8)),b.toList.drop k=l->m<=k->k<=b.size->
   ∀w ws,eH c l=w::ws->(let (ps,last):=(cm c k l).foldl (fun (x:Array (Array UInt8)×Nat) p=>(x.1.push (b.extract x.2 p),p+1)) (parts,m);(ps.push (b.extract last b.size)).toList)=parts.toList++(((b.toList.take k).drop m++w)::ws).map List.toArray:=by
  intro l
  induction l with
  | nil=>
   intro k m parts hd hm hk w ws hs;injection hs with h1 h2;subst h1;subst h2
   have hkl:k=b.size:=by
    have:=aB List.length hd;simp at this;lia
   show (parts.push (b.extract m b.size)).toList=_;simp only [Array.toList_push,aE,aR,List.map_nil]
   congr 2
   subst hkl;apply Array.ext';refine ak (Array.toList_extract ..) ?_;simp only [List.extract,aE,List.drop_take]
  | cons x l ih=>
   intro k m parts hd hm hk w ws hs
   have hk':k<b.size:=by
    have:=aB List.length hd;simp at this;lia
   have hx:b.toList[k]? =some x:=by
    have:=aB (·[0]?) hd
    simpa using this
   have hd':b.toList.drop (k+1)=l:=by
    have:=aB List.tail hd
    simpa using this
   refine oo (mf c l) fun w' ws' hs'=> ?_
   by_cases hxc:x=c
   ·rw [iI hxc] at hs;injection hs with h1 h2;subst h1;subst h2;rw [eN hxc];have:=ih (k+1) (k+1) (parts.push (b.extract m k)) hd' (av _) hk' w' ws' hs'
    (refine ak this ?_;rw [hs'])
    (rw [Array.toList_push];refine ak (aw ..) ?_;rw [aE])
    congr 1
    refine ak (List.singleton_append ..) ?_
    congr 1
    ·apply Array.ext';refine ak (Array.toList_extract ..) ?_;simp only [List.extract,aE,List.drop_take]
    ·congr 2
     rw [List.drop_eq_nil_of_le (by rw [aV];lia),List.nil_append]
   ·rw [fC hxc hs'] at hs;injection hs with h1 h2;subst h1;subst h2;rw [d8 hxc];have:=ih (k+1) m parts hd' (by exact Nat.le_succ_of_le ‹_›) hk' w' ws' hs';refine ak this ?_
    congr 2
    rw [List.take_add_one,hx,List.drop_append_of_le_length (by rw [aV];simp;lia)];simp
 refine oo (mf c b.toList) fun w ws hs=> ?_;have:=key b.toList 0 0 #[] rfl (av _) (aX _) w ws hs;rw [hs];exact this
theorem ft {c:Nat} {P:List Nat->List Nat->List (List Nat)->Prop} (h0:P [] [] []) (h1:∀l w ws,P l w ws->P (c::l) [] (w::ws)) (h2:∀x l w ws,x≠c->P l w ws->P (x::l) (x::w) ws) (l:List Nat):∃w ws,bn c l=w::ws/\P l w ws:=by
 induction l with
 | nil=>exact ⟨_,_,rfl,h0⟩
 | cons x l ih=>
  refine gU ih fun w ws e p=> ?_
  by_cases hx:x=c
  ·exact ⟨_,_,(if_pos hx).trans (aB _ e),hx▸h1 l w ws p⟩
  ·exact ⟨_,_,(if_neg hx).trans (by rw [e]),h2 x l w ws hx p⟩
theorem mr {l:List Nat} {c:Nat} (h:∀x∈l,x<256) (hc:c<256):eH (UInt8.ofNat c) (l.map UInt8.ofNat)=(bn c l).map (List.map UInt8.ofNat):=
 gU (ft (P:=fun l w ws=>(∀x∈l,x<256)->eH (UInt8.ofNat c) (l.map UInt8.ofNat)=(w::ws).map (List.map UInt8.ofNat)) (fun U=>rfl) (fun l w ws p h=>(iI rfl).trans (aB _ (p (aa.mp h).2)))
  (fun x l w ws hx p h=>fC (fun q=>hx ((kW (aa.mp h).1 hc).mp q)) (p (aa.mp h).2)) l) fun w ws e p=>bi e (p h)
theorem jG {l:List Nat} {c:Nat} (h:∀x∈l,x<256):∀w∈bn c l,∀x∈w,x<256:=
 gU (ft (P:=fun l w ws=>(∀x∈l,x<256)->∀v∈w::ws,∀x∈v,x<256) (fun U=>aa.mpr ⟨fun U=>fh,fun U=>fh⟩) (fun l w ws p h=>aa.mpr ⟨fun U=>fh,p (aa.mp h).2⟩)
  (fun x l w ws U p h=>aa.mpr ⟨aa.mpr ⟨(aa.mp h).1,(aa.mp (p (aa.mp h).2)).1⟩,(aa.mp (p (aa.mp h).2)).2⟩) l) fun w ws e p=>bi e (p h)
theorem pU {c:Nat} (l:List Nat):(bn c l).length<=l.length+1:=
 gU (ft (P:=fun l U ws=>ws.length<=l.length) (av _) (fun U U U=>aO) (fun U U U U U=>Nat.le_succ_of_le) l) fun w ws e p=>bi e (aO p)
theorem nL {c:Nat} (l:List Nat):∀w∈bn c l,w.length<=l.length:=
 gU (ft (P:=fun l w ws=>∀v∈w::ws,v.length<=l.length) (aa.mpr ⟨av _,fun U=>fh⟩) (fun l w ws p=>aa.mpr ⟨aX _,fun v hv=>Nat.le_succ_of_le (p v hv)⟩)
  (fun x l w ws U p=>aa.mpr ⟨aO (p w (.head _)),fun v hv=>Nat.le_succ_of_le (p v (.tail _ hv))⟩) l) fun w ws e p=>bi e p
theorem ro {c:UInt8} {l:List UInt8}:∀{k:Nat},cm c k l=[]->eH c l=[l]:=by
 induction l with
 | nil=>exact fun U=>rfl
 | cons x l ih=>
  intro k
  by_cases hx:x=c
  ·rw [eN hx];exact fun h=>qm h
  ·rw [d8 hx];exact fun h=>fC hx (ih h)
theorem w7 {c:UInt8} (l:List UInt8):∀(k:Nat),(cm c k l).length<=l.length:=by
 induction l with
 | nil=>exact fun U=>av _
 | cons x l ih=>
  intro k
  by_cases hx:x=c
  ·rw [eN hx];exact aO (ih _)
  ·rw [d8 hx];exact Nat.le_succ_of_le (ih _)
section
variable {T:cK} {Y:be} {s:Shared} {A:Around} {K E:Value->Shared->Prop} {Q:KV}
theorem zg {M:Model} {bs:List (Array UInt8)}:∀{s:Shared} {Q:List Value->Shared->Prop},(∀b∈bs,b.size<=sizeLine)->(∀ts tk,ts.length=bs.length->Q ((bs.zip ts).map fun p=>Value.bytes p.1 p.2) {s with toks:=tk})->wpAny M A (bs.mapM Bytes.Kind.bytes.new) Q E s:=by
 have key:∀(bs:List (Array UInt8)) {s:Shared} {Q:List Value->Shared->Prop},(∀b∈bs,b.size<=sizeLine)->(∀ts tk,ts.length=bs.length->Q ((bs.zip ts).map fun p=>Value.bytes p.1 p.2) {s with toks:=tk})->wpAny M A (bs.mapM Bytes.Kind.bytes.new) Q E s:=by
  intro bs
  induction bs with
  | nil=>intro s Q _ h;refine AC (List.mapM_nil ..) ?_;exact am (h [] s.toks rfl)
  | cons b bs ih=>
   intro s Q hb h;refine AC (List.mapM_cons ..) (ae (wpAny_mkBytes ?_ (hb b (.head _))));refine ae (ih (fun x hx=>hb x (.tail _ hx)) (fun ts tk ht=>am ?_));exact h (s.toks::ts) tk (by simp [ht])
 intro s Q;exact key bs
theorem z4 {l:List Nat} {n:Nat} {t u:Tok} (st:St T Y s.heap) (hb:∀x∈l,x<256) (hn:n<256) (hl:l.length<16777216) (q:Q (.lst ((bn n l).map V.bytes)) Y) (k:Kv T Y s Q K):wpAny (model T.prog T.w) A (PySem.call (.builtin "bytes.split") [.bytes (bG l) t, .bytes #[UInt8.ofNat n] u]) K E s:=by
   refine wpAny_call_entry BF.slot_split (typeIs_bytes s _ t) BF.entry_split ?_ (BF.args_split _ _);have hsz:(bG l).size=l.length:=by simp [bG]
   have htl:(bG l).toList=l.map UInt8.ofNat:=by rfl
   show wpAny _ _ (Bytes.splitM .bytes "split" false ⟨[.bytes (bG l) t, .bytes #[UInt8.ofNat n] u],[]⟩) _ _ s;delta Bytes.splitM;refine ae (wpAny_of_eq (a:=[some (.bytes #[UInt8.ofNat n] u),none]) rfl ?_);refine ae (am ?_);refine ae (wpAny_of_eq (a:=bG l) rfl ?_);dsimp only;delta Bytes.bytesLike;refine ae (ae (wpAny_of_eq KBy.buffer_eq (am ?_)));refine nV (by simp) ?_
   have hpl:(if false=true then Bytes.occurrencesFromRight (bG l) #[UInt8.ofNat n] (if (-1:Int)<0 then (bG l).size+1 else (-1:Int).toNat) else (Bytes.occurrences (bG l) #[UInt8.ofNat n] 0 (bG l).size).take (if (-1:Int)<0 then (bG l).size+1 else (-1:Int).toNat))=cm (UInt8.ofNat n) 0 (bG l).toList:=by
    rw [if_neg (by decide),A2,List.take_of_length_le];have:=w7 (c:=UInt8.ofNat n) (bG l).toList 0;simp at this ⊢;exact Nat.le_succ_of_le ‹_›
   have slen:(bn n l).length<=sizeLine:=by have:=pU (c:=n) l;simp;exact aj ‹_› ‹_›
   have main:∀(vs:List Value) (tk:Nat),VRs (G Y s.heap) ((bn n l).map V.bytes) vs->K (.ref s.heap.objs.size) {s with heap:=s.heap.push {cls:= .type "list",data:= .seq vs.toArray},toks:=tk}:=
    fun vs tk hv=>k.newL (m:=false) st tk (bA _ _) (av _) (aF _ rfl) hv (bx (by rw [ah];exact slen) q)
   rw [hpl]
   cases hp:cm (UInt8.ofNat n) 0 (bG l).toList with
   | nil=>
    refine qQ rfl ?_;have e1:=ro hp;rw [htl,mr hb hn] at e1
    have e2:bn n l=[l]:=by
     have:=jG (c:=n) hb
     match hq:bn n l,e1 with
     | [w],e1=>
      simp only [aR,List.map_nil,List.cons.injEq,and_true] at e1;rw [hq] at this;rw [ofNat_inj (this w (.head _)) hb e1]
     | [],e1=>simp at e1
     | U::z1::z2,e1=>simp at e1
    refine ae (wpAny_rule ?_);refine ae ?_;delta Bytes.Kind.same;refine qQ (by decide) (ae (wpAny_typeOf (typeIs_bytes _ _ _) ?_));refine qQ (by decide) (gv fun Q1z E1z hQ1z hE1z=> ?_);refine am (hQ1z _ _ ?_);refine ae (wpAny_newList (am ⟨_,rfl, ?_⟩) (by simp [sizeLine]));refine main [.bytes (bG l) t] s.toks ?_;rw [e2];exact ⟨⟨t,rfl,hb⟩,rfl⟩
   | cons p ps=>
    simp only [List.isEmpty_cons,Bool.false_eq_true,if_false];rw [<-hp]
    have e:Bytes.between (bG l) (#[UInt8.ofNat n]:Array UInt8).size (cm (UInt8.ofNat n) 0 (bG l).toList)=(bn n l).map bG:=by
     show Bytes.between (bG l) 1 _=_
     (rw [pA,mr hb hn];refine ak (List.map_map ..) ?_);rfl
    rw [e];refine ae (zg (fun b hb'=> ?_) (fun ts tk ht=> ?_))
    ·obtain ⟨w,hw,rfl⟩:=aN.mp hb';have:=nL l w hw;simp [bG,sizeLine];lia
    ·refine ae (wpAny_newList (am ⟨_,rfl, ?_⟩) (by simp [ht];exact slen));refine main _ tk ?_
     have gen:∀(ws:List (List Nat)) (ts:List Tok),ts.length=ws.length->(∀w∈ws,∀x∈w,x<256)->VRs (G Y s.heap) (ws.map V.bytes) (((ws.map bG).zip ts).map fun p=>Value.bytes p.1 p.2):=by
      intro ws
      induction ws with
      | nil=>intro ts _ _;rfl
      | cons w ws ih=>
       intro ts ht hw
       cases ts with
       | nil=>cases ht
       | cons t ts=>exact ⟨⟨t,rfl,hw w (.head _)⟩,ih ts (by simpa using ht) fun x hx=>hw x (.tail _ hx)⟩
     exact gen _ ts (by simpa using ht) (jG hb)
end
theorem Cb {b:Array UInt8} {t:Tok} {id:String}:Bytes.takeBuffer? id (.bytes b t) 0=pure (some (b,none)):=by
 kernel_rfl
theorem xY {b:Array UInt8} {t:Tok} {id:String}:Bytes.takeBufferQuiet? id (.bytes b t) 0=pure (some (b,none)):=by
 delta Bytes.takeBufferQuiet?;rw [Cb];rfl
theorem dY {α:Type} {f:V->Option α} {v:V} {r:List V} {l:List α} (h:cz f (v::r)=some l):∃a l',f v=some a/\cz f r=some l'/\l=a::l':=
 bu (aK.mp h) fun a e1 h=>bu (aL.mp h) fun l' e2 e=>⟨a,l',e1,e2,e.symm⟩
@[elab_as_elim] theorem VRs.all {α:Type} {f:V->Option α} {G:Wd} {motive:List Value->List α->Prop} (h0:motive [] []) (h1:∀{d v a vs as},f d=some a->VR G d v->motive vs as->motive (v::vs) (a::as)) {ds:List V} {vs:List Value} {as:List α} (r:VRs G ds vs) (e:cz f ds=some as):motive vs as:=
 r.ind (motive:=fun ds vs=>∀as,cz f ds=some as->motive vs as) (fun U e=>bW e▸h0) (fun hd U ih U e=>eJ (dY e) fun U l e1 e2 e3=>bi e3 (h1 e1 hd (ih l e2))) as e
theorem wD {G:Wd} {ds:List V} {vs:List Value} {bs:List (List Nat)} (r:VRs G ds vs) (e:cz fv ds=some bs):vs.length=bs.length/\(∀j,j<bs.length->∃t,vs.toArray.getD j .none= .bytes (bG (bs.getD j [])) t)/\∀b∈bs,∀x∈b,x<256:=by
 refine r.all ⟨rfl,fun U=>C6,fun U=>fh⟩ (fun {d v a vs as} e r ih=> ?_) e;refine bu (nr e▸r:VR G (.bytes a) v) fun t q hb=>⟨aB (· +1) ih.1,fun j hj=> ?_,aa.mpr ⟨hb,ih.2.2⟩⟩
 cases j with
 | zero=>exact ⟨t,q⟩
 | succ j=>exact (ih.2.1 j (Nat.lt_of_succ_lt_succ hj)).imp fun u hu=>by simpa using hu
theorem sq {G:Wd} {d:V} {v:Value} {l:List Nat} (h:lM d=some l) (r:VR G d v):∃t,v= .str ⟨l.toArray⟩ t/\∀x∈l,x<1114112:=
 vS (f:=fun l'=>l'=l) (by rw [h];rfl) r fun l' t U hb e=>e▸⟨t,rfl,hb⟩
theorem zt {G:Wd} {ds:List V} {vs:List Value} {bs:List (List Nat)} (r:VRs G ds vs) (e:cz lM ds=some bs):∃l:List (Str×Tok),vs=strValues l/\l.map (·.1)=bs.map (fun b=>(⟨b.toArray⟩:Str))/\∀b∈bs,∀x∈b,x<1114112:=
 r.all ⟨[],rfl,rfl,fun U=>fh⟩ (fun {d v a vs as} e r ih=>gw ih fun l t1 t2 t3=>bu (rA e▸r:VR G (.str a) v) fun t q hb=>⟨(⟨a.toArray⟩,t)::l,by rw [q,t1];rfl,aB (_:: ·) t2,aa.mpr ⟨hb,t3⟩⟩) e
theorem lx {p:Nat->Prop} {sep:List Nat} (hs:∀x∈sep,p x) {bs:List (List Nat)} (h:∀b∈bs,∀x∈b,p x):∀x∈bk sep bs,p x:=by
 induction bs with
 | nil=>exact fun U=>fh
 | cons b r ih=>
  have h:=aa.mp h
  cases r with
  | nil=>exact h.1
  | cons c r=>exact fun x hx=>(aD.mp (show x∈b++sep++bk sep (c::r) from hx)).elim (fun hx=>(aD.mp hx).elim (h.1 x) (hs x)) (ih h.2 x)
theorem jK {sep b c:List Nat} {r:List (List Nat)}:bk sep (b::c::r)=b++sep++bk sep (c::r):=rfl
theorem wu (sep:List Nat) (bs:List (List Nat)):Bytes.joined (bG sep) (bs.map bG)=bG (bk sep bs):=by
 have app:∀a b:List Nat,bG a++bG b=bG (a++b):=fun a b=>by simp [bG]
 have key:∀(bs:List (List Nat)) (k:Nat) (acc:List Nat),0<k->((bs.map bG).zipIdx k).foldl (fun (out:Array UInt8) (x:Array UInt8×Nat)=>(if x.2>0 then out++bG sep else out)++x.1) (bG acc)=bG (acc++(bs.map fun b=>sep++b).flatten):=by
  intro bs
  induction bs with
  | nil=>intro k acc _;simp
  | cons b bs ih=>
   intro k acc hk
   (rw [aR];refine ak (List.foldl_cons ..) ?_)
   have:(if k>0 then bG acc++bG sep else bG acc)++bG b=bG (acc++sep++b):=by rw [if_pos hk,app,app]
   (rw [show ((if ((bG b,k):Array UInt8×Nat).2>0 then bG acc++bG sep else bG acc)++((bG b,k):Array UInt8×Nat).1)=bG (acc++sep++b) from this];refine ak (ih (k+1) _ (by exact Nat.succ_pos _)) ?_)
   simp
 have flat:∀(b:List Nat) (bs:List (List Nat)),bk sep (b::bs)=b++(bs.map fun b=>sep++b).flatten:=by
  intro b bs
  induction bs generalizing b with
  | nil=>exact (aE b).symm
  | cons c bs ih=>rw [jK,ih c];simp
 delta Bytes.joined
 cases bs with
 | nil=>rfl
 | cons b bs=>
  (rw [aR];refine ak (List.foldl_cons ..) ?_;rw [flat])
  have e0:((if ((bG b,0):Array UInt8×Nat).2>0 then (#[]:Array UInt8)++bG sep else #[])++((bG b,0):Array UInt8×Nat).1)=bG b:=by simp
  have:=key bs 1 b (by decide);rw [<-this]
  congr 1
theorem rL (sep:List Nat) (bs:List (List Nat)):(bk sep bs).length=(bs.map List.length).sum+sep.length*(bs.length - 1):=by
 have flat:∀(b:List Nat) (bs:List (List Nat)),(bk sep (b::bs)).length=b.length+((bs.map List.length).sum+sep.length*bs.length):=by
  intro b bs
  induction bs generalizing b with
  | nil=>rfl
  | cons c bs ih=>(rw [jK];refine ak (ai ..) ?_;rw [ih c]);simp [Nat.mul_add];lia
 cases bs with
 | nil=>rfl
 | cons b bs=>rw [flat];simp;exact (Nat.add_assoc _ _ _).symm
section
variable {T:cK} {Y:be} {s:Shared} {A:Around} {K E:Value->Shared->Prop} {Q:KV}
theorem ie {prog:Program} {w:World} (taken:List (Value×Option Value)):∀(keep:List Value) {s:Shared} {Q:Unit->Shared->Prop},(∀x∈taken,x.2=none)->Q () s->wpAny (model prog w) A (Bytes.joinLetGo taken keep) Q E s:=by
 induction taken with
 | nil=>exact fun U U U U h=>am h
 | cons x r ih=>
  intro keep s Q hn h;have hn:=aa.mp hn;obtain ⟨x,u⟩:=x;have e:u=none:=hn.1;subst e;exact ae (wpAny_letGo (ih keep hn.2 h))
theorem zL {x:Addr} {sep:List Nat} {t:Tok} {vs:List Value} {ds:List V} {bs:List (List Nat)} {n:Nat} (st:St T Y s.heap) (hs:∀x∈sep,x<256) (ho:s.heap.get? x=some (ey "list" vs n)) (hv:VRs (G Y s.heap) ds vs) (hb:cz fv ds=some bs) (hz:(bk sep bs).length<=16777216) (q:Q (.bytes (bk sep bs)) Y) (k:Kv T Y s Q K):wpAny (model T.prog T.w) A (PySem.call (.builtin "bytes.join") [.bytes (bG sep) t, .ref x]) K E s:=by
 refine lL (wD hv hb) fun bl at' t3=> ?_;have out:∀tk tk',K (.bytes (bG (bk sep bs)) tk') {s with toks:=tk}:=fun tk tk'=>k.bytes st tk (lx hs t3) q;clear k q hv hb;rcases vs with U | ⟨x1,U | ⟨x2,xr⟩⟩
 all_goals
  refine wpAny_call_entry BF.slot_join (typeIs_bytes s _ t) BF.entry_join ?_ (BF.args_join _ _);refine ae (wpAny_of_eq (a:=(Value.bytes (bG sep) t,Value.ref x)) rfl ?_);refine ae (ae (wpAny_typeOf (⟨_,ho,rfl⟩) ?_));refine am (ae (wpAny_seqItems ho rfl ?_))
 ·match bs,bl with
  | [],U=>
   refine ae ?_;rw [Std.Legacy.Range.forIn_eq_forIn_range'];refine am (ae (wpAny_of_eq (a:=bG sep) rfl ?_));refine ae (wpAny_mkBytes ?_ (aX _));exact ae (aH (wpAny_point (ae (ie [] _ (fun U h=>fh h) (am ⟨_,rfl,out _ _⟩)))))
 ·show wpAny _ _ (typeOf x1>>=_) _ _ _
  match bs,bl with
  | [b1],U=>
   refine dU (at' 0 (Nat.zero_lt_one)) fun t' ht'=> ?_;subst ht';refine ae (wpAny_typeOf (typeIs_bytes _ _ _) ?_);exact ae (wpAny_rule (am ⟨_,rfl,out s.toks t'⟩))
 ·show wpAny _ _ (forIn _ _ _>>=_) _ _ _;refine ae ?_;rw [Std.Legacy.Range.forIn_eq_forIn_range'];refine gv fun Q1z E1z hQ1z hE1z=> ?_;refine wpAny_forIn_list _ (fun rest st s'=>∃j,j<=bs.length/\rest=List.range' j (bs.length - j) 1/\st.1.toList=(bs.take j).map bG/\(∀y∈st.2,y.2=none/\y.1.onHeap=false)/\s'=s) _ ?_ ?_ _ _ ⟨0,aX _,by rw [<-bl];simp,by rfl,fun U h=>(fh h),rfl⟩
  ·intro i rest zp1 s' h;obtain ⟨parts,taken⟩:=zp1;refine cr fun hn=> ?_;obtain ⟨j,hj,hr,hp,ht,rfl⟩:=h;have hjl:j<bs.length:=Nat.lt_of_le_of_ne hj fun q=>by rw [q,Nat.sub_self] at hr;exact qm hr
   rw [show bs.length - j=(bs.length - (j+1))+1 from (Nat.succ_pred_eq_of_pos (Nat.sub_pos_of_lt hjl)).symm] at hr;injection hr with hr1 hr2;subst hr1;obtain ⟨t',ht'⟩:=at' i hjl;have hany:(taken.any fun x=>x.1.onHeap)=false:=List.any_eq_false.mpr fun y hy=>by rw [(ht y hy).2];exact Bool.false_ne_true
   refine hn (ae (wpAny_seqItems ho rfl (nV (fun q=>Bool.false_ne_true (hany.symm.trans q)) ?_)));refine ae (aH (wpAny_of_eq ((aB (Bytes.takeBufferQuiet? _ · 0) ht').trans xY) ?_));refine ae (wpAny_seqItems ho rfl (nV (Bool.eq_false_iff.mp (bne_self_eq_false _)) ?_));refine am ⟨i+1,hjl,hr2, ?_,fun y hy=> ?_,rfl⟩
   ·rw [Array.toList_push,hp,List.take_add_one,List.getD_eq_getElem?_getD,an hjl,aJ];rfl
   ·rcases aD.mp hy with hy | hy
    ·exact ht y hy
    ·rw [ao.mp hy];exact ⟨rfl,aB Value.onHeap ht'⟩
  ·intro zp1 s' h;obtain ⟨parts,taken⟩:=zp1;obtain ⟨j,hj,hr,hp,ht,rfl⟩:=h;have hje:bs.length<=j:=Nat.le_of_not_lt fun h=>by rw [show bs.length - j=(bs.length - (j+1))+1 from (Nat.succ_pred_eq_of_pos (Nat.sub_pos_of_lt h)).symm] at hr;exact B5 hr
   rw [List.take_of_length_le hje] at hp;refine hQ1z _ _ (ae (wpAny_of_eq (a:=bG sep) rfl ?_))
   have hsz:parts.foldl (fun x1 x2=>x1+x2.size) ((bG sep).size*(parts.size - 1))=(bk sep bs).length:=by
    rw [<-Array.foldl_toList,hp,(show parts.size=bs.length by rw [<-Array.length_toList,hp,ah]),rL,show (bG sep).size=sep.length by simp]
    have:∀(l:List (List Nat)) (a:Nat),(l.map bG).foldl (fun x1 x2=>x1+x2.size) a=a+(l.map List.length).sum:=by
     intro l
     induction l with
     | nil=>intro a;rfl
     | cons b l ih=>intro a;rw [aR,List.foldl_cons,ih,aR,List.sum_cons,aI,ah,Nat.add_assoc]
    rw [this,Nat.add_comm]
   rw [if_neg (by rw [hsz,KBy.tooLong_not hz];decide),hp,wu];refine ae (wpAny_mkBytes ?_ (by rw [aI,ah];exact hz));exact ae (aH (wpAny_point (ae (ie _ _ (fun y hy=>(ht y hy).1) (am ⟨_,rfl,out _ _⟩)))))
theorem zD (sep:Str) (l:List Str):Txt.join sep l=Str.join sep l:=StrLaws.glued_eq_join ..
theorem sR (a b:List Nat):(⟨a.toArray⟩:Str)++(⟨b.toArray⟩:Str)=⟨(a++b).toArray⟩:=aB Str.mk (List.append_toArray ..)
theorem pP (sep:List Nat) (bs:List (List Nat)):Str.join ⟨sep.toArray⟩ (bs.map fun b=>(⟨b.toArray⟩:Str))=⟨(bk sep bs).toArray⟩:=by
 induction bs with
 | nil=>rfl
 | cons b r ih=>
  cases r with
  | nil=>rfl
  | cons c r=>
   show _++_++Str.join _ (List.map _ (c::r))=_;rw [ih,sR,sR];rfl
theorem zH {x:Addr} {sep:List Nat} {t:Tok} {vs:List Value} {ds:List V} {bs:List (List Nat)} {n:Nat} (st:St T Y s.heap) (hs:∀x∈sep,x<1114112) (ho:s.heap.get? x=some (ey "list" vs n)) (hv:VRs (G Y s.heap) ds vs) (hb:cz lM ds=some bs) (hz:(bs.map List.length).sum+bs.length*sep.length<=16777216) (q:Q (.str (bk sep bs)) Y) (k:Kv T Y s Q K):wpAny (model T.prog T.w) A (PySem.call (.builtin "str.join") [.str ⟨sep.toArray⟩ t, .ref x]) K E s:=by
 refine gw (zt hv hb) fun l y1 hm t3=> ?_;subst y1;refine (SC.join ⟨_,ho,rfl,_,rfl⟩ hm ?_ (fun t' kk=> ?_))
 ·delta JoinOk
  have key:∀(l:List (List Nat)) (acc:Nat),((l.map fun b=>(⟨b.toArray⟩:Str)).toArray.foldl (fun x1 x2=>x1+x2.length+(⟨sep.toArray⟩:Str).length) acc)=acc+(l.map List.length).sum+l.length*sep.length:=by
   intro l
   induction l with
   | nil=>intro acc;simp
   | cons c l ih=>
    intro acc;simp only [<-Array.foldl_toList,aR,List.foldl_cons] at ih ⊢;rw [ih];simp only [List.sum_cons,ba,Str.length,aI,Nat.add_mul];lia
  rw [key];simp [Builtin.Str.tooLong,sizeLine]
  assumption
 ·rw [zD,pP];exact k.str st _ (lx hs t3) q
end
theorem kn {α:Type} (l:List α):l.eraseIdx (l.length - 1)=l.dropLast:=by
 induction l with
 | nil=>rfl
 | cons a t ih=>
  cases t with
  | nil=>rfl
  | cons b t=>exact aB (a:: ·) ih
theorem lq (y:Expr) (o i:Value):∃ops,subscripted y false o i=operate ops (getItem o i):=by
 cases y with
 | Slice a b c=>cases c<;>exact ⟨_,rfl⟩
 | _=>exact ⟨_,rfl⟩
section
variable {T:cK} {Y:be} {s:Shared} {A:Around} {K E:Value->Shared->Prop} {Q X:KV} {Γ:dW} {lv:Nat} {h':Heap}
theorem dA {prog:Program} {w:World} {x y:Expr} {o i:Value} {T id:String} (hT:s.TypeIs o T) (hl:typeLookup (.type T) "__getitem__" =pure (some (.builtin id))) (h:wpAny (model prog w) A (getItem o i) K E s):wpAny (model prog w) A (subscriptTail x y o i) K E s:=by
 refine ae (ae (wpAny_specialOf hT hl ?_));obtain ⟨ops,hs⟩:=lq y o i
 have fin:wpAny (model prog w) A (subscripted y false o i) (fun r IM=>wpAny (model prog w) A (letTemporaryGo x o r>>=fun U=>pure r) K E IM) E s:=by
  exact AC hs (wpAny_operating (wpAny_mono h (fun r IM H1=>ae (wpAny_letTemporaryGo (am H1))) fun U U x=>x))
 first
  | exact am (ae fin)
  | exact ae (am (ae fin))
  | exact ae fin
theorem gX {i:Int} {n k:Nat} (h:dk i n=some k):(0<=i/\i.toNat=k/\k<n)\/(i<0/\0<=(n:Int)+i/\((n:Int)+i).toNat=k):=by
 delta dk at h
 split at h
 ·split at h
  ·injection h with h;subst h;exact .inl ⟨‹_›,rfl,‹_›⟩
  ·exact bZ h
 ·split at h
  ·have h:=bW h;exact .inr ⟨by exact Int.not_le.mp ‹_›,‹_›,h⟩
  ·exact bZ h
theorem zd {i:Int} {n k:Nat} (h:dk i n=some k):seqIndex? i n=some k/\k<n:=by
 delta seqIndex?;rcases gX h with ⟨a,b,c⟩ | ⟨a,b,c⟩
 ·have e:i<n:=by lia
  exact ⟨by simp [show ¬i<0 by lia,e,a,b],c⟩
 ·have e1:i+(n:Int)=n+i:=Int.add_comm _ _;exact ⟨by grind,by omega⟩
theorem jZ {i:Int} {n k:Nat} (h:dk i n=some k) (hn:n<=16777216): -(2 ^ 63)<=i/\i<2 ^ 63:=by
 rcases gX h with ⟨a,b,c⟩ | ⟨a,b,c⟩<;>lia
theorem wY {a:Addr} {vs:List Value} {n:Nat} {i:Int} {u:Tok} {k:Nat} {w:Value} (ho:s.heap.get? a=some (ey "list" vs n)) (hl:vs.length<=16777216) (hk:dk i vs.length=some k) (hw:vs[k]? =some w) (q:K w s):wpAny (model T.prog T.w) A (getItem (.ref a) (.int i u)) K E s:=by
 obtain ⟨f1,f2⟩:=jZ hk hl;have hl':s.heap.IsList a vs.toArray:=⟨_,ho,rfl,_,rfl⟩;rcases gX hk with ⟨h0,e,U⟩ | ⟨h0,h1,e⟩
 ·exact wpAny_getItem_list hl' h0 f2 (by rw [e];exact (List.getElem?_toArray ..).trans hw) q
 ·exact wpAny_getItem_list_neg hl' h0 (by rw [aI];lia) f1 (by rw [aI,Int.add_comm,e];exact (List.getElem?_toArray ..).trans hw) q
theorem Bb {l:List V} {i:Int} {u:Tok} {d dx:V} {v:Value} {m:Nat} {x y:Expr} (st:St T Y s.heap) (hv:VR (G Y s.heap) d v) (e:cI d Y=some l) (hl:l.length<=16777216) (hm:dk i l.length=some m) (hdx:l[m]? =some dx) (q:Q dx Y) (k:Kv T Y s Q K):wpAny (model T.prog T.w) A (subscriptTail x y v (.int i u)) K E s:=by
 refine cr fun hn=> ?_;obtain ⟨b,c,ws,n,rfl,ho,hc,hws⟩:=fW st hv e;refine bu (hws.get hdx) fun w w1 w2=>(hn ?_);have kk:=k.same0 st w2 q;rw [<-hws.length] at hm hl;rcases hc with ⟨rfl,U⟩ | ⟨rfl,U⟩
 ·obtain ⟨f1,f2⟩:=jZ hm hl;exact dA ⟨_,ho,rfl⟩ F.slot_tuple_getitem.lookup (P.getItem_tuple ho f1 f2 (by rw [aI];exact (zd hm).1) ((List.getElem?_toArray ..).trans w1) kk)
 ·exact dA ⟨_,ho,rfl⟩ slot_list_getitem.lookup (wY ho hl hm w1 kk)
theorem BE {l:List Nat} {i:Int} {t u:Tok} {m:Nat} {x y:Expr} (st:St T Y s.heap) (hb:∀x∈l,x<1114112) (hl:l.length<=16777216) (hm:dk i l.length=some m) (q:Q (.str [l.getD m 0]) Y) (k:Kv T Y s Q K):wpAny (model T.prog T.w) A (subscriptTail x y (.str ⟨l.toArray⟩ t) (.int i u)) K E s:=by
 obtain ⟨f1,f2⟩:=jZ hm hl;obtain ⟨g1,g2⟩:=zd hm;refine (dA (T:= "str") (typeIs_str _ _ _) F.slot_str_getitem.lookup (getItem_str ?_ ?_ (k.str st _ (fun z hz=> ?_) q)))
 ·rw [aT];lia
 ·show (seqIndex? i l.toArray.size).bind (l.toArray[·]?)=_;rw [aI,g1];simp [g2]
 ·rw [ao.mp hz,List.getD_eq_getElem?_getD,an g2];exact hb _ (List.getElem_mem g2)
theorem eZ (st:St T Y s.heap) {a:Addr} {l:List V} (e:Y a=some (.list l)):∃vs n,s.heap.get? a=some (ey "list" vs n)/\VRs (G Y s.heap) l vs:=by
 refine cr fun hn=> ?_;obtain ⟨U,o,ho,vs,n,rfl,hv⟩:=st.sto a _ e;exact hn ⟨vs,n,ho,hv⟩
theorem Kv.updList (k:Kv T Y s Q K) (st:St T Y s.heap) {a:Addr} {l l':List V} (e:Y a=some (.list l)) {vs':List Value} {n tk:Nat} {v:Value} {d:V} (hs:Heap.SameBut a s.heap h') (ha:h'.get? a=some (ey "list" vs' n)) (hv:VRs (G Y s.heap) l' vs') (hr:VR (G Y s.heap) d v) (q:Q d (Y.set a (.list l'))):K v (put s h' tk):=
 have t:To T Nl Y s.heap (Y.set a (.list l')) h':= .upd st e (fun h=>nomatch h) (fun b o hb q=>hs.extBut b o hb q) ha ⟨vs',n,rfl,hv⟩
 k v d _ h' tk t (hr.mono t.gle) q
theorem iV {l:Addr} {f:Array Value->Array Value} {its:Array Value} {n:Nat} (ho:s.heap.get? l=some {cls:= .type "list",data:= .seq its n}):
  ∃n',(s.heap.update l (Obj.mapSeq f)).get? l=some {cls:= .type "list",data:= .seq (f its) n'}/\Heap.SameBut l s.heap (s.heap.update l (Obj.mapSeq f)):=
 ⟨_,Heap.get?_update_self _ ho rfl,Heap.SameBut.update ..⟩
theorem xh {x:Value} {a:Addr} {d:V} {l:List V} (st:St T Y s.heap) (hx:VR (G Y s.heap) d x) (e:Y a=some (.list l)) (hl:l.length<16777216) (q:Q .none (Y.set a (.list (l++[d])))) (k:Kv T Y s Q K):wpAny (model T.prog T.w) A (PySem.call (.builtin "list.append") [.ref a,x]) K E s:=by
 refine gU (eZ st e) fun vs n ho hvs=> ?_;refine (wpAny_list_append_plain ⟨n,ho⟩ (fun h' hp hs=> ?_) (by rw [aI,hvs.length];exact a6 hl));refine dU hp fun n' hp=> ?_;exact k.updList (d:= .none) st e hs (by (refine ak hp ?_;rw [List.push_toArray])) (hvs.append (.one hx)) rfl q
theorem Ez {a:Addr} {l:List V} (st:St T Y s.heap) (e:Y a=some (.list l)) (hl:l.length<=16777216) (hne:l≠[]) (q:Q (l.getLast hne) (Y.set a (.list l.dropLast))) (k:Kv T Y s Q K):wpAny (model T.prog T.w) A (PySem.call (.builtin "list.pop") [.ref a]) K E s:=by
 refine gU (eZ st e) fun vs n ho hvs=> ?_;have hlen:=hvs.length;refine bu (hvs.get (d:=l.getLast hne) (by rw [List.getLast_eq_getElem,an])) fun y hy hyr=> ?_;refine (call_meets F.slot_list_pop ⟨_,ho,rfl⟩ F.entry_list_pop (F.args_list_pop_1 _) (MeetsSeq.list_pop_last a vs.toArray n y (by rw [aI,hlen];exact (List.getElem?_toArray ..).trans hy) (by rw [aI,hlen];exact hl)) ⟨ho, ?_⟩);obtain ⟨n',hp,hs⟩:=iV ho
 have harr:vs.toArray.eraseIdxIfInBounds (vs.toArray.size - 1)=vs.dropLast.toArray:=by
  apply Array.ext'
  (refine ak (Array.toList_eraseIdxIfInBounds ..) ?_;rw [aI])
  exact kn vs
 exact k.updList st e hs (by (refine ak hp ?_;rw [harr])) hvs.dropLast hyr q
theorem xa {x:Value} {a:Addr} {d:V} {l r:List V} (st:St T Y s.heap) (hx:VR (G Y s.heap) d x) (e:Y a=some (.list l)) (e2:cI d Y=some r) (hl:l.length+r.length<=16777216) (q:Q .none (Y.set a (.list (l++r)))) (k:Kv T Y s Q K):wpAny (model T.prog T.w) A (PySem.call (.builtin "list.extend") [.ref a,x]) K E s:=by
 refine gU (eZ st e) fun vs n ho hvs=> ?_;obtain ⟨b,c,ws,n2,rfl,ho2,hc,hws⟩:=fW st hx e2;have hz:vs.toArray.size+ws.toArray.size<=sizeLine:=lines hl hvs hws
 have door:¬(!vs.toArray.isEmpty && Builtin.List.listTooLong (vs.toArray.size+ws.toArray.size))=true:=by
  rw [show Builtin.List.listTooLong (vs.toArray.size+ws.toArray.size)=false by simpa [Builtin.List.listTooLong] using hz,Bool.and_false];decide
 have z1:vs.toArray.size<=sizeLine:=aj (aP _ _) hz;have z2:vs.toArray.size+ws.toArray.size<=sizeLine+1:=Nat.le_succ_of_le hz;obtain ⟨n',hp,hs⟩:=iV ho
 have fin:wants K E (.ok (.ret Value.none)) {s with heap:=s.heap.update a (Obj.mapSeq fun xs=>xs++ws.toArray)}:=
  k.updList (d:= .none) st e hs (by (refine ak hp ?_;rw [List.append_toArray])) (hvs.append hws) rfl q
 rcases hc with ⟨rfl,U⟩ | ⟨rfl,U⟩
 ·exact call_meets F.slot_list_extend ⟨_,ho,rfl⟩ F.entry_list_extend (F.args_list_extend_2 _ _) (AutoSeq1.list_extend_list_tuple_0 a vs.toArray n b ws.toArray n2 door z1 z2) ⟨ho,ho2,fin⟩
 ·exact call_meets F.slot_list_extend ⟨_,ho,rfl⟩ F.entry_list_extend (F.args_list_extend_2 _ _) (AutoSeq1.list_extend_list_list_0 a vs.toArray n b ws.toArray n2 door z1 z2) ⟨ho,ho2,fin⟩
theorem rW {p:V->Bool} {l:List V}:∀{k:Nat},dR p l=some k->∃d,l[k]? =some d/\p d=true/\∀m d,m<k->l[m]? =some d->p d=false:=by
 induction l with
 | nil=>exact fun h=>bZ h
 | cons a l ih=>
  intro k h
  by_cases hp:p a=true
  ·exact bW ((if_pos hp:dR p (a::l)=some 0).symm.trans h)▸⟨a,rfl,hp,fun m d=>C6⟩
  ·refine bu (aL.mp ((if_neg hp:dR p (a::l)=(dR p l).map (· +1)).symm.trans h)) fun k' h1 e=>gw (ih h1) fun d h2 h3 h4=>(e▸⟨d,h2,h3,fun m d' hm hd=> ?_⟩)
   cases m with
   | zero=>exact bW hd▸Bool.eq_false_iff.mpr hp
   | succ m=>exact h4 m d' (Nat.lt_of_succ_lt_succ hm) hd
theorem wS {v x:Value} {c d:V} {l:List V} {j:Nat} (hu:A.units+9<cLine) (st:St T Y s.heap) (hv:VR (G Y s.heap) c v) (hx:VR (G Y s.heap) d x) (e:dC c Y=some l) (ok:(iu d 8 && l.all (iu · 8))=true) (hl:l.length<=16777216) (hj:dR (bw · d) l=some j) (q:Q (.int j) Y) (k:Kv T Y s Q K):wpAny (model T.prog T.w) A (PySem.call (.builtin "list.index") [v,x]) K E s:=by
 refine ov (e9 st hv e) fun a vs n y1 ho hvs=> ?_;subst y1;refine gw (rW hj) fun dj j1 j2 j3=> ?_;have jl:j<vs.toArray.size:=by rw [aI,hvs.length];exact (aM.mp j1).1
 have rd:∀m dm,l[m]? =some dm->∃y as,vs[m]? =some y/\VR (G Y s.heap) dm y/\Reads s.heap y (gQ dm) as/\(gQ dm).canLay0=true/\iu dm 8=true:=fun m dm hm=>by
  refine bu (hvs.get hm) fun y hy r=> ?_;have o:=aG.mp (ar ok) dm (aq hm);exact gw (gR (fun _ _ (p:G Y s.heap _ _)=>p.1) o r) fun as r1 r2 U=>⟨y,as,hy,r,r1,r2,o⟩
 let f:Value->Bool:=fun y=> @decide (∃D as,Reads s.heap y D as/\D.canLay0=true/\PyData.eqv D (gQ d)=true) (Classical.propDecidable _)
 have fy:∀m dm y,l[m]? =some dm->vs[m]? =some y->f y=bw dm d:=fun m dm y hm hy=>by
  refine qj (rd m dm hm) fun y' as h1 U h2 y41=>(fI y41 fun h3 h4=> ?_);rw [hy] at h1;(replace h1:=bW h1;subst h1);rw [<-iQ.1 dm d 8 h4]
  cases r:PyData.eqv (gQ dm) (gQ d) with
  | true=>exact @aA _ (_) ⟨_,as,h2,h3,r⟩
  | false=>
   refine @decide_eq_false _ (_) fun z=>eJ z fun D bs g1 g2 g3=> ?_;rw [<-PySem.SeqAt.Reads.unique _ _ _ _ _ h3 h2 g1,r] at g3;exact cR g3
 have at':∀m (hm:m<vs.toArray.size) dm,l[m]? =some dm->f vs.toArray[m]=bw dm d:=fun m hm dm h=>fy m dm _ h (an hm);refine call_meets F.slot_list_index ⟨_,ho,rfl⟩ F.entry_list_index (F.args_list_index_2 _ _) (list_indexAt a vs.toArray n none #[] x f j jl (by rw [aI,hvs.length] at jl;lia) ((at' j jl dj j1).trans j2) (fun m hm hlt=> ?_)) ⟨ho,fun y hy=> ?_,k.int st _ q⟩
 ·have hm':m<l.length:=by rw [<-hvs.length];exact hm
  exact (at' m hm l[m] (an hm')).trans (j3 m l[m] hlt (an hm'))
 ·obtain ⟨m,hm⟩:=List.getElem?_of_mem (List.mem_toArray.mp hy);refine bu (hvs.get' hm) fun dm hd r=> ?_;rw [fy m dm y hd hm];exact (vv (fun _ _ (p:G Y s.heap _ _)=>p.1) (aY.mpr (.inl (ay.mpr ⟨(aG.mp (ar ok) dm (aq hd)),al ok⟩))) r hx (by show A.units+1+8<cLine;assumption)).2
theorem jy (st:St T Y s.heap) {d:V} {v:Value} (hv:VR (G Y s.heap) d v) (h:(fG d Y).isSome=true):∃a o,v= .ref a/\s.heap.get? a=some o/\o.cls= .type "list" /\o.dict=none:=by
 refine cr fun hn=> ?_;obtain ⟨p,e⟩:=Option.isSome_iff_exists.mp h;clear h;obtain ⟨rfl,e2⟩:=gh e;exact gU (eZ st e2) fun vs n ho U=>(hn ⟨_,_,hv,ho,rfl,rfl⟩)
theorem By {v:Value} {d:V} {m:Mt} {K:Value×List Value->Shared->Prop} {pl:Sem Bool} {cls:Nat->Addr} (hu:∀i,m≠ .user i) (st:St T Y s.heap) (hv:VR (G Y s.heap) d v) (mk:CB cls m d Y=true) (k:K (m.val d,[v]) s):wpAny (model T.prog T.w) A (getMethod v m.name pl) K E s:=by
 have lst:∀{n id:String},K (.builtin id,[v]) s->(∃a o,v= .ref a/\s.heap.get? a=some o/\o.cls= .type "list" /\o.dict=none)->Slot "list" n id->typeOf (.builtin id)=pure (.type "method_descriptor")->wpAny (model T.prog T.w) A (getMethod v (Str.ofString n) pl) K E s:=fun k h sl ty=>by
  refine qj h fun a o y1 ho hc hd=> ?_;subst y1;exact (getMethod_builtin ⟨_,ho,hc⟩ F.plainAttrs_list sl ty (fun a e=>by injection e with e;subst e;exact ⟨_,ho,hd⟩) k)
 have byt:∀{n id:String},K (.builtin id,[v]) s->(fv d).isSome=true->Slot "bytes" n id->typeOf (.builtin id)=pure (.type "method_descriptor")->wpAny (model T.prog T.w) A (getMethod v (Str.ofString n) pl) K E s:=fun k h sl ty=>by
  refine eJ (fV h hv) fun l t U y11 U=> ?_;subst y11;exact (getMethod_builtin (typeIs_bytes _ _ _) FB.plainAttrs_bytes sl ty (fun U e=>nomatch e) k)
 cases m with
 | user i=>exact absurd rfl (hu i)
 | append=>exact lst k (jy st hv mk) F.slot_list_append F.type_list_append
 | pop=>exact lst k (jy st hv mk) F.slot_list_pop F.type_list_pop
 | extend=>exact lst k (jy st hv mk) F.slot_list_extend F.type_list_extend
 | split=>exact byt k mk BF.slot_split BF.type_split
 | index=>
  have k:K (.builtin (cond (fv d).isSome "bytes.index" "list.index"),[v]) s:=k
  cases h:(fv d).isSome with
  | true=>rw [h] at k;exact byt k h BF.slot_index BF.type_index
  | false=>
   rw [h] at k;have mk:((fv d).isSome || (dC d Y).isSome)=true:=mk;rw [h] at mk;obtain ⟨l,e⟩:=Option.isSome_iff_exists.mp mk;exact ov (e9 st hv e) fun a vs n e ho U=>((lst k ⟨a,_,e,ho,rfl,rfl⟩ F.slot_list_index F.type_list_index))
 | join=>
  have k:K (.builtin (cond (fv d).isSome "bytes.join" "str.join"),[v]) s:=k;clear lst st hu
  cases h:(fv d).isSome with
  | true=>rw [h] at k;exact byt k h BF.slot_join BF.type_join
  | false=>
   rw [h] at k;have mk:((fv d).isSome || (lM d).isSome)=true:=mk;rw [h] at mk;refine dU (Option.isSome_iff_exists.mp mk) fun l e=>(bu (sq e hv) fun t y111 U=> ?_);subst y111;exact getMethod_builtin (typeIs_str _ _ _) F.plainAttrs_str F.slot_str_join F.type_str_join (fun U e=>nomatch e) k
theorem p1 {f:V->Prop} {W:Wd} {ds:List V} {vs:List Value} (q:a1 ds f) (r:VRs W ds vs):∃d v,vs=[v]/\VR W d v/\f d:=by
 cases ds with
 | nil=>exact False.elim q
 | cons d ds=>
 cases ds with
 | nil=>
  exact bu (wt r) fun v e r=>⟨d,v,e,r,q⟩
 | cons U z1=>exact False.elim q
theorem p2 {f:V->V->Prop} {W:Wd} {ds:List V} {vs:List Value} (q:a2 ds f) (r:VRs W ds vs):∃d v e w,vs=[v,w]/\VR W d v/\VR W e w/\f d e:=by
 cases ds with
 | nil=>exact False.elim q
 | cons d ds=>
 cases ds with
 | nil=>exact False.elim q
 | cons e ds=>
 cases ds with
 | nil=>
  exact eJ (Bh r) fun v w h r r2=>⟨d,v,e,w,h,r,r2,q⟩
 | cons U z1=>exact False.elim q
theorem yo {v:Value} {d:V} {vs:List Value} {ds:List V} {m:Mt} (hu:∀i,m≠ .user i) (hun:A.units+9<cLine) (st:St T Y s.heap) (hv:VR (G Y s.heap) d v) (hvs:VRs (G Y s.heap) ds vs) (q:xQ Γ m d ds Y Q X) (k:Kv T Y s Q K):wpAny (model T.prog T.w) A (PySem.call (m.val d) (v::vs)) K E s:=by
 have lst:∀{f:Addr×List V->Prop},on (fG d Y) f->∃a l,v= .ref a/\Y a=some (.list l)/\f (a,l):=fun q=>by
  refine bu (bH q) fun p e q'=> ?_;obtain ⟨e1,e2⟩:=gh e;rw [e1] at hv;exact ⟨p.1,p.2,hv,e2,q'⟩
 cases m with
 | user i=>exact absurd rfl (hu i)
 | append=>
  refine eJ (lst q) fun a l y21 e q=> ?_;subst y21;refine eJ (p1 q hvs) fun x w y31 hx q=> ?_;subst y31;exact xh st hx e (cF q).1 (cF q).2 k
 | pop=>
  refine eJ (lst q) fun a l y41 e q=> ?_;subst y41;obtain ⟨q0,q⟩:=dG q;obtain ⟨q1,q⟩:=cF q;refine bu (bH q) fun x q2 q=> ?_;obtain rfl:=List.isEmpty_iff.mp q0;rw [show vs=[] from hvs];have hne:l≠[]:=fun e=>by subst e;exact bZ q2
  rw [List.getLast?_eq_some_getLast hne] at q2
  (replace q2:=bW q2;subst q2)
  exact Ez st e q1 hne q k
 | extend=>
  refine eJ (lst q) fun a l y81 e q=> ?_;subst y81;refine eJ (p1 q hvs) fun x w y91 hx q=> ?_;subst y91;exact bu (bH q) fun r e2 q=>(xa st hx e e2 (cF q).1 (dG (cF q).2).2 k)
 | index=>
  clear hu lst;refine eJ (p1 q hvs) fun x w y111 hx q=> ?_;subst y111
  cases h:fv d with
  | some l=>
   refine vY (f:=fun l'=>l'=l) (by rw [h];rfl) hv fun l' t e hb e'=> ?_;subst e;subst e';refine vI q hx fun i u U q=> ?_;obtain ⟨q0,q⟩:=cF q;obtain ⟨q1,q⟩:=cF q;exact bu (bH q) fun j q2 q=>((wv st hb q0 q1 q2 q k))
  | none=>
   rw [h] at q;refine bu (bH q) fun l e q=> ?_;obtain ⟨q1,q⟩:=dG q;obtain ⟨q2,q⟩:=cF q;refine bu (bH q) fun j q3 q4=> ?_;show wpAny _ A (PySem.call (.builtin (cond (fv d).isSome "bytes.index" "list.index")) _) K E s;rw [h];exact wS hun st hv hx e q1 q2 q3 q4 k
 | join=>
  refine eJ (p1 q hvs) fun x w y191 hx q=> ?_;subst y191;refine bu (bH q) fun l e q=>(ov (e9 st hx e) fun a ws n y211 ho hws=> ?_);subst y211;show wpAny _ A (PySem.call (.builtin (cond (fv d).isSome "bytes.join" "str.join")) _) K E s
  cases h:fv d with
  | some sep=>
   rw [h] at q;refine bu (bH q) fun bs eb q=> ?_;refine vY (by rw [h];rfl) hv fun l' t U hb e'=> ?_;subst e';exact zL st hb ho hws eb (cF q).1 (cF q).2 k
  | none=>
   rw [h] at q;exact vS q hv fun sep t U hb q=>by refine bu (bH q) fun bs eb q=> ?_;exact zH st hb ho hws eb (cF q).1 (cF q).2 k
 | split=>
  refine vY q hv fun l t U hb q=>(eJ (p1 q hvs) fun x w y241 hx q=> ?_);subst y241;refine vY q hx fun c u U hc q=> ?_
  match c,q with
  | [n],q=>exact z4 st hb (hc n (.head _)) (cF q).1 (cF q).2 k
end
noncomputable def Et:Option Nat->Nat
 | some a=>a
 | none=>0
noncomputable def DH {α:Type} (l:List α):Option Nat->List α
 | some j=>l.take j
 | none=>l
theorem D9 {α:Type} (l:List α) (x y:Option Nat):Em l x y=(DH l y).drop (Et x):=by
 delta Em Et DH;rfl
theorem v0 {G:Wd} {a:Value} {da:V} {n:Nat} {x:Option Nat} (h:VR G da a) (e:rv n da=some x):∃lo,IsPart a lo/\x=lo.map fun i:Int=>if i<0 then n - (-i).toNat else i.toNat:=by
 cases da with
 | none=>exact bi h ⟨none, .none,(bW e).symm⟩
 | int i=>exact dU h fun t q=>bi q ⟨some i, .int i t,(bW e).symm⟩
 | _=>exact bZ e
theorem BQ {α:Type} (l:List α) {x y:Option Nat} {lo hi:Option Int} (hx:x=lo.map fun i:Int=>if i<0 then l.length - (-i).toNat else i.toNat) (hy:y=hi.map fun i:Int=>if i<0 then l.length - (-i).toNat else i.toNat):Em l x y=(l.drop (kms_lo lo l.length)).take (kms_hi hi l.length - kms_lo lo l.length):=by
 have e1:∀m:List α,m.length<=l.length->m.drop (Et x)=m.drop (kms_lo lo l.length):=by
  intro m hm;rw [hx]
  cases lo with
  | none=>rfl
  | some i=>
   show m.drop (if i<0 then _ else _)=m.drop (if i<0 then _ else _)
   by_cases h:i<0
   ·rw [if_pos h,if_pos h]
   ·rw [if_neg h,if_neg h];rcases Nat.le_total i.toNat l.length with h2 | h2
    ·rw [Nat.min_eq_left h2]
    ·rw [Nat.min_eq_right h2,List.drop_eq_nil_of_le (aj hm h2),List.drop_eq_nil_of_le hm]
 have e2:DH l y=l.take (kms_hi hi l.length):=by
  rw [hy]
  cases hi with
  | none=>exact List.take_length.symm
  | some i=>
   show l.take (if i<0 then _ else _)=l.take (if i<0 then _ else _)
   by_cases h:i<0
   ·rw [if_pos h,if_pos h]
   ·rw [if_neg h,if_neg h];rcases Nat.le_total i.toNat l.length with h2 | h2
    ·rw [Nat.min_eq_left h2]
    ·rw [Nat.min_eq_right h2,List.take_of_length_le h2,List.take_length]
 rw [D9,e2,e1 _ (List.length_take_le' ..),List.drop_take]
theorem iT {α:Type} {l r:List α} {a b:Value} {da db:V} {G:Wd} (ha:VR G da a) (hb:VR G db b) (e:l4 l da db=some r):∃lo hi,IsPart a lo/\IsPart b hi/\r=(l.drop (kms_lo lo l.length)).take (kms_hi hi l.length - kms_lo lo l.length):=
 bu (aK.mp e) fun x e1 e=>bu (aL.mp e) fun y e2 e=>bu (v0 ha e1) fun lo p1 h1=>bu (v0 hb e2) fun hi p2 h2=>⟨lo,hi,p1,p2,e.symm.trans (BQ l h1 h2)⟩
theorem lX {α β:Type} (f:α->β) (l:List α) (a b:Nat):((l.map f).drop a).take b=((l.drop a).take b).map f:=by
 rw [List.map_take,List.map_drop]
theorem km1 {i:Int} {n:Nat}:max (0:Int) (min (if i<0 then i+(n:Int) else i) (n:Int))=((if i<0 then n - (-i).toNat else min i.toNat n:Nat):Int):=by
 by_cases h:i<0
 ·rw [if_pos h,if_pos h];lia
 ·rw [if_neg h,if_neg h];lia
theorem km2 {i:Int} {n:Nat}:(if i<0 then max (i+(n:Int)) 0 else min i (n:Int))=((if i<0 then n - (-i).toNat else min i.toNat n:Nat):Int):=by
 by_cases h:i<0
 ·rw [if_pos h,if_pos h];lia
 ·rw [if_neg h,if_neg h];lia
theorem Ej (lo:Option Int) (n:Nat):(match lo with | none=>(0:Int) | some i=>max (0:Int) (min (if i<0 then i+(n:Int) else i) (n:Int)):Int)=((kms_lo lo n:Nat):Int):=by
 cases lo with
 | none=>rfl
 | some i=>exact km1
theorem Ew (hi:Option Int) (n:Nat):(match hi with | none=>(n:Int) | some i=>max (0:Int) (min (if i<0 then i+(n:Int) else i) (n:Int)):Int)=((kms_hi hi n:Nat):Int):=by
 cases hi with
 | none=>rfl
 | some i=>exact km1
theorem AM (lo hi:Option Int) (n:Nat):Str.strSliceIndices lo hi 1 n=(List.range (kms_hi hi n - kms_lo lo n)).map (kms_lo lo n+ ·):=by
 rw [<-sliceRange_one,<-Ej,<-Ew];delta Str.strSliceIndices
 cases lo<;>cases hi<;>rfl
theorem wL (hi:Option Int) (n:Nat):kms_hi hi n<=n:=by
 cases hi with
 | none=>exact av _
 | some i=>
  show (if i<0 then _ else _:Nat)<=n
  by_cases h:i<0
  ·rw [if_pos h];exact Nat.sub_le _ _
  ·rw [if_neg h];exact Nat.min_le_right _ _
theorem wH (l:List Nat) (lo hi:Option Int):Txt.slice ⟨l.toArray⟩ lo hi=⟨((l.drop (kms_lo lo l.length)).take (kms_hi hi l.length - kms_lo lo l.length)).toArray⟩:=by
 delta Txt.slice;have len:(⟨l.toArray⟩:PySem.Str).length=l.length:=by rfl
 rw [len,AM]
 by_cases h:((1:Int)==1 && ((List.range (kms_hi hi l.length - kms_lo lo l.length)).map (kms_lo lo l.length+ ·)).length==l.length)=true
 ·rw [if_pos h];have h1:=wL hi l.length;simp at h
  by_cases h0:l.length=0
  ·have:l=[]:=List.length_eq_zero_iff.mp h0;clear h0 h1 len;subst this;grind
  ·have e1:kms_lo lo l.length=0:=by lia
   rw [e1,(show kms_hi hi l.length=l.length by lia)];simp
 ·rw [if_neg h]
  congr 1
  have:=pick_run l.toArray (kms_lo lo l.length) (kms_hi hi l.length - kms_lo lo l.length);exact aB List.toArray this
section
variable {T:cK} {Y:be} {s:Shared} {A:Around} {K E:Value->Shared->Prop} {Q X:KV} {h':Heap}
theorem uN {l:List Nat} {t:Tok} {a b:Value} {lo hi:Option Int} {j:Addr} (hl:l.length<=16777216) (pa:IsPart a lo) (pb:IsPart b hi) (hj:s.heap.get? j=some {cls:= .type "slice",data:= .fields #[a,b, .none]})
  (k:∀t' k,K (.str ⟨((l.drop (kms_lo lo l.length)).take (kms_hi hi l.length - kms_lo lo l.length)).toArray⟩ t') {s with toks:=k}):wpAny (model T.prog T.w) A (getItem (.str ⟨l.toArray⟩ t) (.ref j)) K E s:=by
 have hz:(⟨l.toArray⟩:PySem.Str).length<=sizeLine:=by simp [PySem.Str.length,sizeLine];assumption
 have e:=wH l lo hi;have go:∀t' k,K (.str (Txt.slice ⟨l.toArray⟩ lo hi) t') {s with toks:=k}:=fun t' kk=>by rw [e];exact k t' kk
 clear k e hl uN
 cases pa with
 | none=>
  cases pb with
  | none=>exact wpAny_getItem_str_slice (l:=none) (u:=none) (st:=none) ⟨_,hj,rfl,rfl⟩ rfl (post_val_or_str ⟨aj (Txt.slice_le _ none none) hz,go⟩)
  | int y u=>exact wpAny_getItem_str_slice (l:=none) (u:=some (y,u)) (st:=none) ⟨_,hj,rfl,rfl⟩ rfl (post_val_or_str ⟨aj (Txt.slice_le _ none (some y)) hz,go⟩)
 | int x v=>
  cases pb with
  | none=>exact wpAny_getItem_str_slice (l:=some (x,v)) (u:=none) (st:=none) ⟨_,hj,rfl,rfl⟩ rfl (post_val_or_str ⟨aj (Txt.slice_le _ (some x) none) hz,go⟩)
  | int y u=>exact wpAny_getItem_str_slice (l:=some (x,v)) (u:=some (y,u)) (st:=none) ⟨_,hj,rfl,rfl⟩ rfl (post_val_or_str ⟨aj (Txt.slice_le _ (some x) (some y)) hz,go⟩)
theorem qy (b:Array UInt8) (lo hi:Option Int):KBy.picked b lo hi=((b.toList.drop (kms_lo lo b.size)).take (kms_hi hi b.size - kms_lo lo b.size)).toArray:=by
 delta KBy.picked Bytes.sliced;rw [kms_bounds];rw [sliceRange_one,pick_run]
theorem xc {l:List Nat} {t:Tok} {a b:Value} {lo hi:Option Int} {j:Addr} (hl:l.length<=16777216) (pa:IsPart a lo) (pb:IsPart b hi) (hj:s.heap.get? j=some {cls:= .type "slice",data:= .fields #[a,b, .none]})
  (k:∀t' k,K (.bytes (((l.drop (kms_lo lo l.length)).take (kms_hi hi l.length - kms_lo lo l.length)).map UInt8.ofNat).toArray t') {s with toks:=k}):wpAny (model T.prog T.w) A (getItem (.bytes (l.map UInt8.ofNat).toArray t) (.ref j)) K E s:=by
 have e:=qy (l.map UInt8.ofNat).toArray lo hi;rw [aI,ah,lX] at e
 refine getItem_meets (typeIs_bytes _ _ _) (by decide) FB.slot_bytes_getitem FB.entry_bytes_getitem (FB.args_bytes_getitem_2 _ _) (KBc.meets_slice2 _ t _ pa pb)
  ⟨⟨_,hj,rfl,rfl⟩, ?_,fun t' kk=>by rw [e];exact k t' kk⟩
 refine aj (KBc.size_picked_le _ _ _) ?_;simp;assumption
theorem yf {x j:Addr} {vs:List Value} {n:Nat} {a b:Value} {lo hi:Option Int} (ho:s.heap.get? x=some {cls:= .type "list",data:= .seq vs.toArray n}) (hl:vs.length<=16777216) (pa:IsPart a lo) (pb:IsPart b hi)
  (hj:s.heap.get? j=some {cls:= .type "slice",data:= .fields #[a,b, .none]})
  (k:K (.ref s.heap.objs.size) {s with heap:=s.heap.push {cls:= .type "list",data:= .seq ((vs.drop (kms_lo lo vs.length)).take (kms_hi hi vs.length - kms_lo lo vs.length)).toArray}}):wpAny (model T.prog T.w) A (getItem (.ref x) (.ref j)) K E s:=by
 refine wpAny_getItem_list_slice (items:=vs.toArray) ⟨_,ho,rfl,_,rfl⟩ ⟨_,hj,rfl,rfl⟩ pa pb .none (by simp) ?_ (by simp [sizeLine];assumption);rw [kms_pick_eq];exact k
theorem AY {x j:Addr} {vs:List Value} {n:Nat} {t:Tok} (ho:s.heap.get? x=some {cls:= .type "list",data:= .seq vs.toArray n}) (hl:vs.length<=16777216)
  (hj:s.heap.get? j=some {cls:= .type "slice",data:= .fields #[.none, .none, .int (-1) t]})
  (k:K (.ref s.heap.objs.size) {s with heap:=s.heap.push {cls:= .type "list",data:= .seq vs.reverse.toArray}}):wpAny (model T.prog T.w) A (getItem (.ref x) (.ref j)) K E s:=by
 refine wpAny_getItem_list_slice (items:=vs.toArray) ⟨_,ho,rfl,_,rfl⟩ ⟨_,hj,rfl,rfl⟩ .none .none (.int (-1) t) (by simp) ?_ (by simp [sizeLine];assumption);rw [krv_pick];exact k
theorem ii {prog:Program} {w:World} {v:Value} {lo:Option Int} {Q:Option Int->Shared->Prop} (p:IsPart v lo) (h:Q lo s):wpAny (model prog w) A (Builtin.Slice.slicePartIndex v) Q E s:=by
 cases p with
 | none=>exact slicePart_none h
 | int i u=>exact slicePart_int h
theorem rR (lo hi:Option Int) (n:Nat):Builtin.Slice.sliceAdjust lo hi 1 (n:Int)=(((kms_lo lo n:Nat):Int),((kms_hi hi n:Nat):Int)):=by
 delta Builtin.Slice.sliceAdjust;refine Prod.ext ?_ ?_
 ·cases lo with
  | none=>rfl
  | some i=>exact km2
 ·cases hi with
  | none=>rfl
  | some i=>exact km2
theorem ri (a b:Nat):Builtin.Slice.slicePlaces (a:Int) (b:Int) 1=b - a:=by
 delta Builtin.Slice.slicePlaces;simp
 split<;>lia
theorem jh {prog:Program} {w:World} {sl:Addr} {n:Nat} {a b:Value} {lo hi:Option Int} {Q:Int×Int×Nat->Shared->Prop} (hs:s.heap.IsSliceOf sl a b .none) (pa:IsPart a lo) (pb:IsPart b hi) (h:Q (((kms_lo lo n:Nat):Int),1,kms_hi hi n - kms_lo lo n) s):wpAny (model prog w) A (Builtin.Slice.sliceApplied (.ref sl) (pure (n:Int))) Q E s:=by
 refine gw (id hs) fun os hos hcs hds=>((ae (ae (wpAny_field hos hds (x:=a) rfl (ae (wpAny_field hos hds (x:=b) rfl (ae (wpAny_field hos hds (x:= .none) rfl (am ?_)))))))));refine ae (slicePart_none ?_);refine ae (ii pa (ae (ii pb (ae (am ?_)))));show wpAny _ _ (match Builtin.Slice.sliceAdjust lo hi 1 (n:Int) with | (lo,hi)=>pure (lo,(1:Int),Builtin.Slice.slicePlaces lo hi 1)) _ _ s;rw [rR lo hi n];show wpAny _ _ (pure (((kms_lo lo n:Nat):Int),(1:Int),Builtin.Slice.slicePlaces (kms_lo lo n:Nat) (kms_hi hi n:Nat) 1)) _ _ s;rw [ri];exact am h
theorem AU {x j:Addr} {vs:List Value} {n:Nat} {a b:Value} {lo hi:Option Int} (ho:s.heap.get? x=some {cls:= .type "tuple",data:= .seq vs.toArray n}) (hl:vs.length<=16777216) (pa:IsPart a lo) (pb:IsPart b hi)
  (hj:s.heap.get? j=some {cls:= .type "slice",data:= .fields #[a,b, .none]})
  (k0:(vs.drop (kms_lo lo vs.length)).take (kms_hi hi vs.length - kms_lo lo vs.length)=vs->K (.ref x) s)
  (k:K (.ref s.heap.objs.size) {s with heap:=s.heap.push {cls:= .type "tuple",data:= .seq ((vs.drop (kms_lo lo vs.length)).take (kms_hi hi vs.length - kms_lo lo vs.length)).toArray}}):wpAny (model T.prog T.w) A (getItem (.ref x) (.ref j)) K E s:=by
 have ht:IsTup s.heap x vs.toArray:=⟨_,ho,rfl,_,rfl⟩
 have ep:((List.range (kms_hi hi vs.length - kms_lo lo vs.length)).filterMap fun (m:Nat)=>vs.toArray[(((kms_lo lo vs.length:Nat):Int)+(m:Int)*1).toNat]?).toArray=((vs.drop (kms_lo lo vs.length)).take (kms_hi hi vs.length - kms_lo lo vs.length)).toArray:=by
  have e:(fun (m:Nat)=>vs.toArray[(((kms_lo lo vs.length:Nat):Int)+(m:Int)*1).toNat]?)=fun m=>vs.toArray[kms_lo lo vs.length+m]? :=by
   funext m
   have:(((kms_lo lo vs.length:Nat):Int)+(m:Int)*1).toNat=kms_lo lo vs.length+m:=by exact (Nat.add_assoc _ _ _).symm
   rw [this]
  rw [e];have:=pick_run vs.toArray (kms_lo lo vs.length) (kms_hi hi vs.length - kms_lo lo vs.length);rw [List.filterMap_map] at this;exact aB List.toArray this
 have hdrop:sizeOk (.seq ((vs.drop (kms_lo lo vs.length)).take (kms_hi hi vs.length - kms_lo lo vs.length)).toArray):=by
  show (List.toArray _).size<=sizeLine;simp [sizeLine];omega
 delta getItem
 try with_reducible refine aH ?_
 first | refine ae (am ?_) | skip
 refine ae (wpAny_sequenceKey ht.typeIs (by decide) ?_)
 refine ae (wpAny_callSpecial?_slot (name:=Str.ofString "__getitem__") ht.typeIs slot_tuple_getitem
  (wpAny_call_entry slot_tuple_getitem ht.typeIs entry_tuple_getitem ?_ (args_tuple_getitem _ _)))
 show wpAny _ _ (Builtin.Tuple.tupleItemsOf (.ref x)>>=_) _ _ s;refine ae (tupleItemsOf_ ht ?_);refine ae (wpAny_typeOf (⟨_,hj,rfl⟩:s.TypeIs (.ref j) "slice") ?_);refine ae (jh (n:=vs.length) (⟨_,hj,rfl,rfl⟩:s.heap.IsSliceOf j a b .none) pa pb ?_)
 by_cases hw:(((kms_lo lo vs.length:Nat):Int)==0 && (1:Int)==1 && (kms_hi hi vs.length - kms_lo lo vs.length)==vs.length)=true
 ·show wpAny _ _ (if (((kms_lo lo vs.length:Nat):Int)==0 && (1:Int)==1 && (kms_hi hi vs.length - kms_lo lo vs.length)==vs.length)=true then _ else _) _ _ s;refine qQ hw ?_
  have kk:K (.ref x) s:=k0 (by
   simp at hw;rw [hw.2,hw.1];simp)
  refine ae (ae (wpAny_typeOf ht.typeIs (am ?_)))
  first
   | exact ae (wpAny_rule (am ⟨_,rfl,am kk⟩))
   | exact ae (ae (wpAny_rule (am (am ⟨_,rfl,am kk⟩))))
 ·show wpAny _ _ (if (((kms_lo lo vs.length:Nat):Int)==0 && (1:Int)==1 && (kms_hi hi vs.length - kms_lo lo vs.length)==vs.length)=true then _ else _) _ _ s
  (refine nV hw ?_;rw [ep])
  first
   | exact ae (wpAny_newObj_type (am ⟨_,rfl,am k⟩) hdrop)
   | exact ae (wpAny_newObj_type (ae (am (am ⟨_,rfl,am k⟩))) hdrop)
   | exact ae (ae (wpAny_newObj_type (am (am ⟨_,rfl,am k⟩)) hdrop))
   | exact ae (ae (m:=Builtin.Tuple.tupleExact _) (wpAny_newObj_type (am ⟨_,rfl,am k⟩) hdrop))
theorem Di {m:Bool} {v a b c:Value} {d da db dc:V} {j:Addr} {x y:Expr} (st:St T Y s.heap) (hv:VR (G Y s.heap) d v) (ha:VR (G Y s.heap) da a) (hb:VR (G Y s.heap) db b) (hc:VR (G Y s.heap) dc c) (hj:s.heap.get? j=some {cls:= .type "slice",data:= .fields #[a,b,c]}) (q:DP m d da db dc Y Q) (k:Kv T Y s Q K):wpAny (model T.prog T.w) A (subscriptTail x y v (.ref j)) K E s:=by
 delta DP at q
 cases h:gA dc with
 | some i=>
  rw [h] at q;refine bu (bH q) fun l e q=> ?_;obtain ⟨na,q⟩:=dG q;obtain ⟨nb,q⟩:=dG q;obtain ⟨hi1,q⟩:=cF q;obtain ⟨hl,q4⟩:=cF q;subst hi1;obtain rfl:=mV na ha;obtain rfl:=mV nb hb;refine ov (e9 st hv e) fun p vs n y51 ho hvs=> ?_;subst y51;revert hj;refine vI (by rw [h];rfl) hc fun i t U hi hj=> ?_;subst hi;exact dA ⟨_,ho,rfl⟩ slot_list_getitem.lookup (AY ho (by rw [hvs.length];exact hl) hj (k.newL st _ (bA _ _) (av _) (aF _ rfl) hvs.reverse q4))
 | none=>
  rw [h] at q;refine cr fun hn=> ?_;obtain ⟨nc,q⟩:=dG q;obtain rfl:=mV nc hc;refine hn ?_
  have lst:(on (dC d Y) fun l=>gd (decide (l.length<=16777216)) (on (l4 l da db) fun r=>Cq m r Y Q))->wpAny (model T.prog T.w) A (subscriptTail x y v (.ref j)) K E s:=fun q=>by
   refine bu (bH q) fun l e q=> ?_;obtain ⟨hl,q⟩:=cF q;refine bu (bH q) fun r er q=>(ov (e9 st hv e) fun p vs n y101 ho hvs=> ?_);subst y101;refine eJ (iT ha hb er) fun lo hi pa pb y111=> ?_;subst y111;rw [<-hvs.length] at hl q;exact dA ⟨_,ho,rfl⟩ slot_list_getitem.lookup (yf ho hl pa pb hj (k.newL st _ (bA _ _) (av _) (aF _ rfl) ((hvs.drop _).take _) q))
  cases d with
  | str l=>
   obtain ⟨hl,q⟩:=cF q;obtain ⟨r,er,q⟩:=bH q;obtain ⟨lo,hi,pa,pb,rfl⟩:=iT ha hb er;refine bu hv fun t y151 hm=> ?_;subst y151;exact dA (typeIs_str _ _ _) F.slot_str_getitem.lookup (uN hl pa pb hj fun t' kk=>k.str st _ (fun z hz=>hm z (List.mem_of_mem_drop (List.mem_of_mem_take hz))) q)
  | bytes l=>
   obtain ⟨hl,q⟩:=cF q;refine bu (bH q) fun r er q=>(eJ (iT ha hb er) fun lo hi pa pb y221=> ?_);subst y221;obtain ⟨t,rfl,hm⟩:=hv;exact dA (typeIs_bytes _ _ _) FB.slot_bytes_getitem.lookup (xc hl pa pb hj fun t' kk=>k.bytes st _ (fun z hz=>hm z (List.mem_of_mem_drop (List.mem_of_mem_take hz))) q)
  | tup l=>
   obtain ⟨hl,q⟩:=cF q;refine bu (bH q) fun r er q=>(eJ (iT ha hb er) fun lo hi pa pb y221=> ?_);subst y221;obtain ⟨p,vs,n,rfl,g,hvs⟩:=hv;rw [<-hvs.length] at hl q;refine dA ⟨_,g.1,rfl⟩ F.slot_tuple_getitem.lookup (AU g.1 hl pa pb hj (fun e=> ?_) (k.newTup st _ (bA _ _) (av _) (aF _ rfl) ((hvs.drop _).take _) q));have r:=(hvs.drop (kms_lo lo vs.length)).take (kms_hi hi vs.length - kms_lo lo vs.length);rw [e] at r;exact k.same0 (d:= .tup _) st ⟨p,vs,n,rfl,g,r⟩ q
  | _=>exact lst q
end
section
variable {T:cK} {Y:be} {s:Shared} {A:Around} {E:Value->Shared->Prop} {K:Unit->Shared->Prop} {P:be->Prop} {h':Heap}
theorem EF.updList (k:EF T Y s P (K ())) (st:St T Y s.heap) {a:Addr} {l l':List V} (e:Y a=some (.list l)) {vs':List Value} {n:Nat} (hs:Heap.SameBut a s.heap h') (ha:h'.get? a=some (ey "list" vs' n)) (hv:VRs (G Y s.heap) l' vs') (q:P (Y.set a (.list l'))):K () {s with heap:=h'}:=k _ h' s.toks (.upd (d':= .list l') st e (fun h=>nomatch h) (fun b o hb q=>hs.extBut b o hb q) ha ⟨vs',n,rfl,hv⟩) q
theorem wg {w:Value} {x:V} {a:Addr} {l:List V} {i:Int} {u:Tok} {m:Nat} (st:St T Y s.heap) (hw:VR (G Y s.heap) x w) (e:Y a=some (.list l)) (hl:l.length<=16777216) (hm:dk i l.length=some m) (q:P (Y.set a (.list (l.set m x)))) (k:EF T Y s P (K ())):wpAny (model T.prog T.w) A (setItem (.ref a) (.int i u) w) K E s:=by
 refine gU (eZ st e) fun vs n ho hvs=> ?_;obtain ⟨f1,f2⟩:=jZ hm hl
 have fin:∀m',m'=m->K () {s with heap:=s.heap.update a (Obj.mapSeq (·.setIfInBounds m' w))}:=fun m' em=>by
  subst em;refine bu (iV (f:=fun xs=>xs.setIfInBounds m' w) ho) fun n' hp hs=> ?_;exact k.updList (vs':=vs.set m' w) st e hs (by (refine ak hp ?_;rw [List.setIfInBounds_toArray])) (VRs.set hw m' hvs) q
 rw [<-hvs.length] at hm;rcases gX hm with ⟨h0,h1,h2⟩ | ⟨h0,h1,h2⟩
 ·exact ki_setAt ho h0 f2 (by rw [aI];lia) (fin _ h1)
 ·exact ki_setBack ho h0 (by rw [aI];lia) f1 (fin _ (by rw [aI];lia))
theorem sY {a b:Nat} (h:a<=b):(max (a:Int) (b:Int)).toNat=b:=by rw [Int.max_eq_right (bb.mpr h)];rfl
theorem E7 {a b n:Nat} (h1:a<=b) (h2:b<=n):sliceBounds (some (a:Int)) (some (b:Int)) none n=((a:Int),(b:Int),1):=by
 have e1:kms_lo (some (a:Int)) n=a:=by delta kms_lo;simp only [];rw [if_neg (by lia)];lia
 rw [kms_bounds,e1,(show kms_hi (some (b:Int)) n=b by delta kms_hi;simp only [];rw [if_neg (by lia)];lia)]
theorem oJ {x j y:Addr} {vs ws:List Value} {n n2:Nat} {a b:Nat} {ta tb:Tok} (ho:s.heap.get? x=some {cls:= .type "list",data:= .seq vs.toArray n}) (ho2:s.heap.get? y=some {cls:= .type "list",data:= .seq ws.toArray n2})
  (hj:s.heap.get? j=some {cls:= .type "slice",data:= .fields #[.int (a:Int) ta, .int (b:Int) tb, .none]}) (hxy:x≠y) (h1:a<=b) (h2:b<=vs.length) (hz:vs.length+ws.length<=16777216)
  (k:K () {s with heap:=s.heap.update x (Obj.mapSeq fun xs=>xs.extract 0 a++ws.toArray++xs.extract b xs.size)}):wpAny (model T.prog T.w) A (setItem (.ref x) (.ref j) (.ref y)) K E s:=by
 have hl:s.heap.IsList x vs.toArray:=⟨_,ho,rfl,_,rfl⟩;have hTs:s.TypeIs (.ref j) "slice" :=⟨_,hj,rfl⟩;delta setItem
 try with_reducible refine aH ?_
 first | refine ae (am ?_) | skip
 refine ae (wpAny_sequenceKey hl.typeIs (by decide) ?_)
 refine ae (wpAny_callSpecial?_slot (name:=Str.ofString "__setitem__") hl.typeIs slot_list_setitem
  (wpAny_call_entry slot_list_setitem hl.typeIs entry_list_setitem ?_ (args_list_setitem _ _ _)))
 show wpAny _ _ (Builtin.List.listSubscript? (.ref j)>>=_) _ _ s;refine ae (gv fun Q1z E1z hQ1z hE1z=> ?_);refine ae (wpAny_specialOf hTs slice_no_index ?_);refine qQ rfl (am ?_);refine hQ1z _ _ (ae (wpAny_typeOf hTs ?_));refine ae (AC (listSliceParts_eq ..) (ae (wpAny_field hj rfl (x:= .none) rfl (ae (wpAny_listPart .none ?_)))));refine ae (wpAny_field hj rfl (x:= .int a ta) rfl (ae (wpAny_listPart (.int _ _) ?_)));refine ae (wpAny_field hj rfl (x:= .int b tb) rfl (ae (wpAny_listPart (.int _ _) (am ?_))));refine nV (show ¬List.listSameRef (.ref x) (.ref y)=true by simp [List.listSameRef,hxy]) (ae ?_);refine ae (wpAny_typeOf (⟨_,ho2,rfl⟩:s.TypeIs (.ref y) "list") ?_);refine ae (wpAny_seqItems ho2 rfl (am ?_));refine ae (wpAny_listItems ho rfl ?_);refine ae (wpAny_of_eq ((sliceIndices_raw (some (a:Int)) (some (b:Int)) none vs.toArray.size nofun).trans (aB pure (E7 h1 h2))) ?_);refine ae (wpAny_rule ?_);refine nV (fun q=>absurd (aU q) (Nat.not_lt.mpr hz)) (ae ?_);refine wpAny_updateSeq ho rfl ?_ (aj (aP _ _) hz) (by rw [sY h1];simp [sizeLine];omega);refine ae (wpAny_letGo (ae (am (am ⟨.none,rfl,am ?_⟩))));rw [sY h1];exact k
theorem A6 (vs ws:List Value) (a b:Nat) (h2:b<=vs.length):vs.toArray.extract 0 a++ws.toArray++vs.toArray.extract b vs.toArray.size=(vs.take a++ws++vs.drop b).toArray:=by
 apply Array.ext';simp;exact List.take_of_length_le (by simp)
theorem wQ {v a b w:Value} {d da db x:V} {j:Addr} (st:St T Y s.heap) (hv:VR (G Y s.heap) d v) (ha:VR (G Y s.heap) da a) (hb:VR (G Y s.heap) db b) (hw:VR (G Y s.heap) x w) (hj:s.heap.get? j=some {cls:= .type "slice",data:= .fields #[a,b, .none]}) (q:zJ d da db x Y P) (k:EF T Y s P (K ())):wpAny (model T.prog T.w) A (setItem v (.ref j) w) K E s:=by
 refine bu (bH q) fun y1 e q'=> ?_;obtain ⟨p,l⟩:=y1;obtain ⟨e1,e⟩:=gh e;rw [e1] at hv;rw [show v= .ref p from hv];have q:=q';refine vL q hw fun r y ws n2 U g hws q=> ?_;revert hj;refine vI q ha fun i ta U q=>vI q hb fun i2 tb U q hj=> ?_;obtain ⟨h0,q⟩:=cF q;obtain ⟨h1,q⟩:=cF q;obtain ⟨h2,q⟩:=cF q;obtain ⟨hz,q⟩:=cF q;obtain ⟨m1,rfl⟩:=Int.eq_ofNat_of_zero_le h0;obtain ⟨m2,rfl⟩:=Int.eq_ofNat_of_zero_le (Int.le_trans h0 h1);refine gU (eZ st e) fun vs n ho hvs=> ?_;rw [<-hvs.length,<-hws.length] at hz;rw [<-hvs.length] at h2;have h2:=bb.mp h2;refine oJ ho g.1 hj (fun q=>bS e (q▸g.2.1)) (bb.mp h1) h2 hz ?_;obtain ⟨n',hp,hs⟩:=iV ho;exact k.updList (vs':=vs.take m1++ws++vs.drop m2) st e hs (by (refine ak hp ?_;rw [A6 _ _ _ _ h2])) (((hvs.take _).append hws).append (hvs.drop _)) q
end
mutual
noncomputable def fJ (w:World):V->Int
 | .int i=>hashInt i
 | .str l=>hashStr w ⟨l.toArray⟩
 | .tup l=>reduceHash (Builtin.Tuple.tupleHashOf (hashKs w l))
 | .none | .bool _ | .bytes _ | .lst _ | .ref _ | .rng _ _=>0
noncomputable def hashKs (w:World):List V->List Int
 | []=>[]
 | a::l=>fJ w a::hashKs w l
end
mutual
noncomputable def km:V->Nat
 | .int _ | .str _=>1
 | .tup l=>drawsKs l+1
 | .none | .bool _ | .bytes _ | .lst _ | .ref _ | .rng _ _=>0
noncomputable def drawsKs:List V->Nat
 | []=>0
 | a::l=>km a+drawsKs l
end
theorem gB {P:V->Nat->Prop} {Q:List V->Nat->Prop} (ci:∀i n,P (.int i) n) (cs:∀l n,P (.str l) n) (ct:∀l n,keyVs l n=true->Q l n->P (.tup l) (n+1)) (d0:∀n,Q [] n) (d1:∀d l n,P d n->Q l n->Q (d::l) n):(∀d n,fj d n=true->P d n)/\∀l n,keyVs l n=true->Q l n:=
 V.both (fun U=>cR) (fun U U=>cR) (fun i n U=>ci i n) (fun l n U=>cs l n) (fun U U=>cR) (fun l ih n=>Nat.rec cR (fun n U h=>ct l n h (ih n h)) n) (fun U U n=>Nat.rec cR (fun U U=>cR) n) (fun U U=>cR) (fun U U U=>cR) (fun n U=>d0 n) fun d l h1 h2 n h=>d1 d l n (h1 n (al h)) (h2 n (ar h))
theorem gY:(∀(d:V) (n:Nat),fj d n=true->iu d n=true)/\∀(l:List V) (n:Nat),keyVs l n=true->okVs l n=true:=
 gB (fun U U=>rfl) (fun U U=>rfl) (fun U U U h=>h) (fun U=>rfl) fun U U U h k=>ay.mpr ⟨h,k⟩
@[elab_as_elim] theorem jW {P:V->Nat->Prop} (ci:∀i n,P (.int i) n) (cs:∀l n,P (.str l) n) (ct:∀l n,keyVs l n=true->(∀d∈l,P d n)->P (.tup l) (n+1)) (d:V) (n:Nat) (h:fj d n=true):P d n:=
 (gB (Q:=fun l n=>∀d∈l,P d n) ci cs ct (fun U U h=>fh h) fun U U U h1 h2=>aa.mpr ⟨h1,h2⟩).1 d n h
theorem qL:(∀(d:V) (n:Nat),fj d n=true->∀e m,fj e m=true->bw d e=true->d=e)/\∀(l:List V) (n:Nat),keyVs l n=true->∀r m,keyVs r m=true->eqVs l r=true->l=r:=by
 refine gB (fun i n=> ?_) (fun l n=> ?_) (fun l n U ih=> ?_) (fun U r U U=> ?_) fun d l n h1 h2 r m h q=> ?_
 ·exact jW (P:=fun e U=>bw (.int i) e=true->V.int i=e) (fun j U q=>aB V.int (aU q)) (fun U U=>cR) fun U U U U=>cR
 ·exact jW (P:=fun e U=>bw (.str l) e=true->V.str l=e) (fun U U=>cR) (fun r U q=>aB V.str (eq_of_beq q)) fun U U U U=>cR
 ·exact jW (P:=fun e U=>bw (.tup l) e=true->V.tup l=e) (fun U U=>cR) (fun U U=>cR) fun r m h U q=>aB V.tup (ih r m h q)
 ·cases r with
  | nil=>exact fun U=>rfl
  | cons=>exact cR
 ·cases r with
  | nil=>exact cR q
  | cons e r=>rw [h1 e m (al h) (al q),h2 r m (ar h) (ar q)]
theorem lp:(∀(d:V) (n:Nat),fj d n=true->bw d d=true)/\∀(l:List V) (n:Nat),keyVs l n=true->eqVs l l=true:=
 gB (fun U U=>aA rfl) (fun l U=>a9 l) (fun U U U h=>h) (fun U=>rfl) fun U U U h k=>ay.mpr ⟨h,k⟩
theorem Bx {h:Heap} {x y:V} {n m:Nat} {v:Value} (hx:fj x n=true) (hy:fj y m=true) (rx:VR (G' h) x v) (ry:VR (G' h) y v):x=y:=
 gw (gR (fun _ _ (p:G' h _ _)=>p.1) (gY.1 x n hx) rx) fun as q1 c1 U=>bu (gR (fun _ _ (p:G' h _ _)=>p.1) (gY.1 y m hy) ry) fun bs q2 U=>
  qL.1 x n hx y m hy ((iQ.1 x y n (gY.1 x n hx)).symm.trans (ak (aB (PyData.eqv · (gQ y)) (PySem.SeqAt.Reads.unique _ _ _ _ _ c1 q1 q2)) ((iQ.1 y y m (gY.1 y m hy)).trans (lp.1 y m hy))))
section
variable {prog:Program} {w:World} {E:Value->Shared->Prop}
theorem rD:(∀(d:V) (n:Nat),fj d n=true->∀(v:Value) (A:Around) (s:Shared) (Q:Int->Shared->Prop),VR (G' s.heap) d v->A.units+n<cLine->Q (fJ w d) {s with toks:=s.toks+km d}->wpAny (model prog w) A (pyHash v) Q E s)/\
  ∀(ds:List V) (n:Nat),keyVs ds n=true->∀(vs:List Value) (A:Around) (s:Shared) (b:Array Int) (Q:Array Int->Shared->Prop),VRs (G' s.heap) ds vs->A.units+n<cLine->
   (∀b',b'.toList=b.toList++hashKs w ds->Q b' {s with toks:=s.toks+drawsKs ds})->
   wpAny (model prog w) A (forIn vs b fun x r=>do let h <-pyHash x;pure PUnit.unit;pure (ForInStep.yield (r.push h))) Q E s:=by
 refine gB (fun i n v A s Q r U h=> ?_) (fun l n v A s Q r U h=> ?_) (fun l n U ih v A s Q r hu h=> ?_) (fun n vs A s b Q r U h=> ?_) fun d ds n h1 h2 vs A s b Q r hu h=> ?_
 ·exact dU r fun t q=>bi q (wpAny_pyHash_int h)
 ·exact bu r fun t q U=>bi q (wpAny_pyHash_str h)
 ·refine r.rec fun a vs m q g hv=>bi q (pyHash_slot ⟨_,g.1,rfl⟩ F.slot_tuple_hash F.entry_tuple_hash (F.args_tuple_hash_1 _) (beq_builtin_none _) (.inr (by lia)) ?_);show wpAny _ _ (Builtin.Tuple.tupleItemsOf (.ref a)>>=_) _ _ s;refine ae (wpAny_tupleItemsOf g.1 rfl (ae ?_));refine AC (Eq.symm (Array.forIn_toList ..)) ?_;refine ih vs A.in1 s #[] _ hv (by show A.units+1+n<cLine;lia) fun b hb=> ?_;show wpAny _ _ (retInt (Builtin.Tuple.tupleHashOf b.toList)) _ _ _;rw [hb];exact ae (wpAny_mkInt (am ⟨_,_,rfl,h⟩))
 ·exact bi r (am (h b (aE _).symm))
 ·cases vs with
  | nil=>exact r.elim
  | cons v vs=>
   refine AC (List.forIn_cons ..) ?_;refine ae (ae (h1 v A s _ r.1 hu (ae (am (am ?_)))));refine h2 vs A {s with toks:=s.toks+km d} _ Q r.2 hu fun b' hb=> ?_;refine (Nat.add_assoc s.toks (km d) (drawsKs ds)).symm▸h b' (hb.trans ?_);rw [Array.toList_push];exact aw ..
theorem xw (d:V) (n:Nat) (h:fj d n=true):∀(v:Value) (A:Around) (s:Shared) (Q:Bool->Shared->Prop),VR (G' s.heap) d v->Q true s->wpAny (model prog w) A (eqIsQuiet n v) Q E s:=by
 refine jW ?_ ?_ ?_ d n h
 ·exact fun i n v A s Q r h=>dU r fun t q=>bi q (wpAny_of_eq (eqIsQuiet_byValue _ rfl) h)
 ·exact fun l n v A s Q r h=>bu r fun t q U=>bi q (wpAny_of_eq (eqIsQuiet_byValue _ rfl) h)
 ·refine fun l n U ih v A s Q r h=>r.rec fun a vs m q g hv=>bi q ?_;have hT:s.TypeIs (.ref a) "tuple" :=⟨_,g.1,rfl⟩;unfold eqIsQuiet;refine ae (wpAny_specialOf hT F.slot_tuple_eq.lookup ?_);refine ae (wpAny_isInstance hT isSubtype_tuple_tuple ?_);refine ae (wpAny_seqItems g.1 rfl (ae ?_));refine AC (Eq.symm (Array.forIn_toList ..)) ?_;refine wpAny_forIn_list _ (fun rest r s'=>(r.1=none/\s'=s)/\∃ds,VRs (G' s.heap) ds rest/\∀d∈ds,d∈l) _ ?_ ?_ _ _ ⟨⟨rfl,rfl⟩,l,hv,fun U=>id⟩
  ·refine fun v rest r s' h=>bi h.1.2 (bu h.2 fun ds hds hk=> ?_)
   cases ds with
   | nil=>exact qm hds
   | cons d ds=>exact ae (ih d (hk d (.head _)) v _ _ _ hds.1 (am ⟨⟨rfl,rfl⟩,ds,hds.2,fun x hx=>hk x (.tail _ hx)⟩))
  ·intro zp1 s' zp2;obtain ⟨r1,r2⟩:=zp1;obtain ⟨⟨hr,rfl⟩,U⟩:=zp2
   cases (hr)
   exact am h
end
noncomputable local instance vDec:DecidableEq V:=fun U U=>Classical.propDecidable _
noncomputable def kk (prog:Program) (w:World):HeapKind prog w V:=
 {is:=fun h k a=>fj k 8=true/\VR (G' h) k (.ref a)
  hash:=fJ w
  draws:=km
  room:=fun A=>A.units+20<cLine
  inj:=fun {h a x y} hx hy=>Bx hx.1 hy.1 hx.2 hy.2
  keeps:=fun {h h' k a d o es ep} hk ho hd hs=>⟨hk.1,hk.2.mono fun b ob g=>⟨(hs.2 b (fun q=>by subst q;have:=g.1.symm.trans ho;cases this;exact g.2.nd _ _ hd)).trans g.1,g.2⟩⟩
  pyHash:=fun {A E s k a Q} hu hk h=>rD.1 k 8 hk.1 _ A s Q hk.2 (by lia) h
  eqBool:=fun {A E s x y a b Q} hu hx hy h=>by
   have q:=(vv (A:=A) (s:=s) (fun _ _ (g:G' s.heap _ _)=>g.1) (aY.mpr (.inl (ay.mpr ⟨gY.1 x 8 hx.1,gY.1 y 8 hy.1⟩))) hx.2 hy.2 (by lia)).2
   have e:bw x y=decide (x=y):=by
    rw [Bool.eq_iff_iff,decide_eq_true_iff];exact ⟨qL.1 x 8 hx.1 y 8 hy.1,fun q=>q▸lp.1 y 8 hy.1⟩
   rw [e] at q;exact q _ _ _ _ h
  quiet:=fun {A E s k a Q} hk h=>xw k 8 hk.1 _ A s Q hk.2 h}
noncomputable local instance vDec2:DecidableEq V:=fun U U=>Classical.propDecidable _
inductive KX (G:Wd):List (V×V)->List (V×Addr×Value)->Prop
 | nil:KX G [] []
 | cons {p:V×V} {fs:List (V×V)} {a:Addr} {v:Value} {r:List (V×Addr×Value)} (h0:fj p.1 8=true) (h1:VR G p.1 (.ref a)) (h2:VR G p.2 v) (h:KX G fs r):KX G (p::fs) ((p.1,a,v)::r)
section
variable {G:Wd}
theorem uu {d:V} (h:hO d=true):∃l,d= .tup l/\fj d 8=true:=by
 cases d with
 | tup l=>exact ⟨l,rfl,h⟩
 | _=>exact cR h
theorem j9 {d:V} {v:Value} (h:hO d=true) (r:VR G d v):∃a,v= .ref a:=
 bu (uu h) fun l e U=>(e▸r:VR G (.tup l) v).rec fun a U U e U U=>⟨a,e⟩
theorem jp {d:V} (h:hO d=true):fj d 8=true:=bu (uu h) fun U U=>id
theorem Gz {prog:Program} {w:World} {fs:List (V×V)} {es:List DictEntry} (h:DR G (fJ w) fs es):(∀e∈fs,hO e.1=true)->∃xs,KX G fs xs/\es=xs.map (entryOfKey (kk prog w)):=
 h.ind (fun U=>⟨[], .nil,rfl⟩) fun {p fs u v r} hu hv _ ih hk=>bu (ih fun e he=>hk e (.tail _ he)) fun xs h4 h5=>dU (j9 (hk p (.head _)) hu) fun a q=>⟨_, .cons (jp (hk p (.head _))) (q▸hu) hv h4,by rw [q,h5];rfl⟩
theorem KX.dr {prog:Program} {w:World} {fs:List (V×V)} {xs:List (V×Addr×Value)} (h:KX G fs xs):DR G (fJ w) fs (xs.map (entryOfKey (kk prog w))):=by
 induction h with
 | nil=>rfl
 | cons U h1 h2 z1 ih=>exact .mk h1 h2 ih
theorem KX.keys {fs:List (V×V)} {xs:List (V×Addr×Value)} (h:KX G fs xs):xs.map (·.1)=fs.map (·.1):=by
 induction h with
 | nil=>rfl
 | cons U z1 z2 z3 ih=>exact aB (_:: ·) ih
theorem KX.len {fs:List (V×V)} {xs:List (V×Addr×Value)} (h:KX G fs xs):xs.length=fs.length:=(ah (·.1)).symm.trans ((aB List.length h.keys).trans (ah _))
theorem KX.key {fs:List (V×V)} {xs:List (V×Addr×Value)} (h:KX G fs xs):∀x∈xs,fj x.1 8=true/\VR G x.1 (.ref x.2.1):=by
 induction h with
 | nil=>exact fun U h=>fh h
 | cons h0 h1 U z1 ih=>exact aa.mpr ⟨⟨h0,h1⟩,ih⟩
theorem iR {d k:V} (h:fj d 8=true) (hk:fj k 8=true):bw d k=true↔d=k:=⟨qL.1 d 8 h k 8 hk,fun e=>e▸lp.1 d 8 h⟩
theorem atKey_cons {d k:V} {p:Addr×Value} {xs:List (V×Addr×Value)}:atKey ((d,p)::xs) k=if d=k then some p else atKey xs k:=by
 by_cases h:d=k
 ·rw [if_pos h];simp [atKey,h]
 ·rw [if_neg h];simp [atKey,h]
theorem mz {k:V} {p:V×V} {fs:List (V×V)}:(p::fs).find? (fun e=>bw e.1 k)=cond (bw p.1 k) (some p) (fs.find? (fun e=>bw e.1 k)):=by
 refine ak (List.find?_cons ..) ?_;cases bw p.1 k<;>rfl
theorem KX.find {k:V} (hk:fj k 8=true) {fs:List (V×V)} {xs:List (V×Addr×Value)} (h:KX G fs xs):(∃e p,fs.find? (fun e=>bw e.1 k)=some e/\atKey xs k=some p/\VR G e.2 p.2)\/(fs.find? (fun e=>bw e.1 k)=none/\atKey xs k=none):=by
 induction h with
 | nil=>exact .inr ⟨rfl,rfl⟩
 | @cons p fs a v r h0 h1 h2 h ih=>
  rw [atKey_cons,mz]
  cases hd:bw p.1 k with
  | true=>rw [if_pos ((iR h0 hk).mp hd)];exact .inl ⟨p,(a,v),rfl,rfl,h2⟩
  | false=>rw [if_neg fun q=>lN (((iR h0 hk).mpr q).symm.trans hd)];exact ih
theorem xM {k:V} (fs:List (V×V)):fs.any (fun e=>bw e.1 k)=(fs.find? (fun e=>bw e.1 k)).isSome:=by
 induction fs with
 | nil=>rfl
 | cons p fs ih=>
  rw [mz];refine ak (List.any_cons ..) ?_;rw [ih]
  cases bw p.1 k<;>rfl
theorem KX.any {fs:List (V×V)} {xs:List (V×Addr×Value)} (h:KX G fs xs) {k:V} (hk:fj k 8=true):(atKey xs k).isSome=fs.any (fun e=>bw e.1 k):=by
 rw [xM];rcases h.find hk with ⟨e,p,h1,h2,U⟩ | ⟨h1,h2⟩<;>rw [h1,h2]<;>rfl
theorem kO {k x:V} {p:V×V} {fs:List (V×V)} (h:bw p.1 k=true):jv k x (p::fs)=(p.1,x)::fs:=if_pos h
theorem jn {k x:V} {p:V×V} {fs:List (V×V)} (h:¬bw p.1 k=true):jv k x (p::fs)=p::jv k x fs:=if_neg h
theorem KX.stored {k e:V} {a:Addr} {v:Value} (hk:fj k 8=true) (hk1:VR G k (.ref a)) (hv:VR G e v) {fs:List (V×V)} {xs:List (V×Addr×Value)} (h:KX G fs xs):(xs.map (·.1)).Nodup->KX G (jv k e fs) (storedH xs k a v):=by
 induction h with
 | nil=>exact fun U=> .cons (p:=(k,e)) hk hk1 hv .nil
 | @cons p fs b w r h0 h1 h2 h ih=>
  intro hn;have hn':=List.nodup_cons.mp hn
  by_cases hd:bw p.1 k=true
  ·have e1:=(iR h0 hk).mp hd;rw [kO hd,storedH_old (p:=(b,w)) (atKey_cons.trans (if_pos e1)),aR,map_putAt_of_not_mem r k v (e1▸hn'.1),putAt,if_pos e1];exact .cons (p:=(p.1,e)) h0 h1 hv h
  ·have e1:p.1≠k:=fun q=>hd ((iR h0 hk).mpr q);rw [jn hd];have q:=(atKey_cons (p:=(b,w)) (xs:=r)).trans (if_neg e1);refine (?_:storedH ((p.1,b,w)::r) k a v=(p.1,b,w)::storedH r k a v)▸ .cons h0 h1 h2 (ih hn'.2)
   cases ha:atKey r k with
   | some z=>rw [storedH_old (q.trans ha),storedH_old ha,aR,putAt,if_neg e1]
   | none=>rw [storedH_new (q.trans ha),storedH_new ha];rfl
theorem z0 {k x d:V} {fs:List (V×V)}:d∈(jv k x fs).map (·.1)->d∈fs.map (·.1)\/d=k:=by
 induction fs with
 | nil=>exact fun h=> .inr (ao.mp h)
 | cons p fs ih=>
  by_cases hd:bw p.1 k=true
  ·rw [kO hd];exact .inl
  ·rw [jn hd];exact fun h=>(au.mp h).elim (fun q=> .inl (q▸ .head _)) fun q=>(ih q).imp (.tail _) id
theorem qW {k x:V} (hk:hO k=true) {fs:List (V×V)}:nh fs->nh (jv k x fs):=by
 induction fs with
 | nil=>exact fun U=>⟨aa.mpr ⟨hk,fun U h=>fh h⟩,List.nodup_cons.mpr ⟨fun h=>fh h,List.nodup_nil⟩⟩
 | cons p fs ih=>
  intro h;have h1:=aa.mp h.1;have h2:=List.nodup_cons.mp h.2;have ih:=ih ⟨h1.2,h2.2⟩
  by_cases hd:bw p.1 k=true
  ·rw [kO hd];exact ⟨aa.mpr h1,h.2⟩
  ·rw [jn hd];exact ⟨aa.mpr ⟨h1.1,ih.1⟩,List.nodup_cons.mpr ⟨fun q=>(z0 q).elim h2.1 fun q=>hd ((iR (jp h1.1) (jp hk)).mpr q),ih.2⟩⟩
end
section
variable {T:cK} {Y:be} {s:Shared} {A:Around} {K E:Value->Shared->Prop} {Q X:KV} {h':Heap}
theorem j8 (hT:T.hash=fJ T.w) (st:St T Y s.heap) {a:Addr} {fs:List (V×V)} (e:Y a=some (.dict fs)):∃xs n,KX (G Y s.heap) fs xs/\s.heap.get? a=some (ig (xs.map (entryOfKey (kk T.prog T.w))) n)/\s.heap.DictOfH (kk T.prog T.w) a xs/\nh fs:=
 bu (st.sto a _ e).2 fun o ho q=>eJ q fun es n e hd hk=>bu (Gz (prog:=T.prog) (hT▸hd) hk.1) fun xs h1 h2=>by
  rw [e,h2] at ho;exact ⟨xs,n,h1,ho,⟨_,_,n,ho,⟨rfl,rfl,rfl⟩,rfl,rfl,fun x hx=>⟨(h1.key x hx).1,(h1.key x hx).2.mono fun U U p=>⟨p.1,p.2.2⟩⟩,h1.keys▸hk.2⟩,hk⟩
theorem qX {prog:Program} {w:World} {K:Type} [DecidableEq K] {knd:HeapKind prog w K} {d a:Addr} {k:K} {xs:List (K×Addr×Value)} {Q:Value->Shared->Prop} (hu:knd.room A.in1) (hkey:knd.is s.heap k a) (hd:(d==sysModules)=false) (hm:s.heap.DictOfH knd d xs) (h:Q (.bool (!(atKey xs k).isSome)) {s with toks:=s.toks+knd.draws k}):wpAny (model prog w) A (compareOp .NotIn (.ref a) (.ref d)) Q E s:=by
 refine ae ?_;delta contains
 try with_reducible refine aH ?_
 refine ae (wpAny_specialOf hm.typeIs slot_dict_contains.lookup ?_)
 refine ae (wpAny_callSpecialUnlessNone?_slot hm.typeIs slot_dict_contains
  (wpAny_call_entry slot_dict_contains hm.typeIs entry_dict_contains ?_ (args_dict_contains _ _)))
 show wpAny _ _ (dictGet d (.ref a)>>=_) _ _ s;refine ae (wpAny_dictGet_heap hu hkey hm ?_)
 cases hf:atKey xs k with
 | some p=>
  rw [hf] at h;exact am ⟨_,rfl,wpAny_truthy_bool (am h)⟩
 | none=>
  rw [hf] at h;exact ae (wpAny_pendingKey_other hd (am ⟨_,rfl,wpAny_truthy_bool (am h)⟩))
theorem m8 {a:Addr} (h:a≠1):(a==sysModules)=false:=beq_eq_false_iff_ne.mpr h
theorem z9 (hT:T.hash=fJ T.w) (st:St T Y s.heap) {a:Addr} {es:List (V×V)} (e:Y a=some (.dict es)) (h1:a≠1) (hl:es.length<=1000) (q:Q (.int es.length) Y) (k:Kv T Y s Q K):wpAny (model T.prog T.w) A (PySem.call (.builtin "len") [.ref a]) K E s:=by
 refine qj (j8 hT st e) fun xs n hx ho hD hk=>(call_len_slot (T:= "dict") ⟨_,ho,rfl⟩ F.slot_dict_len (fun Q' hq=>wpAny_call_entry F.slot_dict_len ⟨_,ho,rfl⟩ F.entry_dict_len ?_ (F.args_dict_len_1 _)) (by lia) (by lia) (k.int st _ q));show wpAny _ _ (dictSize a>>=_) _ _ s;delta dictSize;refine ae (ae (wpAny_dictEntries ho rfl (am ?_)));refine ae (wpAny_pendingCount_other (m8 h1) ?_);refine ae (wpAny_mkInt (am ⟨_,rfl, ?_⟩));rw [show (((xs.map (entryOfKey (kk T.prog T.w))).toArray.size:Int)+((0:Nat):Int))=(es.length:Int) by rw [aI,ah,hx.len];rfl];exact hq
theorem j7 {u:Nat} (h:u+100<=9900):u+1+20<cLine:=by delta cLine;lia
theorem sC {u:Nat} (h:u+100<=9900):u+9<cLine:=by delta cLine;lia
theorem nY {G:Wd} {d:V} {v:Value} {f:Addr×List (V×V)->Prop} (r:VR G d v) (q:on (lP d Y) f):∃a l,v= .ref a/\d= .ref a/\Y a=some (.dict l)/\f (a,l):=by
 refine bu (bH q) fun p e q=> ?_;obtain ⟨e1,e2⟩:=vR e;rw [e1] at r;exact ⟨p.1,p.2,r,e1,e2,q⟩
theorem AN (hT:T.hash=fJ T.w) (hu:A.units+100<=9900) (st:St T Y s.heap) {x v:Value} {d b:V} {neg:Bool} (hx:VR (G Y s.heap) d x) (hv:VR (G Y s.heap) b v) (q:on (lP b Y) fun p=>gd (decide (p.1≠1)) (gd (hO d) (Q (.bool (fl neg (p.2.any (fun e=>bw e.1 d)))) Y))) (k:Kv T Y s Q K):wpAny (model T.prog T.w) A (compareOp (cond neg .NotIn .In) x v) K E s:=by
 refine qj (nY hv q) fun a l y1 U e q=> ?_;subst y1;obtain ⟨h1,q⟩:=cF q;obtain ⟨hk,q⟩:=dG q;refine qj (j8 hT st e) fun xs n hX ho hD U=> ?_;obtain ⟨c,rfl⟩:=j9 hk hx;have hk8:=jp hk;have his:(kk T.prog T.w).is s.heap d c:=⟨hk8,hx.mono fun U U p=>⟨p.1,p.2.2⟩⟩;rw [<-hX.any hk8] at q
 cases neg with
 | false=>exact wpAny_in_heap (j7 hu) his (m8 h1) hD (k.same (d:= .bool _) st _ rfl q)
 | true=>exact qX (j7 hu) his (m8 h1) hD (k.same (d:= .bool _) st _ rfl q)
theorem mE {op:CmpOp} (hT:T.hash=fJ T.w) (hu:A.units+100<=9900) (st:St T Y s.heap) {a b:Value} {d e:V} (va:VR (G Y s.heap) d a) (vb:VR (G Y s.heap) e b) (q:BN op d e Y Q) (k:Kv T Y s Q K):wpAny (model T.prog T.w) A (compareOp op a b) K E s:=by
 have inn:∀{neg},EH neg d e Y Q->wpAny (model T.prog T.w) A (compareOp (cond neg .NotIn .In) a b) K E s:=fun {neg} q=>by
  cases h:fv e with
  | some l=>exact xF st va vb h q k
  | none=>
   delta EH at q;rw [h] at q;have q:Fg neg d e Y Q:=q;delta Fg at q
   cases h2:cI e Y with
   | some l=>rw [h2] at q;exact mO st (sC hu) va vb h2 (dG q).1 (dG q).2 k
   | none=>rw [h2] at q;exact AN hT hu st va vb q k
 have num:∀{op:CmpOp},(gk d e fun i j=>on (rG op i j) fun r=>Q (.bool r) Y)->(∀i t j u r,rG op i j=some r->Q (.bool r) Y->wpAny (model T.prog T.w) A (compareOp op (.int i t) (.int j u)) K E s)->wpAny (model T.prog T.w) A (compareOp op a b) K E s:=fun q h=>
  vI q va fun i t U q=>vI q vb fun j u U q=>by refine bu (bH q) fun r e q=> ?_;exact h i t j u r e q
 cases op with
 | Eq=>exact oA st (Nat.lt_of_succ_lt (sC hu)) va vb q k
 | NotEq=>exact oA st (Nat.lt_of_succ_lt (sC hu)) va vb q k
 | Is=>exact pJ st va vb q k
 | IsNot=>exact pJ st va vb q k
 | In=>exact inn q
 | NotIn=>exact inn q
 | Lt=>exact num q fun i t j u r e q=>by cases e;exact PyProof.Rows.lt_int (k.bool st q)
 | LtE=>exact num q fun i t j u r e q=>by cases e;exact PyProof.Rows.le_int (k.bool st q)
 | Gt=>exact num q fun i t j u r e q=>by cases e;exact PyProof.Rows.gt_int (k.bool st q)
 | GtE=>exact num q fun i t j u r e q=>by cases e;exact PyProof.Rows.ge_int (k.bool st q)
theorem Ee {x y:Expr} (hT:T.hash=fJ T.w) (hu:A.units+100<=9900) (st:St T Y s.heap) {v j:Value} {d dj:V} (hv:VR (G Y s.heap) d v) (hj:VR (G Y s.heap) dj j) (q:l6 d dj Y Q) (k:Kv T Y s Q K):wpAny (model T.prog T.w) A (subscriptTail x y v j) K E s:=by
 delta l6 at q
 cases h:lM d with
 | some l=>
  rw [h] at q;refine vS (f:=fun l'=>l'=l) (by rw [h];rfl) hv fun l' t U hb r=> ?_;subst r;exact vI q hj fun i u U q=>by obtain ⟨q0,q⟩:=cF q;exact bu (bH q) fun m q1 q2=>BE st hb q0 q1 q2 k
 | none=>
  rw [h] at q
  cases h2:cI d Y with
  | some l=>
   rw [h2] at q;exact vI q hj fun i u U q=>by obtain ⟨q0,q⟩:=cF q;exact bu (bH q) fun m q1 q=>bu (bH q) fun z q2 q3=>Bb st hv h2 q0 q1 q2 q3 k
  | none=>
   rw [h2] at q;refine cr fun hn=>(qj (nY hv q) fun a l y21 U e q=> ?_);subst y21;obtain ⟨h1,q⟩:=cF q;obtain ⟨hk,q⟩:=dG q;refine bu (bH q) fun z hz q=>(qj (j8 hT st e) fun xs n hX ho hD U=> ?_);obtain ⟨c,rfl⟩:=j9 hk hj;refine hn ?_;have hk8:=jp hk;rcases hX.find hk8 with ⟨y',p',e1,e2,r⟩ | ⟨e1,U⟩
   ·rw [hz] at e1;injection e1 with e1;subst e1;exact dA ⟨_,ho,rfl⟩ slot_dict_getitem.lookup (wpAny_getItem_heap (knd:=kk T.prog T.w) (j7 hu) ⟨hk8,hj.mono fun U U p=>⟨p.1,p.2.2⟩⟩ hD e2 (k.same st _ r q))
   ·rw [hz] at e1;cases e1
theorem AW {K:Unit->Shared->Prop} {P:be->Prop} (hT:T.hash=fJ T.w) (hu:A.units+100<=9900) (st:St T Y s.heap) {v j w:Value} {d dj x:V} (hv:VR (G Y s.heap) d v) (hj:VR (G Y s.heap) dj j) (hw:VR (G Y s.heap) x w) (q:jS d dj x Y P) (k:EF T Y s P (K ())):wpAny (model T.prog T.w) A (setItem v j w) K E s:=by
 delta jS at q
 cases h:fG d Y with
 | some p=>
  rw [h] at q;obtain ⟨rfl,e⟩:=gh h;rw [show v=_ from hv];exact vI q hj fun i u U q=>by obtain ⟨q0,q⟩:=cF q;exact let ⟨m,q1,q2⟩:=bH q;wg st hw e q0 q1 q2 k
 | none=>
  rw [h] at q;obtain ⟨a,l,rfl,U,e,q⟩:=nY hv q;obtain ⟨h1,q⟩:=cF q;refine fI (dG q) fun hk q=> ?_;obtain ⟨hl,q⟩:=cF q;obtain ⟨xs,n,hX,ho,hD,hok⟩:=j8 hT st e;obtain ⟨c,rfl⟩:=j9 hk hj;have hk8:=jp hk;refine wpAny_setItem_heap (knd:=kk T.prog T.w) (j7 hu) ⟨hk8,hj.mono fun U U p=>⟨p.1,p.2.2⟩⟩ hD (fun h' hm hs=> ?_) ((have hl:l.length<=100:=hl;show _<=16777216 from by rw [hX.len];lia));refine cr fun hn=> ?_;obtain ⟨⟨c',dd,dt,sl⟩,es',ep',g1,⟨rfl,rfl,rfl⟩,rfl,g4,U,U⟩:=hm;refine hn ?_;have hes:es'=((storedH xs dj c w).map (entryOfKey (kk T.prog T.w))).toArray:=by rw [<-g4]
  clear g4;subst hes;exact k _ _ _ (.upd (d':= .dict (jv dj x l)) st e (fun h=>nomatch h) (fun b o hb q=>hs.extBut b o hb q) g1 ⟨_,_,rfl,by rw [hT];exact (hX.stored hk8 hj hw (by rw [hX.keys];exact hok.2)).dr,qW hk hok⟩) q
end
noncomputable def lj (K:Frag) (attr:Option Value):Bool:=attr.all fun a=>(specialIn K a "__get__").isSome && takesIn K a==some false
noncomputable def mF (K:Frag) (C:Addr) (n:Nat):Bool:=match findIn K (.ref C) (nm n) with
 | some attr=>lj K attr
 | none=>false
noncomputable def pQ (K:Frag) (C:Addr):Bool:=hasDictIn K C && (plainGet K C "" && (plainOver K C && findIn K (.ref C) "__setattr__" ==some (some (.builtin "object.__setattr__"))))
noncomputable def fq (t:Nat->Tok):List (Str×Value):=[(⟨[115,105,110,103,108,101].toArray⟩, .bytes (bG [115,105,110,103,108,101]) (t 0)),(⟨[119,105,100,101].toArray⟩, .bytes (bG [119,105,100,101]) (t 1)),
 (⟨[116,111,112].toArray⟩, .bytes (bG [116,111,112]) (t 2)),(⟨[98,111,116,116,111,109].toArray⟩, .bytes (bG [98,111,116,116,111,109]) (t 3))]
noncomputable def kh:Fn->Bool | .user U=>true | _=>false
structure cc (T:cK) (TB:eT) (K:Frag):Prop where
 hash:T.hash=fJ T.w
 inn:∀h,T.top h->K.In h
 cls:∀C,i8 C=true->pQ K C=true
 fld:∀C,i8 C=true->∀n,n<nmL.length->mF K C n=true
 meth:∀i,i<56->gG i=true->findIn K (.ref (TB.cls i)) (dN i)=some (some (.ref (bX i)))/\typeIn K (.ref (bX i))=some (.type "function")
 sz:∃t ep,∀h,T.top h->h.DictAt (PySem.strKind T.prog T.w) 63 (fq t) ep
 gns:∀h,T.top h->h.Ns mainGlobals T.gl
 bns:∀h,T.top h->h.Ns builtinsNs T.bl
 glob:∀h,T.top h->∀g,g<8->∃v,T.gl (lz g)=some v/\VR (fun a o=>h.get? a=some o/\a<T.lo/\cN o) (TB.gval g) v
 bfn:∀f,kh f=false->T.gl f.name=none/\T.bl f.name=some f.val
 ufn:∀i,i<56->gG i=false->T.gl (dN i)=some (.ref (bX i))
 keeper:∀i,i<56->∀{A:Around} {s:Shared} {Q:Keeper->Shared->Prop} {E:Value->Shared->Prop},T.top s.heap->Q .frame s->Q .machine s->wpAny (model T.prog T.w) A (keeperOf (.ref (bX i))) Q E s
 keeper45:∀{A:Around} {s:Shared} {Q:Keeper->Shared->Prop} {E:Value->Shared->Prop},T.top s.heap->Q .frame s->Q .machine s->wpAny (model T.prog T.w) A (keeperOf (.ref 45)) Q E s
 zip:T.gl "zip" =none/\T.bl "zip" =some (.type "zip")
 enum:T.gl "enumerate" =none/\T.bl "enumerate" =some (.type "enumerate")
 szw:T.gl "SIZE_WORDS" =some (.ref 63)
 bad:T.gl "BadInfo" =some (.ref 45)
theorem vt {K:Frag} {a:Value} (h:lj K (some a)=true):(∃g,specialIn K a "__get__" =some g)/\takesIn K a=some false:=
 ⟨Option.isSome_iff_exists.mp (al h),eq_of_beq (ar h)⟩
theorem iq {K:Frag} {C:Addr} {od:Obj} {name:Str} {v:Value} {attr:Option Value} (hh:hasDictIn K C=true) (ha:findIn K (.ref C) name=some attr) (hn:lj K attr=true) (hl:lookIn name od=some (some v)):findObj K C (some od) name=some (.value v):=by
 refine bu (any_some hh) fun cd hc hd=> ?_;delta findObj;rw [hc];refine ak (Option.bind_some ..) ?_;rw [ha];refine ak (Option.bind_some ..) ?_;have ho:W.ownOf cd (some od) name=some (some v):=by delta W.ownOf;rw [if_pos hd];exact hl
 cases attr with
 | none=>show Option.bind (W.ownOf cd (some od) name) _=_;rw [ho];rfl
 | some a=>
  refine fI (vt hn) fun hg ht=>dU hg fun g hg=> ?_;show Option.bind (specialIn K a (Str.ofString "__get__")) _=_;rw [hg]
  cases g with
  | none=>show Option.bind (W.ownOf cd (some od) name) _=_;rw [ho];rfl
  | some g=>
   show Option.bind (takesIn K a) _=_;rw [ht];show Option.bind (W.ownOf cd (some od) name) _=_;rw [ho];rfl
section
variable {G:Wd} {P:Params}
theorem pW (i j:Nat) (t:Tok) (hi:i<nmL.length) (hj:j<nmL.length):(Value.str (nm i) t).isStr (nm j)=decide (i=j):=by
 show (nm i==nm j)=_;rw [Bool.eq_iff_iff,beq_iff_eq,decide_eq_true_iff];exact ⟨lD hi hj,aB nm⟩
theorem FR.noRef {fs:List (Nat×V)} {es:List DictEntry} (h:FR G P fs es):es.any (·.refKey)=false:=
 h.ind rfl fun U U U ih=>ih
theorem FR.look {n:Nat} {x:V} (hn:n<nmL.length) {fs:List (Nat×V)} {es:List DictEntry} (h:FR G P fs es):fs.lookup n=some x->∃e,es.find? (·.key.isStr (nm n))=some e/\VR G x e.val:=by
 refine h.ind (fun q=>bZ q) fun {p fs t v r} hi hv _ ih=> ?_;rw [List.find?_cons,pW _ n t hi hn]
 by_cases hin:p.1=n
 ·rw [aA hin];exact fun q=>⟨_,rfl,bW (q.symm.trans (dB hin))▸hv⟩
 ·rw [decide_eq_false hin];exact fun q=>ih ((cY hin).symm.trans q)
theorem FR.miss {x:Str} {fs:List (Nat×V)} {es:List DictEntry} (h:FR G P fs es):(∀p∈fs,p.1<nmL.length->nm p.1≠x)->es.find? (·.key.isStr x)=none:=by
 refine h.ind (fun U=>rfl) fun {p fs t v r} hi _ _ ih q=> ?_;rw [List.find?_cons,show (Value.str (nm p.1) t).isStr x=false from beq_false_of_ne (q p (.head _) hi)];exact ih fun p hp=>q p (.tail _ hp)
theorem FR.len {fs:List (Nat×V)} {es:List DictEntry} (h:FR G P fs es):es.length=fs.length:=
 h.ind rfl fun U U U ih=>aB (· +1) ih
theorem xK {n:Nat} {x:V} {p:Nat×V} {fs:List (Nat×V)} (h:p.1=n):lV n x (p::fs)=(p.1,x)::fs:=by
 show cond (Nat.beq p.1 n) _ _=_;rw [h,Nat.beq_refl];rfl
theorem xq {n:Nat} {x:V} {p:Nat×V} {fs:List (Nat×V)} (h:p.1≠n):lV n x (p::fs)=p::lV n x fs:=by
 show cond (Nat.beq p.1 n) _ _=_;rw [show Nat.beq p.1 n=false from Bool.eq_false_iff.mpr fun q=>h (aQ q)];rfl
theorem FR.put {n:Nat} {t:Tok} {w:Value} {x:V} (hn:n<nmL.length) (hw:VR G x w) {fs:List (Nat×V)} {es:List DictEntry} (h:FR G P fs es):(es.findIdx? (·.key.isStr (nm n))=none/\FR G P (lV n x fs) (es++[⟨PyData.keyHash P (nm n), .str (nm n) t,w⟩]))\/∃j,es.findIdx? (·.key.isStr (nm n))=some j/\FR G P (lV n x fs) (es.modify j fun e=>{e with val:=w}):=by
 refine h.ind (.inl ⟨rfl, .mk (p:=(n,x)) hn hw rfl⟩) fun {p fs t' v r} hi hv h ih=> ?_;rw [List.findIdx?_cons,pW _ n t' hi hn]
 by_cases hin:p.1=n
 ·rw [aA hin,xK hin];exact .inr ⟨0,rfl, .mk (p:=(p.1,x)) hi hw h⟩
 ·rw [decide_eq_false hin,xq hin];exact ih.imp (fun q=>⟨by rw [q.1];rfl, .mk hi hv q.2⟩) fun q=>bu q fun j q1 q2=>⟨j+1,by rw [q1];rfl, .mk hi hv q2⟩
theorem FR.putName {fs:List (Nat×V)} {es:List DictEntry} (h:FR G P fs es) {n m:Nat} {t:Tok} {w:Value} {x:V} (hn:n<nmL.length) (hw:VR G x w):∃es' m',Obj.putName (nm n) (PyData.keyHash P (nm n)) (.str (nm n) t) w (ig es m)=ig es' m'/\FR G P (lV n x fs) es'/\es'.length<=es.length+1:=by
 rw [Obj.putName_eq];delta Obj.putNameByArray;rcases h.put (t:=t) hn hw with ⟨q,r⟩ | ⟨j,q,r⟩
 ·exact ⟨_,m+1,by simp only [List.findIdx?_toArray,q,List.push_toArray],r,by rw [ai];exact av _⟩
 ·exact ⟨_,m,by simp only [List.findIdx?_toArray,q,List.modify_toArray],r,by rw [List.length_modify];exact Nat.le_succ _⟩
end
section
variable {T:cK} {TB:eT} {Kf:Frag} {Y:be} {s:Shared} {A:Around} {E:Value->Shared->Prop} {Q X:KV} {h':Heap}
theorem FO {o:O} {p:Addr×Addr} (h:oI o=some p):o= .inst p.1 p.2:=by
 cases o with
 | inst a b=>(replace h:=bW h;subst h);rfl
 | _=>cases h
theorem EN {o:O} {p:List (Nat×V)} (h:oF o=some p):o= .idict p:=by
 cases o with
 | idict a=>(replace h:=bW h;subst h);rfl
 | _=>cases h
theorem nX {d:V} {v:Value} {p:Addr×Addr×List (Nat×V)} (st:St T Y s.heap) (r:VR (G Y s.heap) d v) (q:gC d Y=some p):∃a es n,v= .ref a/\i8 p.1=true/\InstAt s.heap a {cls:= .ref p.1,dict:=some p.2.1,data:= .plain} p.1 (some (ig es n))/\s.heap.get? p.2.1=some (ig es n)/\FR (G Y s.heap) T.w.params p.2.2 es/\Y p.2.1=some (.idict p.2.2):=by
 refine cr fun hn=>(bu (aK.mp q) fun a e1 q=> ?_);refine bu (aK.mp q) fun o e2 q=>(bu (aK.mp q) fun x e3 q=> ?_);refine bu (aK.mp q) fun o2 e4 q=> ?_;obtain ⟨fs,e5,rfl⟩:=aL.mp q;rw [FO e3] at e2;rw [EN e5] at e4;rw [qz e1] at r;obtain ⟨U,o,ho,rfl,hc⟩:=st.sto _ _ e2;obtain ⟨U,o2,ho2,es,n,rfl,hf⟩:=st.sto _ _ e4;exact hn (⟨a,es,n,r,hc,⟨ho,rfl,rfl,ho2⟩,ho2,hf,e4⟩)
theorem yV {G:Wd} {d:V} {v:Value} (r:VR G d v):handedIn v=true:=by
 cases d with
 | none=>rw [show v=_ from r];rfl
 | bool b=>rw [show v=_ from r];rfl
 | int i=>obtain ⟨t,rfl⟩:=r;rfl
 | str l=>obtain ⟨t,rfl,U⟩:=r;rfl
 | bytes l=>obtain ⟨t,rfl,U⟩:=r;rfl
 | tup l=>obtain ⟨x,U,U,rfl,U⟩:=r;rfl
 | lst l=>obtain ⟨x,U,U,rfl,U⟩:=r;rfl
 | ref U=>rw [show v=_ from r];rfl
 | rng U z1=>obtain ⟨x,U,U,U,rfl,U⟩:=r;rfl
theorem rs {C:Addr} {n:Nat} (h:mF Kf C n=true):∃attr,findIn Kf (.ref C) (nm n)=some attr/\lj Kf attr=true:=by
 delta mF at h
 cases e:findIn Kf (.ref C) (nm n) with
 | none=>rw [e] at h;exact cR h
 | some a=>rw [e] at h;exact ⟨a,rfl,h⟩
theorem Bt (KO:cc T TB Kf) {K:Value->Shared->Prop} {v:Value} {d:V} {n:Nat} (hn:n<nmL.length) (st:St T Y s.heap) (hv:VR (G Y s.heap) d v) (q:Ff d n Y Q) (k:Kv T Y s Q K):wpAny (model T.prog T.w) A (getAttr v (nm n) true) K E s:=by
 obtain ⟨p,e,q⟩:=bH q;obtain ⟨x,ex,q⟩:=bH q;refine wG (nX st hv e) fun a es m y22 hc I y21=> ?_;subst y22;refine lL y21 fun hd hf U=> ?_;have cf:=KO.cls _ hc;obtain ⟨attr,ea,ff⟩:=rs (KO.fld _ hc n hn);obtain ⟨en,h1,h3⟩:=hf.look hn ex;refine get_value (KO.inn _ st.top) I (plainGet_of (al (ar cf))).1 (iq (al cf) ea ff ?_) (yV h3) (k.same st _ h3 q);show (match es.find? (·.key.isStr (nm n)) with | some e=>some (some e.val) | none=>_)=_;rw [h1]
theorem AQ:∀i,i<56->gG i=true->∀j,j<nmL.length->(some j !=AK i)=true->nm j≠dN i:=by decide+kernel
theorem zX (KO:cc T TB Kf) {K:Value×List Value->Shared->Prop} {v:Value} {d:V} {i:Nat} {pl:Sem Bool} (hi:i<56) (hm:gG i=true) (st:St T Y s.heap) (hv:VR (G Y s.heap) d v) (q:CB TB.cls (.user i) d Y=true) (k:K (.ref (bX i),[v]) s):wpAny (model T.prog T.w) A (getMethod v (dN i) pl) K E s:=by
 delta CB at q
 cases e:gC d Y with
 | none=>simp only [e] at q;exact cR q
 | some p=>
  simp only [e] at q;refine wG (nX st hv e) fun a es m y2 hc I y1=> ?_;subst y2;refine lL y1 fun hd hf U=> ?_;have cf:=plainGet_of (al (ar (KO.cls _ hc)));obtain ⟨m1,m2⟩:=KO.meth i hi hm;rw [<-eq_of_beq (al q)] at m1;refine method_fn (KO.inn _ st.top) I cf.1 cf.2 m1 m2 ?_ k
  have hl:lookIn (dN i) (ig es m)=some none:=by
   delta lookIn;simp only [List.find?_toArray,(hf.miss fun p hp hl=>AQ i hi hm p.1 hl (aG.mp (ar q) p hp)),List.any_toArray,hf.noRef];rfl
  show (lookIn (dN i) (ig es m)).map (·.isSome)=some false;rw [hl];rfl
theorem rQ {C:Addr} {n:Nat} {attr:Option Value} (ea:findIn Kf (.ref C) (nm n)=some attr) (ff:lj Kf attr=true):takerIn Kf C (nm n)=some none:=by
 delta takerIn
 (rw [ea];refine ak (Option.bind_some ..) ?_)
 clear ea
 cases attr with
 | none=>rfl
 | some a=>simp [(vt ff).2]
theorem BL (KO:cc T TB Kf) {K:Unit->Shared->Prop} {v w:Value} {d e:V} {n:Nat} {P:be->Prop} (hn:n<nmL.length) (st:St T Y s.heap) (hv:VR (G Y s.heap) d v) (hw:VR (G Y s.heap) e w) (q:Dr d n e Y P) (k:EF T Y s P (K ())):wpAny (model T.prog T.w) A (setAttr v (nm n) w) K E s:=by
 have tin:=KO.inn _ st.top;refine bu (bH q) fun p ep q=> ?_;obtain ⟨ql,q⟩:=cF q;refine wG (nX st hv ep) fun a es m y22 hc I y21=> ?_;subst y22;refine lL y21 fun hd hf e2=> ?_;have cf:=KO.cls _ hc;refine bu (rs (KO.fld _ hc n hn)) fun attr ea ff=>(set_plain tin I (eq_of_beq (ar (ar (ar cf)))) ?_);refine osa_open (s:={s with toks:=s.toks+1}) tin I (al (ar (ar cf))) (rQ ea ff) fun b=>(bu (any_some (al cf)) fun cd hcd hd'=> ?_);obtain ⟨es',m',p1,p2,p3⟩:=hf.putName (m:=m) hn hw;have hlen:=hf.len;refine ae (am (ae (ae (wpAny_loadPart I.at_ (ae ((looks_clsIn tin hcd).here (s:={s with toks:=s.toks+1}) ?_))))));rw [hd'];refine am (ae (am (ae ?_)));refine ae (ae (wpAny_askSetting (am (ae (wpAny_mkText (ae (wpAny_loadPart hd ?_)))))))
 have c:(!es.toArray.any (·.key.isStr (nm n)) && es.toArray.any (·.refKey))=false:=by
  rw [<-Array.any_toList,<-Array.any_toList]
  (rw [hf.noRef];refine ak (Bool.and_false ..) ?_;rfl)
 dsimp only;rw [aRefKeyMayBeTheName_at,c]
 have D':(s.heap.update p.2.1 (Obj.putName (nm n) (PyData.keyHash T.w.params (nm n)) (.str (nm n) (s.toks+1)) w)).get? p.2.1=some (ig es' m'):=by
  rw [Heap.get?_update_self _ hd (by rw [p1];rfl),p1]
 refine gv fun Q1z E1z hQ1z hE1z=>(wpAny_updatePart hd ?_);refine hQ1z _ _ ?_;refine ae (wpAny_lookBehind D' (pastItsLine_dict (by rw [aI];delta sizeLine;omega)) ?_);exact am (k _ _ _ (.upd (d':= .idict (lV n e p.2.2)) st e2 (fun h=>nomatch h) (fun b o hb q=>(Heap.SameBut.update ..).extBut b o hb q) D' ⟨_,_,rfl,p2⟩) q)
theorem xN (t:Nat->Tok) {l x:List Nat} (h:dH l=some x):x=l/\(∀z∈x,z<256)/\∃u,valueAt (fq t) (⟨l.toArray⟩:Str)=some (.bytes (bG x) u):=by
 delta dH at h
 split at h
 ·rename_i hl;injection h with h;subst h;rcases hl with rfl | rfl | rfl | rfl
  ·exact ⟨rfl,by decide,t 0,rfl⟩
  ·exact ⟨rfl,by decide,t 1,rfl⟩
  ·exact ⟨rfl,by decide,t 2,rfl⟩
  ·exact ⟨rfl,by decide,t 3,rfl⟩
 ·exact bZ h
theorem Du (KO:cc T TB Kf) {K:Value->Shared->Prop} {j:Value} {d:V} {p q':Expr} (st:St T Y s.heap) (hj:VR (G Y s.heap) d j) (q:on ((lM d).bind dH) fun x=>Q (.bytes x) Y) (k:Kv T Y s Q K):wpAny (model T.prog T.w) A (subscriptTail p q' (.ref 63) j) K E s:=by
 refine cr fun hn=> ?_;obtain ⟨x,e,q⟩:=bH q;obtain ⟨l,e1,e⟩:=aK.mp e;obtain ⟨t,ep,hd⟩:=KO.sz;have hd:s.heap.DictOf (PySem.strKind T.prog T.w) 63 (fq t):=by refine gU (hd _ st.top) fun o es ho r=> ?_;exact ⟨o,es,ep,ho,r⟩
 obtain ⟨rfl,hb,u,hv⟩:=xN t e;refine bu (sq e1 hj) fun tk y51 U=> ?_;subst y51;refine hn (dA hd.mapOf.typeIs slot_dict_getitem.lookup ?_);exact wpAny_getItem_of (show ((⟨x.toArray⟩:Str)==⟨x.toArray⟩)=true from a9 _) hd.mapOf hv (k.bytes st _ hb q)
end
end Mine
end
section
namespace Mine
open PySem PySem.W PyProof.Rows PySem.Calls PySem.SeqAt
theorem dig:∀k,k<10->(Nat.digitChar k).toNat=48+k:=by decide
theorem g8 {f n:Nat} (h:n<10):cU (f+1) n=[48+n]:=if_pos h
theorem g9 {f n:Nat} (h:¬n<10):cU (f+1) n=cU f (n / 10)++[48+n % 10]:=if_neg h
theorem nG {f n:Nat} (h:n<10 ^ (f+1)):n / 10<10 ^ f:=Nat.div_lt_of_lt_mul (Nat.mul_comm 10 _▸h)
theorem m6 {f n:Nat} (h:¬n<10) (q:n<10 ^ (f+1)):0<f:=Nat.pos_of_ne_zero fun e=>h (by subst e;exact q)
theorem pT (f:Nat):∀(n:Nat) (acc:List Char),n<10 ^ f->0<f->(Nat.toDigitsCore 10 f n acc).map Char.toNat=cU f n++acc.map Char.toNat:=by
 induction f with
 | zero=>exact fun U U U h=>C6 h
 | succ f ih=>
  intro n acc h _;unfold Nat.toDigitsCore;have d:=dig _ (Nat.mod_lt n (by decide:0<10))
  by_cases hn:n<10
  ·rw [if_pos (Nat.div_eq_of_lt hn),g8 hn,aR,d,Nat.mod_eq_of_lt hn];rfl
  ·rw [if_neg fun q=>hn ((Nat.div_eq_zero_iff_lt (by decide)).mp q),g9 hn,ih _ _ (nG h) (m6 hn h),aR,d,aw];rfl
theorem pV (f:Nat):∀(g n:Nat),n<10 ^ f->n<10 ^ g->0<f->0<g->cU f n=cU g n:=by
 induction f with
 | zero=>exact fun U U U U h=>C6 h
 | succ f ih=>
  intro g n h1 h2 _ h4
  cases g with
  | zero=>exact C6 h4
  | succ g=>
   by_cases hn:n<10
   ·rw [g8 hn,g8 hn]
   ·rw [g9 hn,g9 hn,ih g _ (nG h1) (nG h2) (m6 hn h1) (m6 hn h2)]
theorem pq (n:Nat):n<10 ^ (n+1):=a8 (Nat.lt_succ_self n) (a6 (Nat.lt_pow_self (by decide)))
theorem oN {n:Nat} (h:n<10 ^ 18):(toString n).toList.map Char.toNat=cU 20 n:=by
 have e:(toString n).toList=Nat.toDigits 10 n:=by
  show (Nat.repr n).toList=_;delta Nat.repr;simp
 (rw [e];refine ak (pT (n+1) n [] (pq n) (Nat.succ_pos _)) ?_;rw [List.map_nil];refine ak (aE ..) ?_)
 exact pV _ _ _ (pq n) (a8 h (by decide)) (Nat.succ_pos _) (by decide)
theorem yM {i:Int} (h:i.natAbs<10 ^ 18):(toString i).toList.map Char.toNat=bQ i:=by
 delta bQ
 cases i with
 | ofNat n=>rw [if_neg (show ¬Int.ofNat n<0 from Int.not_lt.mpr (Int.natCast_nonneg n))];exact oN h
 | negSucc n=>(rw [if_pos (Int.negSucc_lt_zero n),show (Int.negSucc n).natAbs=n+1 from rfl,<-oN (n:=n+1) h,show toString (Int.negSucc n)= "-" ++toString (n+1) from rfl,String.toList_append];refine ak (aJ ..) ?_);rfl
theorem jd (f n:Nat):∀x∈cU f n,x<1114112:=by
 induction f generalizing n with
 | zero=>exact fun U=>fh
 | succ f ih=>
  have one:∀k x,k<10->x∈[48+k]->x<1114112:=fun k x hk h=>by rw [ao.mp h];lia
  by_cases hn:n<10
  ·rw [g8 hn];exact fun x=>one n x hn
  ·rw [g9 hn];exact fun x h=>(aD.mp h).elim (ih _ x) (one _ x (Nat.mod_lt _ (by decide)))
theorem l7 {i:Int}:∀x∈bQ i,x<1114112:=fun x h=>by
 delta bQ at h
 by_cases hi:i<0
 ·rw [if_pos hi] at h;rcases au.mp h with rfl | h
  ·decide
  ·exact jd _ _ x h
 ·rw [if_neg hi] at h;exact jd _ _ x h
theorem xT {G:Wd} {ds:List V} {vs:List Value} {is:List Int} (r:VRs G ds vs) (e:cz gA ds=some is):IntsAre vs is:=
 r.all .nil (fun {d v a vs as} e r ih=>dU (jx e▸r:VR G (.int a) v) fun t q=>bi q (.cons _ _ ih)) e
theorem wO {G:Wd} {ds:List V} {vs:List Value} {bs:List Bool} (r:VRs G ds vs) (e:cz BX ds=some bs):vs=bs.map Value.bool:=
 r.all rfl (fun {d v a vs as} e r ih=>congr (aB List.cons (nj e▸r:VR G (.bool a) v)) ih) e
theorem lT (bs:List Bool):((List.range bs.length).all fun i=>(bs[i]?).getD true)=bs.all id:=by
 induction bs with
 | nil=>rfl
 | cons b bs ih=>
  rw [ba,List.range_succ_eq_map];refine ak (List.all_cons ..) ?_;rw [List.all_map];exact aB (and b) ih
section
variable {T:cK} {TB:eT} {Kf:Frag} {Y:be} {s:Shared} {A:Around} {K E:Value->Shared->Prop} {Q X:KV} {Γ:dW} {h':Heap}
theorem wU {vs:List Value} {l:Addr} {bs:List Bool} (hh:A.handled=none) (hl:s.heap.IsList l vs.toArray) (hb:vs=bs.map Value.bool) (h:∀h' tk,dS s.heap h'->K (.bool (bs.all id)) (put s h' tk)):wpAny (model T.prog T.w) A (PySem.call (.builtin "all") [.ref l]) K E s:=by
 have hlt:l<s.heap.objs.size:=by refine bu hl fun U e U=> ?_;exact Heap.lt_size e
 refine call_all_walk (wpAny_pyIter_list hl ?_)
 refine ⟨s.heap.objs.size,[s.heap.objs.size,l],[s.heap.objs.size],vs.toArray.size,_,_,fun i=>(bs[i]?).getD true,rfl,Walks.list (A:=A.in1) hh _ l (Nat.ne_of_lt hlt) vs.toArray,
  ⟨⟨_,aF _ rfl,rfl,rfl⟩,hl.push _⟩,fun i v s' Q' E' hP hQ=> ?_,fun h' tk hk=> ?_⟩
 ·subst hb;rw [List.getElem?_toArray,List.getElem?_map] at hP;obtain ⟨b,e,rfl⟩:=aL.mp hP;have hQ:Q' ((bs[i]?).getD true) s':=hQ;rw [e] at hQ;exact wpAny_truthy_bool hQ
 ·have e:((List.range vs.toArray.size).all fun i=>(bs[i]?).getD true)=bs.all id:=by
   rw [hb,aI,ah];exact lT bs
  rw [e];exact h h' tk fun b x e=>hk b x (fun hm=>by rw [ao.mp hm] at e;exact Nat.lt_irrefl _ (Heap.lt_size e)) (aW _ e)
theorem toNat_lt {is:List Int} (h:∀i∈is,0<=i/\i<256):∀x∈is.map Int.toNat,x<256:=fun x hx=>by
 refine bu (aN.mp hx) fun i hi y1=> ?_;subst y1;have:=h i hi;lia
theorem DX {i:Int} (h:i.natAbs<10 ^ 18):i.natAbs.log2<64:=by
 by_cases h0:i.natAbs=0
 ·rw [h0];decide
 ·exact (Nat.log2_lt h0).mpr (Nat.lt_trans h (by decide))
theorem Dt (KO:cc T TB Kf) {v:Value} {d:V} {n:Nat} (st:St T Y s.heap) (hv:VR (G Y s.heap) d v) (e:oW d Y=some n) (hn:n<=16777216) (q:Q (.int n) Y) (k:Kv T Y s Q K):wpAny (model T.prog T.w) A (PySem.call (.builtin "len") [v]) K E s:=by
 delta oW at e
 cases h:fv d with
 | some l=>
  rw [h] at e;refine vY (f:=fun l'=>l'=l) (by rw [h];rfl) hv fun l' t U hb r=> ?_;subst r;have z:(bG l').size=n:=by (refine ak (aI ..) ?_;refine ak (ah ..) ?_);exact (bW e)
  exact W.len_bytes (by lia) (by rw [z];exact k.int st _ q)
 | none=>
  rw [h] at e
  cases h2:cI d Y with
  | some l=>
   simp only [h2] at e;obtain ⟨x,c,vs,m,rfl,ho,hc,hvs⟩:=fW st hv h2;have z:vs.toArray.size=n:=by (refine ak (aI ..) ?_;refine ak (hvs.length ..) ?_);exact Option.some.inj e
   rcases hc with ⟨rfl,U⟩ | ⟨rfl,U⟩
   ·exact PyProof.Rows.len_tuple ⟨_,ho,rfl,_,rfl⟩ (by lia) (by rw [z];exact k.int st _ q)
   ·exact PyProof.Rows.len_list ⟨_,ho,rfl,_,rfl⟩ (by lia) (by rw [z];exact k.int st _ q)
  | none=>
   simp only [h2] at e;clear h2;refine bu (aK.mp e) fun p e1 e'=> ?_;clear e;obtain ⟨rfl,e2⟩:=vR e1
   by_cases c:p.1≠1/\p.2.length<=1000
   ·rw [if_pos c] at e';rw [show v=_ from hv];exact z9 KO.hash st e2 c.1 c.2 ((bW e')▸q) k
   ·rw [if_neg c] at e';exact bZ e'
theorem dS.fresh {h h':Heap} (k:dS h h'):h.get? h'.objs.size=none:=by
 cases e:h.get? h'.objs.size with
 | none=>rfl
 | some o=>exact absurd (Heap.lt_size (k _ _ e)) (Nat.lt_irrefl _)
theorem we {m:Bool} {v:Value} {d:V} {l:List V} (st:St T Y s.heap) (hv:VR (G Y s.heap) d v) (e:cI d Y=some l) (q:Cq m l Y Q) (k:Kv T Y s Q K):wpAny (model T.prog T.w) A (PySem.call (.type "list") [v]) K E s:=by
 obtain ⟨x,c,vs,n,rfl,ho,hc,hvs⟩:=fW st hv e;have sz:vs.toArray.size<=sizeLine:=by rw [aI,hvs.length];exact uc q
 rcases hc with ⟨rfl,U⟩ | ⟨rfl,U⟩
 ·exact call_list_seq x (.inr rfl) ho rfl rfl (fun h' c' hk e'=>k.newL st _ hk (av _) e' hvs q) sz
 ·exact call_list_seq x (.inl rfl) ho rfl rfl (fun h' c' hk e'=>k.newL st _ hk (av _) e' hvs q) sz
theorem pH {vs:List Value} {ds:List V} {p:Int×Int} (st:St T Y s.heap) (hv:VRs (G Y s.heap) ds vs) (e:tv ds=some p) (b: -(2 ^ 24)<=p.1/\p.1<=2 ^ 24/\-(2 ^ 24)<=p.2/\p.2<=2 ^ 24) (q:Q (.rng p.1 p.2) Y) (k:Kv T Y s Q K):wpAny (model T.prog T.w) A (PySem.call (.type "range") vs) K E s:=by
 have fin:∀{t u w:Tok} {tk:Nat} {c:Obj},c={cls:= .type "range",data:= .fields #[.int p.1 t, .int p.2 u, .int 1 w]}->K (.ref s.heap.objs.size) (put s (s.heap.push c) tk):=fun {t u w tk c} e=>by
  subst e;exact k.grown (d:= .rng p.1 p.2) st _ (bA _ _) ⟨_,t,u,w,rfl,⟨aF _ rfl,st.free (bB (av _)), .inr (.inr rfl),rfl⟩,b⟩ q
 clear b k q st pH
 cases ds with
 | nil=>exact bZ e
 | cons d ds=>
 cases ds with
 | nil=>
  refine bu (aL.mp e) fun j e1 y1=> ?_;subst y1;refine bu (wt hv) fun v y11 h1=> ?_;subst y11;obtain ⟨t,rfl⟩:=(jx e1▸h1:VR (G Y s.heap) (.int j) v);exact call_range_1 (fin rfl)
 | cons d2 ds=>
 cases ds with
 | nil=>
  refine bu (aK.mp e) fun i e1 e=>(bu (aL.mp e) fun j e2 y41=> ?_);subst y41;refine eJ (Bh hv) fun v w y51 h1 hw=> ?_;subst y51;clear hv;obtain ⟨t,rfl⟩:=(jx e1▸h1:VR (G Y s.heap) (.int i) v);obtain ⟨u,rfl⟩:=(jx e2▸hw:VR (G Y s.heap) (.int j) w);exact call_range_2 (fin rfl)
 | cons U z1=>exact bZ e
theorem BK (KO:cc T TB Kf) {vs:List Value} {ds:List V} {f:Fn} (hu:kh f=false) (hh:A.handled=none) (st:St T Y s.heap) (hv:VRs (G Y s.heap) ds vs) (q:oO Γ f ds Y Q X) (k:Kv T Y s Q K):wpAny (model T.prog T.w) A (PySem.call f.val vs) K E s:=by
 cases f with
 | user i=>exact lN hu
 | len=>
  refine eJ (p1 q hv) fun d v y1 r q=> ?_;subst y1;refine bu (bH q) fun n e q=> ?_;obtain ⟨q0,q⟩:=cF q;exact (Dt KO st r e q0 q k)
 | min=>
  obtain ⟨d,v,e,w,rfl,r,r2,q⟩:=p2 q hv;refine vI q r fun i t U q=>vI q r2 fun j u _ (q:Q (.int (if j<i then j else i)) Y)=>min_two_ints hh (fun h' tk hk=> ?_)
  by_cases hij:j<i
  ·rw [if_pos hij] at q ⊢;exact k.grown (d:= .int j) st _ hk ⟨_,rfl⟩ q
  ·rw [if_neg hij] at q ⊢;exact k.grown (d:= .int i) st _ hk ⟨_,rfl⟩ q
 | max=>
  obtain ⟨d,v,e,w,rfl,r,r2,q⟩:=p2 q hv;refine vI q r fun i t U q=>vI q r2 fun j u _ (q:Q (.int (if i<j then j else i)) Y)=>max_two_ints hh (fun h' tk hk=> ?_)
  by_cases hij:i<j
  ·rw [if_pos hij] at q;rw [if_pos (show j>i from hij)];exact k.grown (d:= .int j) st _ hk ⟨_,rfl⟩ q
  ·rw [if_neg hij] at q;rw [if_neg (hij)];exact k.grown (d:= .int i) st _ hk ⟨_,rfl⟩ q
 | all=>
  refine eJ (p1 q hv) fun d v y51 r q=> ?_;subst y51;refine bu (bH q) fun l e q=>(bu (bH q) fun bs eb q=> ?_);refine ov (e9 st r e) fun x vs n y81 ho hvs=> ?_;subst y81;exact (wU hh ⟨_,ho,rfl,_,rfl⟩ (wO hvs eb) (fun h' tk hk=>k.grown (d:= .bool _) st _ hk rfl q))
 | ord=>
  refine eJ (p1 q hv) fun d v y91 r q=> ?_;subst y91;refine vS q r fun l t U U q=> ?_
  match l,q with
  | [c],q=>exact P.ord_of_char (k.int st _ q)
 | tuple=>
  refine eJ (p1 q hv) fun d v y101 r q=> ?_;subst y101;refine bu (bH q) fun l e q'=> ?_;obtain ⟨q0,q'⟩:=cF q';clear q;have q:=q';obtain ⟨x,c,vs,n,rfl,ho,hc,hvs⟩:=fW st r e;rcases hc with ⟨rfl,rfl⟩ | ⟨rfl,U⟩
  ·exact call_tuple_same ⟨_,ho,rfl,_,rfl⟩ (k.same0 st r q)
  ·refine call_tuple_list ⟨_,ho,rfl,_,rfl⟩ (fun h' hk=> ?_) (by rw [aI,hvs.length];exact q0);have kp:dS s.heap (h'.push {cls:= .type "tuple",data:= .seq vs.toArray}):=fun b o e=>bA _ _ _ _ (hk b o e);exact k.grown (d:= .tup l) st _ kp ⟨_,vs,_,rfl,⟨aF _ rfl,st.free (dS.fresh hk),cA _ (.inl rfl) _ _⟩,hvs.mono (d9 kp)⟩ q
 | list m=>
  refine eJ (p1 q hv) fun d v y141 r q=> ?_;subst y141;exact bu (bH q) fun l e q=>((we st r e q k))
 | bytes=>
  refine eJ (p1 q hv) fun d v y161 r q=> ?_;subst y161;refine bu (bH q) fun l e q=>(bu (bH q) fun is ei q=> ?_);obtain ⟨q0,q⟩:=dG q;obtain ⟨q1,q⟩:=cF q;have q0:∀i∈is,0<=i/\i<256:=fun i hi=>⟨aU (al (aG.mp q0 i hi)),aU (ar (aG.mp q0 i hi))⟩;refine ov (e9 st r e) fun x vs n y211 ho hvs=> ?_;subst y211;have ia:=xT hvs ei;refine call_bytes_ints ⟨_,ho,rfl,_,rfl⟩ ia q0 (by rw [ia.length];exact q1) hh (fun h' t kk hk=> ?_);rw [show byteArr is=bG (is.map Int.toNat) by delta byteArr bG;rw [List.map_map];rfl];exact k.grown (d:= .bytes _) st _ hk ⟨t,rfl,toNat_lt q0⟩ q
 | str=>
  refine eJ (p1 q hv) fun d v y221 r q=> ?_;subst y221;refine gv fun Q1z E1z hQ1z hE1z=> ?_;refine vI q r fun i t U q=>P.str_of_int (by have:=DX (cF q).1;exact a8 ‹_› (ad rfl)) ?_;rw [show Str.ofString (toString i)=⟨(bQ i).toArray⟩ by (refine ak (PySem.Str.ofString_eq_toList ..) ?_;rw [yM (cF q).1])];exact hQ1z _ _ (k.str st _ l7 (cF q).2)
 | range=>
  refine bu (bH q) fun p e q=> ?_;obtain ⟨q0,q⟩:=cF q;obtain ⟨q1,q⟩:=cF q;obtain ⟨q2,q⟩:=cF q;obtain ⟨q3,q⟩:=cF q;exact (pH st hv e ⟨q0,q1,q2,q3⟩ q k)
end
noncomputable def BS (lo:Nat) (HY:Heap) (Y:be) (h:Heap) (vs:Array Value):Option Value->Prop
 | none=>vs[1]? =some .none
 | some f=>∃tb ot ts,vs[1]? =some (.ref tb)/\lo<=tb/\HY.get? tb=none/\Y tb=none/\h.get? tb=some ot/\ot.cls= .type "traceback" /\ot.data= .fields ts/\ts[3]? =some f
structure Xc (T:cK) (C:Cx) (HY:Heap) (Y:be) (e:Value) (d:V) (h:Heap):Type where
 H:bv
 a:Addr
 dx:Addr
 oe:Obj
 od:Obj
 vs:Array Value
 v:Value
 t:Tok
 n:Nat
 fl:Option Value
 rel:Rl T C H Y h
 he:e= .ref a
 ga:h.get? a=some oe
 ca:oe.cls= .ref 45
 da:oe.data= .fields vs
 di:oe.dict=some dx
 sz:vs.size=6
 new:HY.get? a=none
 out:Y a=none
 gd:h.get? dx=some od
 dd:od.data= .dict #[⟨PyData.keyHash T.w.params "told", .str "told" t,v⟩] n
 cd:od.cls= .type "dict"
 dnew:HY.get? dx=none
 dout:Y dx=none
 val:VR (G Y h) d v
 tb:BS T.lo HY Y h vs fl
 alo:T.lo<=a
noncomputable def E5 (C:Cx) (fl:Option Value):Prop:=fl=none\/fl=some .none\/fl=C.env.frame.map rawInt
noncomputable def XR (T:cK) (C:Cx) (HY:Heap) (Y:be) (e:Value) (d:V) (h:Heap):Prop:=∃x:Xc T C HY Y e d h,E5 C x.fl
noncomputable def Kx (T:cK) (C:Cx) (Y:be) (s:Shared) (X:KV) (E:Value->Shared->Prop):Prop:=
 ∀e d Y' h' tk,To T (hH C) Y s.heap Y' h'->XR T C s.heap Y' e d h'->X d Y'->E e (put s h' tk)
noncomputable def Kb (T:cK) (Y:be) (s:Shared) (Q:KV) (K:Bool->Shared->Prop):Prop:=
 ∀d Y' h' tk,To T Nl Y s.heap Y' h'->Q d Y'->on (BX d) fun b=>K b (put s h' tk)
noncomputable def Kvs (T:cK) (Y:be) (s:Shared) (n:Nat) (Q:List V->be->Prop) (K:List Value->Shared->Prop):Prop:=
 ∀vs ds Y' h' tk,To T Nl Y s.heap Y' h'->VRs (G Y' h') ds vs->ds.length=n->Q ds Y'->K vs (put s h' tk)
section
variable {T:cK} {TB:eT} {Kf:Frag} {Γ:dW} {lv nf:Nat} {C:Cx} {H:bv} {Y Jo:be} {s:Shared} {HY HZ h h':Heap} {Ia:Nat} {A:Around} {Q X:KV} {E:Value->Shared->Prop} {L:Addr->Prop}
theorem To.new (t:To T L Y h Jo HZ) {b:Addr} (e:HZ.get? b=none):h.get? b=none:=by
 cases q:h.get? b with
 | none=>rfl
 | some o=>refine bu (t.keep b o q) fun o' e' U=> ?_;exact bS e' e
theorem BS.base {lo:Nat} {vs:Array Value} {fl:Option Value} (le:∀b,HZ.get? b=none->HY.get? b=none) (x:BS lo HZ Y h vs fl):BS lo HY Y h vs fl:=by
 cases fl with
 | none=>exact x
 | some f=>exact by refine wG x fun tb ot ts x1 x0 x2 x3=> ?_;exact ⟨tb,ot,ts,x1,x0,le _ x2,x3⟩
noncomputable def Xc.base {e:Value} {d:V} (le:∀b,HZ.get? b=none->HY.get? b=none) (x:Xc T C HZ Y e d h):Xc T C HY Y e d h:=
 {x with new:=le _ x.new,dnew:=le _ x.dnew,tb:=x.tb.base le}
theorem Kx.after (k:Kx T C Y s X E) (t:To T (hH C) Y s.heap Jo HZ):Kx T C Jo (put s HZ Ia) X E:=fun e d Y' h' tk t' x q=>k e d Y' h' tk (t.trans t') (dU x fun x f=>⟨x.base fun U=>t.new,f⟩) q
theorem Kx.after0 (k:Kx T C Y s X E) (t:To T Nl Y s.heap Jo HZ):Kx T C Jo (put s HZ Ia) X E:=k.after t.up
theorem Kb.after {K:Bool->Shared->Prop} (k:Kb T Y s Q K) (t:To T Nl Y s.heap Jo HZ):Kb T Jo (put s HZ Ia) Q K:=fun d Y' h' tk t' q=>k d Y' h' tk (t.trans t') q
noncomputable def SE (T:cK) (TB:eT) (Γ:dW) (lv nf:Nat) (d:DE):Prop:=∀{A:Around} {C:Cx} {H:bv} {Y:be} {s:Shared} {Q X:KV} {K E:Value->Shared->Prop},Ac T A C lv->fe C.fn nf C.env.kindOf d=true->
 Rl T C H Y s.heap->dO TB Γ d H Y Q X->Kv T Y s Q K->Kx T C Y s X E->wpAny (model T.prog T.w) A (eval d.toE C.env) K E s
noncomputable def gc (T:cK) (TB:eT) (Γ:dW) (lv nf:Nat) (d:DE):Prop:=∀{A:Around} {C:Cx} {H:bv} {Y:be} {s:Shared} {Q X:KV} {K:Bool->Shared->Prop} {E:Value->Shared->Prop},Ac T A C lv->fe C.fn nf C.env.kindOf d=true->
 Rl T C H Y s.heap->dO TB Γ d H Y Q X->Kb T Y s Q K->Kx T C Y s X E->wpAny (model T.prog T.w) A (isTrue d.toE C.env (eval d.toE C.env)) K E s
noncomputable def yT (T:cK) (TB:eT) (Γ:dW) (lv nf:Nat) (xs:List DE):Prop:=∀{A:Around} {C:Cx} {H:bv} {Y:be} {s:Shared} {Q:List V->be->Prop} {X:KV} {K:List Value->Shared->Prop} {E:Value->Shared->Prop} {pos:Pos},Ac T A C lv->okEs C.fn nf C.env.kindOf xs=true->
 Rl T C H Y s.heap->evs TB Γ xs H Y Q X->Kvs T Y s xs.length Q K->Kx T C Y s X E->wpAny (model T.prog T.w) A (spliced (backTo pos (starEach (DE.toEs xs) C.env))) K E s
noncomputable def EB (T:cK) (TB:eT) (Γ:dW) (lv nf:Nat) (x:Option DE):Prop:=∀{A:Around} {C:Cx} {H:bv} {Y:be} {s:Shared} {Q X:KV} {K E:Value->Shared->Prop},Ac T A C lv->okEo C.fn nf C.env.kindOf x=true->
 Rl T C H Y s.heap->evO TB Γ x H Y Q X->Kv T Y s Q K->Kx T C Y s X E->wpAny (model T.prog T.w) A (valueOrNone (evalOpt (DE.toEo x) C.env)) K E s
theorem zY:∀i,i<nmL.length->(nm i==("__debug__" :Str))=false:=by decide+kernel
theorem xV:∀i,i<8->(lz i==("__debug__" :Str))=false:=by decide+kernel
theorem f9 (x:DE) (r:List Expr) (env:Env):starEach (x.toE::r) env=(false,eval x.toE env)::starEach r env:=by
 cases x<;>rfl
theorem Fb (v:V) (p:Pos):SE T TB Γ lv nf (.lit v p):=fun {A C H Y s Q X K E} _ ok R q k _=>by
 cases v with
 | none=>exact wpAny_Constant_none (k.same0 (d:= .none) R.st rfl q)
 | bool b=>exact wpAny_Constant_bool (k.bool R.st q)
 | int i=>exact wpAny_Constant_int (k.int R.st _ q)
 | str l=>exact wpAny_Constant_str (k.str R.st _ (fun x hx=>iC (aG.mp (ar ok) x hx)) q)
 | bytes l=>exact W.Constant_bytes (k.bytes R.st _ (fun x hx=>iC (aG.mp (ar ok) x hx)) q)
 | _=>exact Bool.noConfusion ok
theorem Gj (c:Bool) (n:Nat) (p:Pos):SE T TB Γ lv nf (.nm c n p):=fun {A C H Y s Q X K E} hA ok R q k _=>by
 have hn:=zY n (iC (al ok));have hk:=d6 (ar ok);clear ok Gj;refine bu (bH q) fun d e Iw=> ?_
 cases c with
 | false=>
  refine bu (R.loc) fun m hm hl=>(bu ((hl n d e).2 hk) fun v hv vr=> ?_);exact wpAny_Name (wpAny_loadName_local hA.kind hk hm hv (k.same0 R.st vr Iw)) hn
 | true=>
  exact eJ (R.cel n d e hk) fun c v h1 h2 h3=>(wpAny_Name (wpAny_loadName_cell hA.kind hk h1 h2 (k.same0 R.st h3 Iw)) hn)
theorem kQ (TO:cc T TB Kf) (hA:Ac T A C lv) (R:Rl T C H Y h):h.Ns C.env.globals T.gl:=hA.glob▸TO.gns _ R.st.top
theorem xJ (TO:cc T TB Kf) (hA:Ac T A C lv) (R:Rl T C H Y h):h.Ns C.env.builtins T.bl:=hA.blt▸TO.bns _ R.st.top
theorem Ei (TO:cc T TB Kf) (g:Nat) (p:Pos):SE T TB Γ lv nf (.glob g p):=fun {A C H Y s Q X K E} hA ok R q k _=>by
 have hg:=iC (al ok);refine bu (TO.glob _ R.st.top g hg) fun v hv vr=>((Name_function_global hA.kind (d6 (ar ok)) (loadGlobal_global (kQ TO hA R) hv (k.same0 R.st (vr.mono fun a o z=>lL z fun h1 h2 h3=>⟨h1, ?_,h3⟩) q)) (xV g hg)))
 cases e:Y a with
 | none=>rfl
 | some d=>exact absurd (R.st.sto a d e).1 (Nat.not_le.mpr h2)
theorem E3 {m:Bool} {op:Operator} {l r:DE} {p:Pos} (hl:SE T TB Γ lv nf l) (hr:SE T TB Γ lv nf r):SE T TB Γ lv nf (.bin m op l r p):=fun hA ok R q k kx=>
 wpAny_BinOp (hl hA (al ok) R q (fun U U U U U IW va Iw=>hr hA (ar ok) (R.to0 IW) Iw (fun U U U U U IZ vb Ix=>wJ IZ.st (va.mono IZ.gle) vb Ix (k.after (IW.trans IZ))) (kx.after0 IW)) kx)
theorem Dy {n:Bool} {x:DE} {p:Pos} (hx:SE T TB Γ lv nf x):SE T TB Γ lv nf (.un n x p):=fun {A C H Y s Q X K E} hA ok R q k kx=>by
 refine wpAny_UnaryOp (hx hA ok R q (fun v d Jo HZ Ia IW va Iw=> ?_) kx);clear R ok hA hx kx C Dy
 cases n with
 | false=>exact vB Iw va fun b U q=>not_value (wpAny_truthy_bool ((k.after IW).bool IW.st q))
 | true=>exact vI Iw va fun i t U q=>PyProof.Rows.neg_int ((k.after IW).int IW.st _ q)
theorem GC {x:DE} {p:Pos} (hx:gc T TB Γ lv nf x):gc T TB Γ lv nf (.un false x p):=fun {A C H Y s Q X K E} hA ok R q k kx=>
 wpAny_isTrue_Not (hx hA ok R q (fun d Jo HZ Ia IW Iw=>by
  refine bu (bH Iw) fun b e Iw=> ?_;rw [e];exact k (.bool !b) _ _ Ia IW Iw) kx)
theorem GH {t b o:DE} {p:Pos} (ht:gc T TB Γ lv nf t) (hb:SE T TB Γ lv nf b) (ho:SE T TB Γ lv nf o):SE T TB Γ lv nf (.ife t b o p):=fun {A C H Y s Q X K E} hA ok R q k kx=>by
 refine wpAny_IfExp (ht hA (al ok) R q (fun d Jo HZ Ia IW Iw=> ?_) kx);refine cr fun hn=> ?_;obtain ⟨c,e,Iw⟩:=bH Iw;refine hn ?_;rw [e];clear e
 cases c with
 | true=>exact hb hA (al (ar ok)) (R.to0 IW) Iw (k.after IW) (kx.after0 IW)
 | false=>exact ho hA (ar (ar ok)) (R.to0 IW) Iw (k.after IW) (kx.after0 IW)
theorem FM {t b o:DE} {p:Pos} (ht:gc T TB Γ lv nf t) (hb:gc T TB Γ lv nf b) (ho:gc T TB Γ lv nf o):gc T TB Γ lv nf (.ife t b o p):=fun {A C H Y s Q X K E} hA ok R q k kx=>by
 refine ae (ht hA (al ok) R q (fun d Jo HZ Ia IW Iw=> ?_) kx);refine cr fun hn=> ?_;obtain ⟨c,e,Iw⟩:=bH Iw;refine hn ?_;rw [e];clear e
 cases c with
 | true=>exact hb hA (al (ar ok)) (R.to0 IW) Iw (k.after IW) (kx.after0 IW)
 | false=>exact ho hA (ar (ar ok)) (R.to0 IW) Iw (k.after IW) (kx.after0 IW)
theorem AJ {x:DE} (hx:SE T TB Γ lv nf x) (he:∀(env:Env) (whole:Sem Value),isTrue x.toE env whole=(do let v <-whole;standAt x.toE.pos;holding [v] (truthy v))):gc T TB Γ lv nf x:=fun hA ok R q k kx=>
 wpAny_isTrue_value (hx hA ok R q (fun U d U U Ia IW vr Iw=>i5 (k d _ _ Ia IW Iw) vr fun U q=>q) kx) (he _ _)
noncomputable def SB (T:cK) (TB:eT) (Γ:dW) (lv nf:Nat) (xs:List DE):Prop:=∀{A:Around} {C:Cx} {H:bv} {Y:be} {s:Shared} {Q X:KV} {K:Bool->Shared->Prop} {E:Value->Shared->Prop} {a:Bool},Ac T A C lv->okEs C.fn nf C.env.kindOf xs=true->
 Rl T C H Y s.heap->evB TB Γ a xs H Y Q X->Kb T Y s Q K->Kx T C Y s X E->wpAny (model T.prog T.w) A (allTrue (cond a .And .Or) (DE.toEs xs) C.env) K E s
noncomputable def E4 (T:cK) (TB:eT) (Γ:dW) (lv nf:Nat) (xs:List DE):Prop:=∀{A:Around} {C:Cx} {H:bv} {Y:be} {s:Shared} {Q X:KV} {K E:Value->Shared->Prop} {pos:Pos} {a:Bool},Ac T A C lv->okEs C.fn nf C.env.kindOf xs=true->xs.isEmpty=false->
 Rl T C H Y s.heap->evB TB Γ a xs H Y Q X->Kv T Y s Q K->Kx T C Y s X E->wpAny (model T.prog T.w) A (boolOp pos (cond a .And .Or) (evalEach (DE.toEs xs) C.env)) K E s
theorem CF:SB T TB Γ lv nf []:=fun {A C H Y s Q X K E a} hA _ R q k _=>by
 have hk:K a s:=k (.bool a) Y s.heap s.toks (.refl R.st) q;clear k q R Q H CF
 cases a with
 | true=>exact wpAny_allTrue_And_nil hk
 | false=>exact wpAny_allTrue_Or_nil hk
theorem brE {p P P':Prop} [Decidable p] (q:br (decide p) P P') (h:p):P:=by rw [aA h] at q;exact q
theorem brN {p P P':Prop} [Decidable p] (q:br (decide p) P P') (h:¬p):P':=by rw [decide_eq_false h] at q;exact q
theorem Gw {P P':Prop}:∀{a b:Bool},br (cond a b !b) P P'->b=a->P
 | true,true,q,U=>q
 | false,false,q,U=>q
theorem EZ {P P':Prop}:∀{a b:Bool},br (cond a b !b) P P'->b= !a->P'
 | true,false,q,U=>q
 | false,true,q,U=>q
theorem DK {x:DE} {xs:List DE} (hx:gc T TB Γ lv nf x) (hxs:SB T TB Γ lv nf xs):SB T TB Γ lv nf (x::xs):=fun {A C H Y s Q X K E a} hA ok R q k kx=>by
 have go:wpAny (model T.prog T.w) A (isTrue x.toE C.env (eval x.toE C.env)) (fun b s'=>(b=a->wpAny (model T.prog T.w) A (allTrue (cond a .And .Or) (DE.toEs xs) C.env) K E s')/\(b= !a->K (!a) s')) E s:=
  hx hA (al ok) R q (fun d Jo HZ Ia IW Iw=>by
   refine bu (bH Iw) fun b e q1=> ?_;rw [e];exact ⟨fun h=>hxs hA (ar ok) (R.to0 IW) (Gw q1 h) (k.after IW) (kx.after0 IW),fun h=>k (.bool !a) _ _ Ia IW (EZ q1 h)⟩) kx
 clear ok hA q kx k R X Q
 cases a with
 | true=>exact wpAny_allTrue_And_cons (wpAny_mono go (fun b s' h=>match b,h with | true,h=>h.1 rfl | false,h=>h.2 rfl) fun U U h=>h)
 | false=>exact wpAny_allTrue_Or_cons (wpAny_mono go (fun b s' h=>match b,h with | false,h=>h.1 rfl | true,h=>h.2 rfl) fun U U h=>h)
theorem FA:E4 T TB Γ lv nf []:=fun U U h=>Bool.noConfusion h
theorem DT {x:DE} {xs:List DE} (hx:SE T TB Γ lv nf x) (hxs:E4 T TB Γ lv nf xs):E4 T TB Γ lv nf (x::xs):=fun {A C H Y s Q X K E pos a} hA ok _ R q k kx=>by
 cases xs with
 | nil=>
  refine hx hA (al ok) R q (fun v d Jo HZ Ia IW vr Iw=>k v d Jo HZ Ia IW vr ?_) kx;refine bu (bH Iw) fun b e q1=> ?_;rw [nj e];clear e
  cases b<;>cases a<;>exact q1
 | cons y ys=>
  have go:wpAny (model T.prog T.w) A (eval x.toE C.env) (fun v s'=>∃b,v= .bool b/\(b=a->wpAny (model T.prog T.w) A (boolOp pos (cond a .And .Or) (evalEach (DE.toEs (y::ys)) C.env)) K E s')/\(b= !a->K (.bool b) s')) E s:=
   hx hA (al ok) R q (fun v d Jo HZ Ia IW vr Iw=>vB Iw vr fun b U q=>⟨b,rfl,fun h=>hxs hA (ar ok) rfl (R.to0 IW) (Gw q h) (k.after IW) (kx.after0 IW),fun h=>k _ (.bool b) _ _ Ia IW rfl (h▸EZ q h)⟩) kx
  refine ae (wpAny_mono go (fun v s' h=> ?_) fun U U h=>h);clear go q ok hA hx;refine gw h fun b y11 h1 h2=> ?_;subst y11;refine ae (wpAny_standAt (ae (aH (wpAny_truthy_bool ?_))))
  cases a<;>cases b
  ·exact h1 rfl
  ·exact am (h2 rfl)
  ·exact am (h2 rfl)
  ·exact h1 rfl
theorem Fa {a:Bool} {xs:List DE} {p:Pos} (h:E4 T TB Γ lv nf xs):SE T TB Γ lv nf (.bop a xs p):=fun {A C H Y s Q X K E} hA ok R q k kx=>by
 show wpAny _ _ (eval (.BoolOp (cond a .And .Or) (DE.toEs xs) p) C.env) _ _ _;exact h hA (al ok) ((aZ _).mp (ar ok)) R q k kx
theorem FZ {a:Bool} {xs:List DE} {p:Pos} (h:SB T TB Γ lv nf xs):gc T TB Γ lv nf (.bop a xs p):=fun {A C H Y s Q X K E} hA ok R q k kx=>wpAny_isTrue_BoolOp (h hA (al ok) R q k kx)
theorem Av:yT T TB Γ lv nf []:=fun {A C H Y s Q X K E pos} hA _ R q k _=>wpAny_items_nil (k [] [] Y s.heap s.toks (.refl R.st) rfl rfl q)
theorem r7 {x:DE} {xs:List DE} (hx:SE T TB Γ lv nf x) (hxs:yT T TB Γ lv nf xs):yT T TB Γ lv nf (x::xs):=fun hA ok R q k kx=>
 wpAny_items_cons (hx hA (al ok) R q (fun v d U U U IW vr Iw=>hxs hA (ar ok) (R.to0 IW) Iw (fun vs ds Jp H0 Ib IZ vrs hn Ix=>k (v::vs) (d::ds) Jp H0 Ib (IW.trans IZ) ⟨vr.mono IZ.gle,vrs⟩ (aB (· +1) hn) Ix) (kx.after0 IW)) kx) (f9 _ _ _)
theorem Bj:EB T TB Γ lv nf none:=fun U U R q k U=>am (k.same0 (d:= .none) R.st rfl q)
theorem Bz {x:DE} (hx:SE T TB Γ lv nf x):EB T TB Γ lv nf (some x):=fun hA ok R q k kx=>hx hA ok R q k kx
theorem oH:∀(xs:List DE),(DE.toEs xs).length=xs.length:=by
 intro zl
 induction zl with
 | nil=>
  exact rfl
 | cons U xs ih=>
  exact aB (· +1) (ih)
theorem DN {n m:Nat} (h:decide (n<=100)=true) (e:m=n):m<=sizeLine:=e▸aj (iC h) (by decide)
theorem F5 {xs:List DE} {p:Pos} (h:yT T TB Γ lv nf xs):SE T TB Γ lv nf (.tup xs p):=fun {A C H Y s Q X K E} hA ok R q k kx=>
 wpAny_Tuple (h hA (al ok) R q (fun U ds U U Ia IW vrs hn Iw=>⟨DN (ar ok) (vrs.length.trans hn),(k.after IW).newTup IW.st _ (bA _ _) (av _) (aF _ rfl) vrs Iw⟩) kx)
theorem F1 {m:Bool} {xs:List DE} {p:Pos} (h:yT T TB Γ lv nf xs):SE T TB Γ lv nf (.lst m xs p):=fun {A C H Y s Q X K E} hA ok R q k kx=>by
 refine wpAny_List (h hA (al ok) R q (fun vs ds Jo HZ Ia IW vrs hn Iw=>⟨DN (ar ok) (vrs.length.trans hn),(k.after IW).newL (m:=m) IW.st _ (bA _ _) (av _) (aF _ rfl) vrs ?_⟩) kx);have hl:ds.length<=16777216:=DN (ar ok) hn;clear ok Ia vrs IW HZ vs q hA h kx k R K X s Y H C A p
 cases m with
 | true=>exact bx hl Iw
 | false=>exact bx hl Iw
theorem DV {p:Pos}:SE T TB Γ lv nf (.dict p):=fun {A C H Y s Q X K E} hA ok R q k kx=>by
 refine wpAny_Dict_empty ?_;exact k _ (.ref _) _ _ s.toks (.alloc (d:= .dict []) R.st (bA s.heap {cls:= .type "dict",data:= .dict #[]}) (av _) (aF _ rfl) ⟨[],_,rfl,rfl,fun U h=>(fh h),List.nodup_nil⟩) rfl (q _ (R.st.free (bB (av _))) (Nat.ne_of_gt (show 1<s.heap.objs.size by refine bu (R.loc) fun m hm U=> ?_;exact az (aj T.lo1 hA.llo) hm.lt)))
end
noncomputable def eI (T:cK) (P:List V->be->KV->KV->Prop) (lv i:Nat):Prop:=∀{A:Around} {C:Cx} {H:bv} {Y:be} {s:Shared} {Q X:KV} {K E:Value->Shared->Prop} {vs:List Value} {ds:List V},Ac T A C lv->Rl T C H Y s.heap->VRs (G Y s.heap) ds vs->
 P ds Y Q X->Kv T Y s Q K->Kx T C Y s X E->wpAny (model T.prog T.w) A (PySem.call (.ref (bX i)) vs) K E s
noncomputable def fF (T:cK) (Γ:dW) (lv i:Nat):Prop:=eI T (Γ i) lv i
section
variable {T:cK} {TB:eT} {Kf:Frag} {Γ:dW} {lv nf:Nat} {C:Cx} {H:bv} {Y Jo:be} {s:Shared} {A:Around} {Q X:KV} {E:Value->Shared->Prop}
theorem Ac.u (h:Ac T A C lv):A.units+100<=9900:=by have:=h.units;lia
theorem Ac.low (h:Ac T A C (lv+1)):Ac T A C lv:={h with depth:=by have:=h.depth;lia,units:=by have:=h.units;lia}
theorem Kb.kv {K:Bool->Shared->Prop} (k:Kb T Y s Q K):Kv T Y s Q (fun v s'=>wpAny (model T.prog T.w) A (truthy v) K E s'):=fun v d Y' h' tk t vr q=>i5 (k d _ _ tk t q) vr fun U q=>q
theorem kE {op:CmpOp} (x:DE):behindInMarks op x.toE=false:=by
 cases x<;>rfl
theorem GO (KO:cc T TB Kf) {op:CmpOp} {l r:DE} {p:Pos} (hl:SE T TB Γ lv nf l) (hr:SE T TB Γ lv nf r):SE T TB Γ lv nf (.cmp op l r p):=fun hA ok R q k kx=>
 wpAny_Compare1 (hl hA (al ok) R q (fun U U U U U IW va Iw=>hr hA (ar ok) (R.to0 IW) Iw (fun U U U U U IZ vb Ix=>mE KO.hash hA.u IZ.st (va.mono IZ.gle) vb Ix (k.after (IW.trans IZ))) (kx.after0 IW)) kx) (kE _)
theorem Fe (KO:cc T TB Kf) {op:CmpOp} {l r:DE} {p:Pos} (hl:SE T TB Γ lv nf l) (hr:SE T TB Γ lv nf r):gc T TB Γ lv nf (.cmp op l r p):=fun hA ok R q k kx=>
 wpAny_isTrue_Compare1 (hl hA (al ok) R q (fun U U U U U IW va Iw=>hr hA (ar ok) (R.to0 IW) Iw (fun U U U U U IZ vb Ix=>mE KO.hash hA.u IZ.st (va.mono IZ.gle) vb Ix (k.after (IW.trans IZ)).kv) (kx.after0 IW)) kx) (kE _)
theorem uD (m r:DE) (t u:Sem Value):markedEach [.LtE, .LtE] [m.toE,r.toE] [t,u]=[t,u]:=by
 show [t,markedBehindIn .LtE r.toE u]=_;rw [markedBehindIn_of_false (kE r)]
theorem Ga {l m r:DE} {p:Pos} (hl:SE T TB Γ lv nf l) (hm:SE T TB Γ lv nf m) (hr:SE T TB Γ lv nf r):SE T TB Γ lv nf (.btw l m r p):=fun {A C H Y s Q X K E} hA ok R q k kx=>by
 refine ae (hl hA (al ok) R q (fun a da Jo HZ Ia IW va Iw=> ?_) kx);rw [arm_evalEach_cons,arm_evalEach_cons,arm_evalEach_nil,uD];refine ae (aH (hm hA (al (ar ok)) (R.to0 IW) Iw (fun b db Jp H0 Ib IZ vb Ix=> ?_) (kx.after0 IW)));have I0:=IW.trans IZ;refine vI Ix (va.mono IZ.gle) fun i t U Ix=>vI Ix vb fun j u U Ix=>(ae (wpAny_standAt (ae (aH (PyProof.Rows.le_int (ae (wpAny_release ?_)))))));refine ae (aH (wpAny_truthy_bool ?_))
 by_cases hij:i<=j
 ·rw [aA hij];refine ae (aH (hr hA (ar (ar ok)) (R.to0 I0) (brE Ix hij) (fun c dc Jq H1 Ic I2 vc Iy=> ?_) (kx.after0 I0)));exact vI Iy vc fun n w U q=>ae (wpAny_standAt (wpAny_operating (PyProof.Rows.le_int ((k.after (I0.trans I2)).bool I2.st q))))
 ·rw [decide_eq_false hij];exact am ((k.after I0).bool I0.st (brN Ix hij))
theorem F9 {l m r:DE} {p:Pos} (hl:SE T TB Γ lv nf l) (hm:SE T TB Γ lv nf m) (hr:SE T TB Γ lv nf r):gc T TB Γ lv nf (.btw l m r p):=fun {A C H Y s Q X K E} hA ok R q k kx=>by
 refine ae (hl hA (al ok) R q (fun a da Jo HZ Ia IW va Iw=> ?_) kx);rw [arm_evalEach_cons,arm_evalEach_cons,arm_evalEach_nil,uD];refine ae (aH (hm hA (al (ar ok)) (R.to0 IW) Iw (fun b db Jp H0 Ib IZ vb Ix=> ?_) (kx.after0 IW)));have I0:=IW.trans IZ;refine vI Ix (va.mono IZ.gle) fun i t U Ix=>vI Ix vb fun j u U Ix=>(ae (wpAny_standAt (ae (aH (PyProof.Rows.le_int (ae (wpAny_release ?_)))))));refine ae (aH (wpAny_truthy_bool ?_))
 by_cases hij:i<=j
 ·rw [aA hij];refine ae (aH (hr hA (ar (ar ok)) (R.to0 I0) (brE Ix hij) (fun c dc Jq H1 Ic I2 vc Iy=> ?_) (kx.after0 I0)));exact vI Iy vc fun n w U q=>ae (wpAny_standAt (ae (wpAny_operating (PyProof.Rows.le_int (aH (wpAny_truthy_bool (k (.bool _) _ _ Ic (I0.trans I2) q)))))))
 ·rw [decide_eq_false hij];exact am (k (.bool false) _ _ Ib I0 (brN Ix hij))
theorem Dq:∀i,i<56->(dN i != "super" && !(dN i==("__debug__" :Str)))=true:=by decide+kernel
theorem oP (f:Fn) (h:∀i,f= .user i->i<56):(f.name != "super" && !(f.name==("__debug__" :Str)))=true:=by
 cases f with
 | user i=>exact Dq i (h _ rfl)
 | list m=>cases m<;>decide+kernel
 | _=>decide+kernel
theorem uq {cf:Bool} {k:cO} {f:Fn} {args:List DE} {fp p:Pos} (hnf:nf<=56) (ok:fe cf nf k (.call f args fp p)=true):∀i,f= .user i->i<56:=fun i e=>by
 subst e;exact a8 (iC (al (ar (ar (ar ok))))) hnf
theorem lH {x:DE} {cf:Bool} {k:cO} (hnf:nf<=56) (ok:fe cf nf k x=true) (env:Env) (n:Str):attributeBase x.toE n env (eval x.toE env)=eval x.toE env:=by
 cases x with
 | call f args fp p=>
  have h:=al (oP f (uq hnf ok));clear ok hnf k cf
  cases args with
  | nil=>
   show attributeBase (.Call (.Name f.name fp) [] [] p) n env (eval (.Call (.Name f.name fp) [] [] p) env)=_;delta attributeBase;refine if_pos ?_;rw [h];rfl
  | cons a as=>rfl
 | _=>rfl
theorem Kv.temp {x:Expr} {o:Value} {K:Value->Shared->Prop} (k:Kv T Y s Q K):Kv T Y s Q (fun r IK=>wpAny (model T.prog T.w) A (letTemporaryGo x o r>>=fun U=>pure r) K E IK):=fun v d Y' h' tk t vr q=>ae (wpAny_letTemporaryGo (am (k v d Y' h' tk t vr q)))
theorem Ev (KO:cc T TB Kf) (hnf:nf<=56) {o:DE} {n:Nat} {p:Pos} (ho:SE T TB Γ lv nf o):SE T TB Γ lv nf (.attr o n p):=fun {A C H Y s Q X K E} hA ok R q k kx=>by
 show wpAny _ _ (eval (.Attribute o.toE (nm n) p) C.env) _ _ _;rw [arm_eval_Attribute,lH hnf (al ok)];exact ae (ho hA (al ok) R q (fun U U U U U IW vr Iw=>ae (wpAny_standAt (ae (aH (Bt KO (iC (ar ok)) IW.st vr Iw (k.after IW).temp))))) kx)
theorem Fs (KO:cc T TB Kf) {o i:DE} {p:Pos} (ho:SE T TB Γ lv nf o) (hi:SE T TB Γ lv nf i):SE T TB Γ lv nf (.sub o i p):=fun hA ok R q k kx=>
 Subscript_ (ho hA (al ok) R q (fun U U U U U IW va Iw=>hi hA (ar ok) (R.to0 IW) Iw (fun U U U U U IZ vb Ix=>Ee KO.hash hA.u IZ.st (va.mono IZ.gle) vb Ix (k.after (IW.trans IZ))) (kx.after0 IW)) kx)
theorem F0 (KO:cc T TB Kf) {i:DE} {np p:Pos} (hi:SE T TB Γ lv nf i):SE T TB Γ lv nf (.szw i np p):=fun hA ok R q k kx=>
 Subscript_ (Name_function_global hA.kind (d6 (ar ok)) (loadGlobal_global (kQ KO hA R) KO.szw (hi hA (al ok) R q (fun U U U U U IW vb Iw=>Du KO IW.st vb Iw (k.after IW)) kx)))
theorem Gc {m:Bool} {o:DE} {l u st:Option DE} {sp p:Pos} (ho:SE T TB Γ lv nf o) (hl:EB T TB Γ lv nf l) (hu:EB T TB Γ lv nf u) (hs:EB T TB Γ lv nf st):SE T TB Γ lv nf (.slc m o l u st sp p):=fun {A C H Y s Q X K E} hA ok R q k kx=>by
 refine Subscript_ (ho hA (al ok) R q (fun v d Jo HZ Ia IW va Iw=> ?_) kx);refine ae (hl hA (al (ar ok)) (R.to0 IW) Iw (fun a da Jp H0 Ib IZ vl Ix=> ?_) (kx.after0 IW));have IX:=IW.trans IZ;refine ae (aH (hu hA (al (ar (ar ok))) (R.to0 IX) Ix (fun b db Jq H1 Ic I0 vu Iy=> ?_) (kx.after0 IX)));have IY:=IX.trans I0;refine ae (aH (hs hA (ar (ar (ar ok))) (R.to0 IY) Iy (fun c dc Jr H2 Id I2 vs Iz=> ?_) (kx.after0 IY)));refine wpAny_newObj_type ?_ (by size_fits);have hk:=bA H2 {cls:= .type "slice",data:= .fields #[a,b,c]};have I3:=To.grow (L:=Nl) I2.st hk;exact Di I3.st (va.mono (IZ.trans (I0.trans (I2.trans I3))).gle) (vl.mono ((I0.trans (I2.trans I3)).gle)) (vu.mono ((I2.trans I3).gle)) (vs.mono I3.gle) (aF _ rfl) Iz (k.after (IY.trans (I2.trans I3)))
theorem cx (env:Env) (pos:Pos):∀(xs:List DE),(backTo pos (starEach (DE.toEs xs) env)).any (·.1)=false:=by
 intro zl
 induction zl with
 | nil=>
  exact rfl
 | cons x xs ih=>
  show (backTo pos (starEach (x.toE::DE.toEs xs) env)).any (·.1)=false;rw [f9];exact ih
theorem cH {M:Model} {A:Around} {E:Value->Shared->Prop} {s:Shared} {f:Value} {xs:List DE} {env:Env} {pos:Pos} {Q:Args->Shared->Prop} (h:wpAny M A (spliced (backTo pos (starEach (DE.toEs xs) env))) (fun vs s'=>Q ⟨vs,[]⟩ s') E s):wpAny M A (evalArgs f true (backTo pos (starEach (DE.toEs xs) env)) []) Q E s:=by
 cases xs with
 | nil=>
  refine ae (wpAny_mono h (fun vs s' h'=> ?_) fun U U x=>x);exact ae (am (aH (ae (am (ae (am (am h')))))))
 | cons x xs=>
  revert h;show wpAny M A (spliced (backTo pos (starEach (x.toE::DE.toEs xs) env))) _ E s->wpAny M A (evalArgs f true (backTo pos (starEach (x.toE::DE.toEs xs) env)) []) Q E s;rw [f9];exact evalArgs_plain
theorem fE {f:Value} {pos:Pos} {first:List Value} {args:List (Bool×Sem Value)} {Q:Value->Shared->Prop} (hplain:args.any (·.1)=false) (hkeep:∀{s:Shared} {Q:Keeper->Shared->Prop},T.top s.heap->Q .frame s->Q .machine s->wpAny (model T.prog T.w) A (keeperOf f) Q E s) (h:wpAny (model T.prog T.w) A (evalArgs f true args []) (fun x IK=>T.top IK.heap/\wpAny (model T.prog T.w) A (PySem.call f (first++x.pos) x.kw) Q E IK) E s):wpAny (model T.prog T.w) A (callWith pos f first args []) Q E s:=by
 refine ae (aH (wpAny_mono h (fun x IK HZ=>ae (wpAny_standAt ?_)) fun U U x=>x))
 have tail:∀{t:Sem Value},wpAny (model T.prog T.w) A t Q E IK->wpAny (model T.prog T.w) A (t>>=fun r=>holding [r] point>>=fun U=>pure r) Q E IK:=
  fun ht=>ae (wpAny_mono ht (fun r IL hr=>ae (aH (wpAny_point (am hr)))) fun U U x=>x)
 rw [hplain,List.any_nil,Bool.or_false];refine ae (hkeep HZ.1 ?_ ?_)
 ·dsimp only
  split
  ·exact tail HZ.2
  ·exact tail (by delta callMarked;exact Calls.wpAny_keep HZ.2)
 ·exact tail HZ.2
theorem qD (f:Fn) (h:kh f=false):(∃id,f.val= .builtin id)\/(∃t,f.val= .type t):=by
 cases f with
 | user i=>exact lN h
 | _=>first | exact .inl ⟨_,rfl⟩ | exact .inr ⟨_,rfl⟩
theorem qa {f:Fn} (h:∀i,f= .user i->i<56):(f.name==("__debug__" :Str))=false:=(aZ _).mp (ar (oP f h))
theorem Ea (KO:cc T TB Kf) (hnf:nf<=56) (CK:∀i,i<nf->fF T Γ lv i) {f:Fn} {args:List DE} {fp p:Pos} (ha:yT T TB Γ lv nf args):SE T TB Γ lv nf (.call f args fp p):=fun {A C H Y s Q X K E} hA ok R q k kx=>by
 have hlt:=uq hnf ok;have hkk:=d6 (al (ar ok));have gns:=kQ KO hA R
 cases hu:kh f with
 | false=>
  have hb:=KO.bfn f hu;refine Call_Name rfl (Name_function_global hA.kind hkk (loadGlobal_builtin gns hb.1 (xJ KO hA R) hb.2 ?_) (qa hlt))
  have main:∀g:Value,wpAny (model T.prog T.w) A (evalArgs g true (backTo p (starEach (DE.toEs args) C.env)) []) (fun a IK=>wpAny (model T.prog T.w) A (PySem.call f.val ([]++a.pos) a.kw) K E IK) E s:=fun g=>
   cH (ha hA (al ok) R q (fun vs ds Jo HZ Ia IW vrs hn Iw=>BK KO hu hA.handled IW.st vrs Iw (k.after IW)) kx)
  rcases qD f hu with ⟨id,hid⟩ | ⟨t,ht⟩
  ·rw [hid] at main ⊢;exact callWith_builtin (cx _ _ _) (main _)
  ·rw [ht] at main ⊢;exact PyProof.Rows.callWith_type (cx _ _ _) (main _)
 | true=>
  cases f with
  | user i=>
   have ok4:=ar (ar (ar ok));have hi:=hlt i rfl;refine Call_Name rfl (Name_function_global hA.kind hkk (loadGlobal_global gns (KO.ufn i hi ((aZ _).mp (ar ok4))) ?_) (qa hlt));exact fE (cx _ _ _) (fun t a b=>KO.keeper i hi t a b) (cH (ha hA (al ok) R q (fun vs ds Jo HZ Ia IW vrs hn Iw=>⟨IW.st.top,CK i (iC (al ok4)) hA (R.to0 IW) vrs Iw (k.after IW) (kx.after0 IW)⟩) kx))
  | _=>cases hu
theorem wh {l:List (Bool×Sem Value)} (h:l.any (·.1)=false):l.all (fun x=> !x.1)=true:=by
 refine ak (List.all_eq_not_any_not ..) ?_;simp only [Bool.not_not,h,Bool.not_false]
noncomputable def vi:Mt->Bool | .user U=>true | _=>false
theorem rC {m:Mt} (d:V) (h:vi m=false):∃id,m.val d= .builtin id:=by
 cases m with
 | user i=>exact lN h
 | _=>exact ⟨_,rfl⟩
theorem DW (KO:cc T TB Kf) (hnf:nf<=56) (CK:∀i,i<nf->fF T Γ lv i) {m:Mt} {o:DE} {args:List DE} {ap p:Pos} (ho:SE T TB Γ lv nf o) (ha:yT T TB Γ lv nf args):SE T TB Γ lv nf (.meth m o args ap p):=fun {A C H Y s Q X K E} hA ok R q k kx=>by
 have ok1:=al ok;have ok2:=al (ar ok);have ok3:=iC (al (ar (ar ok)));have ok5:=ar (ar (ar (ar ok)));show wpAny _ _ (eval (.Call (.Attribute o.toE m.name ap) (DE.toEs args) [] p) C.env) _ _ _;rw [arm_eval_Call,lH hnf ok1];refine ae (ho hA ok1 R q (fun v d Jo HZ Ia IW vr Iw=> ?_) kx);obtain ⟨mk,Iw⟩:=dG Iw;refine ae (wpAny_standAt ?_)
 have hform:methodCallForm ((DE.toEs args).length+([]:List Keyword).length) (backTo p (starEach (DE.toEs args) C.env)) (backToKw p (keywordEach [] C.env))=true:=by
  delta methodCallForm;rw [wh (cx _ _ _),oH];rw [show backToKw p (keywordEach [] C.env)=[] from rfl];simp;exact Nat.lt_succ_of_lt ‹_›
 have hpos:methodCallPos true o.toE C.env ap p=pure p:=by delta methodCallPos;simp [(al (ar (ar (ar ok))))]
 delta methodCall;rw [hform];refine ae (aH ?_)
 cases hu:vi m with
 | false=>
  have hu':∀i,m≠ .user i:=fun i e=>by rw [e] at hu;exact lN hu
  refine By hu' IW.st vr mk (ae (wpAny_of_eq hpos ?_));obtain ⟨id,hid⟩:=rC d hu
  have main:wpAny (model T.prog T.w) A (evalArgs (m.val d) true (backTo p (starEach (DE.toEs args) C.env)) []) (fun a IK=>wpAny (model T.prog T.w) A (PySem.call (m.val d) ([v]++a.pos) a.kw) K E IK) E (put s HZ Ia):=
   cH (ha hA ok2 (R.to0 IW) Iw (fun vs ds Jp H0 Ib IZ vrs hn Ix=>yo hu' (sC hA.u) IZ.st (vr.mono IZ.gle) vrs Ix (k.after (IW.trans IZ))) (kx.after0 IW))
  rw [hid] at main ⊢;exact callWith_builtin (cx _ _ _) main
 | true=>
  cases m with
  | user i=>
   have hi:=a8 (iC (al ok5)) hnf;refine zX KO hi (ar ok5) IW.st vr mk (ae (wpAny_of_eq hpos ?_));exact fE (cx _ _ _) (fun t a b=>KO.keeper i hi t a b) (cH (ha hA ok2 (R.to0 IW) Iw (fun vs ds Jp H0 Ib IZ vrs hn Ix=>⟨IZ.st.top,CK i (iC (al ok5)) hA (R.to0 (IW.trans IZ)) (ds:=d::ds) ⟨vr.mono IZ.gle,vrs⟩ Ix (k.after (IW.trans IZ)) (kx.after0 (IW.trans IZ))⟩) (kx.after0 IW)))
  | _=>cases hu
end
noncomputable def Kl (T:cK) (C:Cx) (Y:be) (s:Shared) (H':bv) (K:Unit->Shared->Prop):Prop:=
 ∀h' tk,To T (hH C) Y s.heap Y h'->Rl T C H' Y h'->K () (put s h' tk)
section
variable {T:cK} {TB:eT} {Γ:dW} {lv nf:Nat} {A:Around} {C:Cx} {E:Value->Shared->Prop} {Y Y':be} {H:bv} {h h':Heap}
theorem Rl.noval (R:Rl T C H Y h) (a:Addr) (o:Obj) (l:hH C a) (e:h.get? a=some o):¬cN o:=by
 refine l.elim (fun q=>dU R.loc fun m hm=>dU hm.1 fun o' hm=>oo hm fun es ep hm=> ?_) fun q=>dU q.2 fun x hx=>dU (R.cells x a hx).2 fun v hv=>bu hv fun o' e1 e2=> ?_
 ·rw [q] at e;rw [bW (e.symm.trans hm.1)];exact gg hm.2.1
 ·rw [bW (e.symm.trans e1)];exact iv e2
theorem Rl.gle (R:Rl T C H Y h) (t:To T (hH C) Y h Y' h'):jq (G Y h) (G Y' h'):=t.gle' fun a o l U e=>R.noval a o l e
theorem fb (x:TT) (r:List Expr) (env:Env):assignEach (x.toE::r) env=(false,assign x.toE env)::assignEach r env:=by cases x<;>rfl
theorem kS (env:Env) (l:List TT):(assignEach (TT.toEs l) env).length=l.length:=by
 induction l with
 | nil=>rfl
 | cons t l ih=>exact (aB List.length (fb t (TT.toEs l) env)).trans (aB (· +1) ih)
theorem gu (env:Env) (l:List TT):(assignEach (TT.toEs l) env).findIdx? (·.1)=none:=by
 induction l with
 | nil=>rfl
 | cons t l ih=>
  show (assignEach (t.toE::TT.toEs l) env).findIdx? (·.1)=none;rw [fb,List.findIdx?_cons,ih];rfl
theorem dZ {vs:List V} {H H':bv} (h:bindTs [] vs H=some H'):vs=[]/\H=H':=by
 cases vs with
 | nil=>exact ⟨rfl,bW h⟩
 | cons=>exact bZ h
theorem fD {t:TT} {l:List TT} {vs:List V} {H H':bv} (h:bindTs (t::l) vs H=some H'):∃v r Ji,vs=v::r/\dT t v H=some Ji/\bindTs l r Ji=some H':=by
 cases vs with
 | nil=>exact bZ h
 | cons v r=>exact bu (aK.mp h) fun Ji h1 h2=>⟨v,r,Ji,rfl,h1,h2⟩
theorem rV {l:List TT}:∀{vs:List V} {H H':bv},bindTs l vs H=some H'->l.length=vs.length:=by
 induction l with
 | nil=>exact fun h=>(dZ h).1▸rfl
 | cons t l ih=>exact fun h=>ov (fD h) fun v r Ji e h1 h2=>bi e (aB (· +1) (ih h2))
theorem jB (hA:Ac T A C lv):(C.env.scope.kind== .class || (C.env.scope.kind== .module && C.env.locals !=C.env.globals))=false:=by rw [hA.kind];rfl
theorem kA {x:Addr} {vs:List Value} {n:Nat} {ds:List V} {l:List TT} {H H':bv} {G:Wd} (q:VRs G ds vs) (hb:bindTs l ds H=some H') (env:Env):(assignEach (TT.toEs l) env).length=vs.toArray.size:=by
 rw [kS,rV hb,<-q.length,aI]
theorem py (hA:Ac T A C lv):(∀(t:TT) (v:Value) (d:V) (H H':bv) (s:Shared) (K:Unit->Shared->Prop),tD C.env.kindOf C.fn t=true->Rl T C H Y s.heap->VR (G Y s.heap) d v->dT t d H=some H'->Kl T C Y s H' K->wpAny (model T.prog T.w) A (assign t.toE C.env v) K E s)/\∀(l:List TT) (vs:List Value) (ds:List V) (H H':bv) (s:Shared) (K:Unit->Shared->Prop),okTs C.env.kindOf C.fn l=true->Rl T C H Y s.heap->VRs (G Y s.heap) ds vs->bindTs l ds H=some H'->Kl T C Y s H' K->wpAny (model T.prog T.w) A (assignInOrder ((assignEach (TT.toEs l) C.env).map (·.2)) vs) K E s:=by
 refine TT.both (fun c i p v d H H' s K ok R vr hb k=> ?_) (fun l p ih v d H H' s K ok R vr hb k=> ?_) (fun vs ds H H' s K U R vr hb k=> ?_) fun t l h1 h2 vs ds H H' s K ok R vr hb k=> ?_
 ·have hn:=iC (al (ar ok));have hk:=d6 (ar (ar ok));rw [<-bW hb] at k
  cases c with
  | false=>exact dU R.loc fun m hm=>wpAny_assign_Name (wpAny_storeName_local hk hm.1 (fun h' hn' hs=>fI (R.bindL hA hn hk vr hm.1 hn' hs) fun R' t=>k h' _ t R') (jB hA))
  | true=>
   have hf:C.fn=true:=al ok;exact dU (Option.isSome_iff_exists.mp (hA.cin hf _ hk)) fun c hc=>dU (R.cells _ _ (mem_of_lookup hc)).2 fun I9 HT=>wpAny_assign_Name (wpAny_storeName_cell hA.kind hk hc HT (fun h' hn' hs=>fI (R.bindC hA hf hn hk vr hc hn' hs) fun R' t=>k h' s.toks t R'))
 ·refine bu (aK.mp hb) fun ds e hb=> ?_
  have go:∀(vs:List Value) (h':Heap),VRs (G Y s.heap) ds vs->Heap.ExtBut s.heap.objs.size s.heap h'->wpAny (model T.prog T.w) A (assignInOrder ((assignEach (TT.toEs l) C.env).map (·.2)) vs) K E {s with heap:=h'}:=fun vs h' q hx=>by
   have hk:dS s.heap h':=fun b o e=>hx b o (Nat.ne_of_lt (Heap.lt_size e)) e;have t:=To.grow (L:=Nl) R.st hk;exact ih vs ds H H' _ K (al ok) (R.to0 t) (q.mono (d9 hk)) hb (fun h'' tk t' R'=>k h'' tk (t.up.trans t') R')
  refine (yi e).elim (fun e=> ?_) fun e=> ?_
  ·exact (e▸vr:VR (G Y s.heap) (.tup ds) v).rec fun x vs n e g q=>bi e (PySem.wpAny_assign_Tuple hA.handled ⟨_,g.1,rfl,_,rfl⟩ (kA (x:=x) (n:=n) q hb C.env) (gu _ l) fun h'=>go vs h' q)
  ·refine (e▸vr:VR (G Y s.heap) (.lst ds) v).rec fun x vs n e g q=>bi e (ae (wpAny_standAt ?_));unfold unpack;rw [kA (x:=x) (n:=n) q hb C.env,gu];exact ae (aH (kun_itemsOf hA.handled ⟨_,g.1,rfl,_,rfl⟩ fun h'=>go vs h' q))
 ·rw [(dZ hb).1] at vr;exact bi vr (am (k s.heap s.toks (.refl R.st) ((dZ hb).2▸R)))
 ·refine ov (fD hb) fun d ds Ji e q1 q2=> ?_;rw [e] at vr
  cases vs with
  | nil=>exact vr.elim
  | cons v vs=>
   show wpAny _ _ (assignInOrder ((assignEach (t.toE::TT.toEs l) C.env).map (·.2)) _) _ _ _;rw [fb,aR];exact ae (aH (h1 v d H Ji s _ (al ok) R vr.1 q1 fun h' tk t' R'=>h2 vs ds Ji H' _ _ (ar ok) R' (vr.2.mono (R.gle t')) q2 fun h'' tk' t'' R''=>k h'' tk' (t'.trans t'') R''))
theorem eP (hA:Ac T A C lv) {t:TT} {v:Value} {d:V} {H H':bv} {s:Shared} {K:Unit->Shared->Prop}:tD C.env.kindOf C.fn t=true->Rl T C H Y s.heap->VR (G Y s.heap) d v->dT t d H=some H'->Kl T C Y s H' K->wpAny (model T.prog T.w) A (assign t.toE C.env v) K E s:=(py hA).1 t v d H H' s K
end
end Mine
end
section
namespace Mine
open PySem PySem.W PyProof.Rows PySem.Calls PySem.SeqAt Builtin
structure It (T:cK) (tg:TT) (I:Addr) (W:Addr->Prop) (items:List V) (c:Cd) (Sx:Nat->be->Heap->Prop):Prop where
 keep:∀{L:Addr->Prop} {Y:be} {h:Heap} {Y':be} {h':Heap} {i:Nat},Sx i Y h->To T L Y h Y' h'->(∀a o,L a->h.get? a=some o->eE o.data=false)->cb c Y'->Sx i Y' h'
 self:∀{A:Around} {i:Nat} {Y:be} {s:Shared} {Q:Value->Shared->Prop} {E:Value->Shared->Prop},Sx i Y s.heap->Q (.ref I) s->wpAny (model T.prog T.w) A (pyIter (.ref I)) Q E s
 next:∀{A:Around} {Y:be} {s:Shared} {K:Option Value->Shared->Prop} {E:Value->Shared->Prop} {i:Nat} {x:V},A.handled=none->St T Y s.heap->items[i]? =some x->Sx i Y s.heap->
  (∀v IK,(∀{K2:Unit->Shared->Prop} {E2:Value->Shared->Prop},(∀h' tk,To T W Y s.heap Y h'->jq (G Y s.heap) (G Y h')->Sx (i+1) Y h'->VR (G Y h') x v->K2 () (put s h' tk))->
    wpAny (model T.prog T.w) A (letOwnedTupleGo tg.toE (.ref I) v) K2 E2 IK)->K (some v) IK)->wpAny (model T.prog T.w) A (pyNext (.ref I)) K E s
 done:∀{A:Around} {Y:be} {s:Shared} {K:Option Value->Shared->Prop} {E:Value->Shared->Prop},A.handled=none->St T Y s.heap->Sx items.length Y s.heap->
  (∀h' tk,(∀b o,¬W b->s.heap.get? b=some o->h'.get? b=some o)->K none (put s h' tk))->wpAny (model T.prog T.w) A (pyNext (.ref I)) K E s
 hid:∀{i:Nat} {Y:be} {h:Heap},Sx i Y h->AV W Y h
 lo:∀a,W a->T.lo<=a
 own:∀{i:Nat} {Y:be} {h:Heap},Sx i Y h->∀a,W a->Y a=none\/(Y a=some .hid/\c=some (a, .hid))
noncomputable def ownTypes:List String:=["enumerate", "zip", "dict_itemiterator", "dict_reverseitemiterator", "odict_iterator", "itertools.zip_longest", "itertools.pairwise"]
section
variable {T:cK} {A:Around} {E:Value->Shared->Prop} {s:Shared} {Y Y':be} {h h':Heap} {W L:Addr->Prop} {c:Cd} {tg:TT} {items:List V}
theorem qh {prog:Program} {w:World} {e:Expr} {I:Addr} {v:Value} {Q:Unit->Shared->Prop} (h:∃o n,s.heap.get? I=some o/\o.cls= .type n/\ownTypes.contains n=false) (q:Q () s):wpAny (model prog w) A (letOwnedTupleGo e (.ref I) v) Q E s:=by
 refine eJ h fun o n ho hc hn=> ?_
 have body:wpAny (model prog w) A (match (Value.ref I,v) with
  | (.ref r, .ref a)=>do
   let o <-load r
   match o.cls,o.data with
   | .type n, .fields vs=>
    if ["enumerate", "zip", "dict_itemiterator", "dict_reverseitemiterator", "odict_iterator", "itertools.zip_longest", "itertools.pairwise"].contains n && vs[0]? ==some (rawInt a) then
     rule "for.unpacks-the-owned-tuple"
     updateField r 0 .none
   | U,z1=>pure ()
  | _=>pure ()) Q E s:=by
  cases v with
  | ref a=>
   refine ae (wpAny_load ho ?_);rw [hc]
   cases o.data with
   | fields vs=>
    show wpAny _ A (if (ownTypes.contains n && vs[0]? ==some (rawInt a))=true then _ else _) Q E s;rw [hn,Bool.false_and,if_neg (by decide)];exact am q
   | _=>exact am q
  | _=>exact am q
 cases e with
 | Tuple U z1 z2=>exact body
 | List U z1=>exact body
 | _=>exact am q
theorem To.spot (st:St T Y h) (hk:∀b o,¬W b->h.get? b=some o->h'.get? b=some o) (hw:∀b,W b->T.lo<=b/\free (Y b)/\∃o,h'.get? b=some o) (nv:AV W Y h):To T W Y h Y h'/\jq (G Y h) (G Y h'):=by
 have le:jq (G Y h) (G Y h'):=fun b o x=>⟨hk b o (fun q=>(nv b o q x.2.1 x.1).1 x.2.2) x.1,x.2⟩;refine ⟨⟨⟨T.keep st.top fun b o hb e=>hk b o (fun q=>absurd (hw b q).1 (Nat.not_le.mpr hb)) e,fun b d e=> ?_⟩,fun b o e=> ?_,fun U U U=> .refl _⟩,le⟩
 ·obtain ⟨l,o,h1,h2⟩:=st.sto b d e
  by_cases q:W b
  ·obtain ⟨U,f,o',ho'⟩:=hw b q;rw [e] at f;rcases f with f | f
   ·exact gq f
   ·(replace f:=bW f;subst f);exact ⟨l,o',ho',trivial⟩
  ·exact ⟨l,o,hk b o q h1,h2.mono le⟩
 ·by_cases q:W b
  ·obtain ⟨U,U,o',ho'⟩:=hw b q;exact ⟨o',ho',fun U n=>absurd q n⟩
  ·exact ⟨o,hk b o q e,fun U U=> .inl rfl⟩
theorem vnd {o:Obj} (v:eE o.data=true) (es:Array DictEntry) (n:Nat):o.data≠ .dict es n:=fun q=>by rw [q] at v;exact cR v
theorem To.foot (t:To T L Y h Y' h') (nl:∀a o,L a->h.get? a=some o->eE o.data=false) {b:Addr} {o:Obj} (e:h.get? b=some o) (v:eE o.data=true) (f:free (Y b)):h'.get? b=some o/\free (Y' b):=
 ⟨t.same e f (fun q=>by rw [nl b o q e] at v;exact cR v) (vnd v),(t.dom b o e).2 f⟩
theorem To.gleV (t:To T L Y h Y' h') (nl:∀a o,L a->h.get? a=some o->eE o.data=false):jq (G Y h) (G Y' h'):=t.gle' fun a o l U e v=>by have:=v.2;rw [nl a o l e] at this;exact cR this
noncomputable def Sx (fp:List Addr) (c:Cd) (P:Nat->Heap->Prop) (src:be->Heap->Prop) (i:Nat) (Y:be) (h:Heap):Prop:=P i h/\(∀b∈fp,Y b=none)/\src Y h/\cb c Y
noncomputable def gJ (T:cK) (c:Cd) (src:be->Heap->Prop):Prop:=∀{L:Addr->Prop} {Y:be} {h:Heap} {Y':be} {h':Heap},src Y h->To T L Y h Y' h'->jq (G Y h) (G Y' h')->cb c Y'->src Y' h'
theorem Sx.keep {fp:List Addr} {P:Nat->Heap->Prop} {src:be->Heap->Prop} {i:Nat} (fr:∀h h',P i h->(∀b∈fp,∀o,h.get? b=some o->h'.get? b=some o)->P i h') (th:∀h,P i h->∀b∈fp,∃o,h.get? b=some o/\eE o.data=true) (so:gJ T c src) (x:Sx fp c P src i Y h) (t:To T L Y h Y' h') (nl:∀a o,L a->h.get? a=some o->eE o.data=false) (sd:cb c Y'):Sx fp c P src i Y' h':=by
 have x1:=x.1;have x2:=x.2.1;refine ⟨fr h h' x1 fun b hb o e=> ?_,fun b hb=> ?_,so (x.2.2.1) t (t.gleV nl) sd,sd⟩
 ·refine bu (th h x1 b hb) fun o' e' v=> ?_;rw [e] at e';(replace e':=bW e';subst e');exact (t.foot nl e v (.inl (x2 b hb))).1
 ·exact bu (th h x1 b hb) fun o' e' v=>(t.off e' (x2 b hb))
theorem It.one {I:Addr} {fp:List Addr} {P:Nat->Heap->Prop} {src:be->Heap->Prop} (lI:T.lo<=I) (hI:I∈fp) (nc:∀a,c≠some (a, .hid)) (fr:∀i h h',P i h->(∀b∈fp,∀o,h.get? b=some o->h'.get? b=some o)->P i h') (th:∀i h,P i h->∀b∈fp,∃o,h.get? b=some o/\eE o.data=true) (so:gJ T c src) (cls:∀i h,P i h->∃o n vs,h.get? I=some o/\o.cls= .type n/\(ownTypes.contains n=false/\(n≠ "tuple" /\n≠ "list" /\n≠ "range"))/\o.data= .fields vs) (self:∀{A:Around} {i:Nat} {s:Shared} {Q:Value->Shared->Prop} {E:Value->Shared->Prop},P i s.heap->Q (.ref I) s->wpAny (model T.prog T.w) A (pyIter (.ref I)) Q E s) (item:∀{A:Around} {Y:be} {s:Shared} {Q:Option Value->Shared->Prop} {E:Value->Shared->Prop} {i:Nat} {x:V},A.handled=none->items[i]? =some x->St T Y s.heap->P i s.heap->src Y s.heap->(∀v h' tk,VR (G Y s.heap) x v->P (i+1) h'->(∀b o,b≠I->s.heap.get? b=some o->h'.get? b=some o)->Q (some v) (put s h' tk))->wpAny (model T.prog T.w) A (pyNext (.ref I)) Q E s) (done:∀{A:Around} {Y:be} {s:Shared} {Q:Option Value->Shared->Prop} {E:Value->Shared->Prop},A.handled=none->St T Y s.heap->P items.length s.heap->src Y s.heap->(∀h' tk,(∀b o,b≠I->s.heap.get? b=some o->h'.get? b=some o)->Q none (put s h' tk))->wpAny (model T.prog T.w) A (pyNext (.ref I)) Q E s):It T tg I (· =I) items c (Sx fp c P src):=by
 have hid:∀{i:Nat} {Y:be} {h:Heap},Sx fp c P src i Y h->AV (· =I) Y h:=fun {i Y h} x a o l _ e=>by
  refine wG (cls i h x.1) fun o' n vs e' hc y1 hd=>(Ad y1 fun U h1 h2 h3=> ?_);subst l;rw [e] at e';(replace e':=bW e';subst e');refine ⟨fun v=> ?_,vs,hd⟩;rcases v.1 with q | q | q<;>rw [hc] at q<;>injection q with q
  ·exact h1 q
  ·exact h2 q
  ·exact h3 q
 have stx:∀{i:Nat} {Y:be} {h h':Heap},St T Y h->Sx fp c P src i Y h->(∀b o,b≠I->h.get? b=some o->h'.get? b=some o)->(∃o,h'.get? I=some o)->To T (· =I) Y h Y h'/\jq (G Y h) (G Y h'):=fun st x hk ex=>
  To.spot st hk (fun b q=>by subst q;exact ⟨lI, .inl (x.2.1 b hI),ex⟩) (hid x)
 refine ⟨fun x t nl sd=>x.keep (fr _) (th _) so t nl sd,fun x q=>self x.1 q,fun {A Y s K E i y} hh st hx x k=>item hh hx st x.1 x.2.2.1 fun v h' tk vr p hk=> ?_,fun {A Y s K E} hh st x k=>done hh st x.1 x.2.2.1 fun h' tk hk=>k h' tk hk,hid,fun a q=>q▸lI,fun x a q=> .inl (q▸x.2.1 I hI)⟩;refine wG (cls _ _ p) fun o' n vs e' hc hn hd=> ?_;obtain ⟨t,le⟩:=stx st x hk ⟨o',e'⟩;exact k v _ fun k2=>qh ⟨o',n,e',hc,hn.1⟩ (k2 h' tk t le ⟨p,x.2.1,so x.2.2.1 t le x.2.2.2,x.2.2.2⟩ (vr.mono le))
end
section
variable {T:cK} {TB:eT} {Kf:Frag} {A:Around} {E:Value->Shared->Prop} {K:Value->Shared->Prop} {s:Shared} {Y Y':be} {h h':Heap} {c:Cd} {tg:TT} {items:List V} {f:Cd->be->Prop}
noncomputable def xu (T:cK) (tg:TT) (items:List V) (Y:be) (s:Shared) (f:Cd->be->Prop) (K:Value->Shared->Prop):Prop:=
 ∀I W c S Y' h' tk,To T Nl Y s.heap Y' h'->It T tg I W items c S->S 0 Y' h'->(∀a,W a->s.heap.get? a=none)->cb c Y'->f c Y'->K (.ref I) (put s h' tk)
theorem jM {o:Obj} {fp:List Addr} {P:Nat->Heap->Prop} {src:be->Heap->Prop} (st:St T Y s.heap) (k:xu T tg items Y s f K) (it:T.lo<=s.heap.objs.size->It T tg s.heap.objs.size (· =s.heap.objs.size) items c (Sx fp c P src)) (p0:P 0 (s.heap.push o)) (old:∀a∈fp,a≠s.heap.objs.size->Y a=none) (hs:src Y (s.heap.push o)) (sd:cb c Y) (q:f c Y):K (.ref s.heap.objs.size) {s with heap:=s.heap.push o}:=
 k _ _ c _ Y _ s.toks (.grow st (bA _ _)) (it (T.size st.top)) ⟨p0,fun b hb=>(by
  by_cases q:b=s.heap.objs.size
  ·subst q;exact st.free (bB (av _))
  ·exact old b hb q),hs,sd⟩ (fun a q=>by subst q;exact bB (av _)) sd q
noncomputable def LSrc (ax:Addr) (l:List V) (Y:be) (h:Heap):Prop:=∃vs n,h.get? ax=some (ey "list" vs n)/\VRs (G Y h) l vs/\(Y ax=none\/Y ax=some (.list l))
theorem rm {G:Wd} {vs:List Value} {l:List V} (h:VRs G l vs) {i:Nat} {x:V} (hx:l[i]? =some x):∃v,vs.toArray[i]? =some v/\VR G x v:=
 bu (h.get hx) fun v h1 h2=>⟨v,(List.getElem?_toArray ..).trans h1,h2⟩
theorem CI {G:Wd} {vs:List Value} {l:List V} (h:VRs G l vs):vs.toArray[l.length]? =none:=by
 rw [List.getElem?_toArray,List.getElem?_eq_none];rw [h.length];exact av _
theorem A3 {ax:Addr} {l:List V}:gJ T none (fun Y h=>∃vs n,G Y h ax (ey "list" vs n)/\VRs (G Y h) l vs):=fun x t le U=>gU x fun vs n g r=>⟨vs,n,le _ _ g,r.mono le⟩
theorem td {I ax:Addr} {l:List V} {src:be->Heap->Prop} (lI:T.lo<=I) (nc:∀a,c≠some (a, .hid)) (so:gJ T c src) (hs:∀{Y h},src Y h->∃vs n,h.get? ax=some (ey "list" vs n)/\VRs (G Y h) l vs):It T tg I (· =I) l c (Sx [I] c (fun i h=>h.IsListIter I ax i) src):=by
 refine It.one lI (.head _) nc (fun i h h' st hk=> ?_) (fun i h st b hb=> ?_) so (fun i h st=> ?_) (fun st q=>wpAny_pyIter_listiter st q) (fun hh hx U st sr k=> ?_) (fun hh U st sr k=> ?_)
 ·refine bu st fun o ho r=> ?_;exact ⟨o,hk I (.head _) o ho,r⟩
 ·rw [ao] at hb;subst hb;refine gw st fun o ho U hd=> ?_;exact ⟨o,ho,by rw [hd];rfl⟩
 ·refine gw st fun o ho hc hd=> ?_;exact ⟨o,_,_,ho,hc,by decide,hd⟩
 ·refine gU (hs sr) fun vs n h1 h2=>(bu (rm h2 hx) fun v v1 v2=> ?_);exact wpAny_pyNext_list_item st ⟨_,h1,rfl,_,rfl⟩ v1 (fun h' it' hs=>k v h' _ v2 it' (fun b o hb e=>hs.extBut b o hb e))
 ·exact gU (hs sr) fun vs n h1 h2=>(wpAny_pyNext_list_end hh st ⟨_,h1,rfl,_,rfl⟩ (CI h2) (fun h' he=>k h' _ he))
theorem yp {v:Value} {d:V} {l:List V} (e:jf d=some l) (st:St T Y s.heap) (hv:VR (G Y s.heap) d v) (q:f none Y) (k:xu T tg l Y s f K):wpAny (model T.prog T.w) A (pyIter v) K E s:=by
 refine vL (by rw [e];rfl) hv fun ds a vs n U g r e'=> ?_;subst e';exact wpAny_pyIter_list ⟨_,g.1,rfl,_,rfl⟩ (jM st k (fun lI=>td lI (fun U h=>by exact bZ h) A3 fun x=>gU x fun vs n g r=>⟨vs,n,g.1,r⟩) ⟨_,aF _ rfl,rfl,rfl⟩ (fun b hb hn=>absurd (ao.mp hb) hn) ⟨vs,n,d9 (bA _ _) _ _ g,r.mono (d9 (bA _ _))⟩ trivial q)
theorem AR {a:Addr} {l:List V}:gJ T (some (a, .list l)) (fun Y h=>St T Y h/\Y a=some (.list l)):=fun x t le sd=>⟨t.st,sd⟩
theorem Am {v:Value} {d:V} {p:Addr×List V} (e:fG d Y=some p) (st:St T Y s.heap) (hv:VR (G Y s.heap) d v) (q:f (some (p.1, .list p.2)) Y) (k:xu T tg p.2 Y s f K):wpAny (model T.prog T.w) A (pyIter v) K E s:=by
 obtain ⟨rfl,e2⟩:=gh e;rw [show v=_ from hv];refine gU (eZ st e2) fun vs n ho U=> ?_;exact wpAny_pyIter_list ⟨_,ho,rfl,_,rfl⟩ (jM st k (fun lI=>td lI (fun U h=>by (replace h:=bW h;cases h)) AR fun x=>let ⟨_,o,ho,vs,n,e,r⟩:=x.1.sto _ _ x.2;⟨vs,n,e▸ho,r⟩) ⟨_,aF _ rfl,rfl,rfl⟩ (fun b hb =>absurd (ao.mp hb)) ⟨st.grow (bA _ _),e2⟩ e2 q)
end
section
variable {T:cK} {TB:eT} {Kf:Frag} {A:Around} {E:Value->Shared->Prop} {K:Value->Shared->Prop} {s:Shared} {Y Y':be} {h h':Heap} {tg:TT} {items:List V} {f:Cd->be->Prop}
theorem It.walks {I:Addr} {fp:List Addr} {n:Nat} {P:Nat->Value->Prop} {S:Nat->Heap->Prop} {src:be->Heap->Prop} (W:∀A:Around,A.handled=none->Walks T.prog T.w A I fp [I] n P S) (hn:n=items.length) (lI:T.lo<=I) (hI:I∈fp) (fr:∀i h h',S i h->(∀b∈fp,∀o,h.get? b=some o->h'.get? b=some o)->S i h') (th:∀i h,S i h->∀b∈fp,∃o,h.get? b=some o/\eE o.data=true) (so:gJ T none src) (cls:∀i h,S i h->∃o n vs,h.get? I=some o/\o.cls= .type n/\(ownTypes.contains n=false/\(n≠ "tuple" /\n≠ "list" /\n≠ "range"))/\o.data= .fields vs) (self:∀{A:Around} {i:Nat} {s:Shared} {Q:Value->Shared->Prop} {E:Value->Shared->Prop},S i s.heap->Q (.ref I) s->wpAny (model T.prog T.w) A (pyIter (.ref I)) Q E s) (vr:∀{Y:be} {h:Heap} {i:Nat} {v:Value} {x:V},src Y h->items[i]? =some x->P i v->VR (G Y h) x v):It T tg I (· =I) items none (Sx fp none S src):=
 It.one lI hI (fun U h=>by exact bZ h) fr th so cls self
  (fun hh hx U st sr k=>(W _ hh).item _ _ _ _ (by rw [hn];exact (aM.mp hx).1) st (fun v h' tk p st' hk=>k v h' tk (vr sr hx p) st' fun b o hb=>hk b o fun q=>hb (ao.mp q)))
  (fun hh U st sr k=>(W _ hh).done _ _ _ (by rw [hn];exact st) fun h' tk hk=>k h' tk fun b o hb=>hk b o fun q=>hb (ao.mp q))
theorem i9:gJ T none (fun U U=>True):=fun U U U U=>trivial
theorem yX {I:Addr} {Y:be}:∀b∈[I],b≠I->Y b=none:=fun b hb hn=>absurd (ao.mp hb) hn
theorem qo {v:Value} {d:V} {l:List Nat} (e:fv d=some l) (st:St T Y s.heap) (hv:VR (G Y s.heap) d v) (q:f none Y) (k:xu T tg (l.map fun (c:Nat)=>V.int c) Y s f K):wpAny (model T.prog T.w) A (pyIter v) K E s:=by
 refine vY (f:=fun l'=>l'=l) (by rw [e];rfl) hv fun l' t U hb e'=> ?_;clear hv e;subst e';refine KBw.pyIter_bytes (jM st k (fun lI=>It.walks (fun A hA=>KBw.walks hA _ (bG l') t) (by (refine ak (aI ..) ?_;refine ak (ah ..) ?_;rw [ah])) lI (.head _) ?_ ?_ i9 ?_ (fun st q=>KBw.pyIter_self st q) ?_) ⟨_,aF _ rfl,rfl,rfl⟩ yX trivial trivial q)
 ·exact fun i h h' st hk=>by refine bu st fun o ho r=> ?_;exact ⟨o,hk _ (.head _) o ho,r⟩
 ·intro i h zp1 b hb;refine gw zp1 fun o ho hc hd=> ?_;rw [ao.mp hb];exact ⟨o,ho,by rw [hd];rfl⟩
 ·intro i h zp1;exact gw zp1 fun o ho hc hd=>⟨o,_,_,ho,hc,by decide,hd⟩
 ·intro Y h i v x _ hx zp1;obtain ⟨c,u,h1,rfl⟩:=zp1;rw [List.getElem?_map] at hx;refine bu (aL.mp hx) fun d h2 y41=> ?_;subst y41;rw [List.getElem?_toArray,List.getElem?_map,h2] at h1
  (replace h1:=bW h1;subst h1)
  have:=hb d (aq h2);exact ⟨u,by rw [UInt8.toNat_ofNat',Nat.mod_eq_of_lt this]⟩
theorem yt {v:Value} {d:V} {l:List V} (e:vW d=some l) (st:St T Y s.heap) (hv:VR (G Y s.heap) d v) (q:f none Y) (k:xu T tg l Y s f K):wpAny (model T.prog T.w) A (pyIter v) K E s:=by
 refine vT (f:=fun l'=>l'=l) (by rw [e];rfl) hv fun ds a vs n U g r e'=> ?_;subst e';have ht:s.heap.IsTuple a vs.toArray:=⟨_,g.1,rfl,_,rfl⟩;refine wpAny_pyIter_tuple ht (jM (src:=fun Y h=>VRs (G Y h) ds vs) st k (fun lI=>It.walks (fun A hA=>Walks.tuple hA _ a (Nat.ne_of_lt (Heap.lt_size g.1)) vs.toArray) (by (refine ak (aI ..) ?_;refine ak (r.length ..) ?_;rfl)) lI (.head _) ?_ ?_ (fun x U le U=>x.mono le) ?_ (fun st q=>wpAny_pyIter_tupleiter st.1 q) ?_) ⟨⟨_,aF _ rfl,rfl,rfl⟩,ht.push _⟩ (fun b hb hn=> ?_) (r.mono (d9 (bA _ _))) trivial q)
 ·exact fun i h h' st hk=>⟨st.1.at fun o e=>hk _ (.head _) o e,st.2.at fun o e=>hk a (.tail _ (.head _)) o e⟩
 ·intro i h z2 b hb;obtain ⟨⟨o,ho,hc,hd⟩,⟨o2,ho2,hc2,m,hd2⟩⟩:=z2;rcases au.mp hb with rfl | hb
  ·exact ⟨o,ho,by rw [hd];rfl⟩
  ·rw [ao.mp hb];exact ⟨o2,ho2,by rw [hd2];rfl⟩
 ·intro i h zp1;obtain ⟨⟨o,ho,hc,hd⟩,U⟩:=zp1;exact ⟨o,_,_,ho,hc,by decide,hd⟩
 ·intro Y h i v x sr hx p;refine bu (rm sr hx) fun w w1 w2=> ?_;rw [p] at w1;(replace w1:=bW w1;subst w1);exact w2
 ·rcases au.mp hb with q | hb
  ·exact absurd q hn
  ·rw [ao.mp hb];exact g.2.1
theorem ww {a b:Int} (h: -(2 ^ 24)<=a/\a<=2 ^ 24/\-(2 ^ 24)<=b/\b<=2 ^ 24):Builtin.Range.small a b 1=true:=by
 obtain ⟨h1,h2,h3,h4⟩:=h;delta Builtin.Range.small Builtin.Range.rangeFitsLong;rw [(rangeSize_nat a b)];simp only [Bool.and_eq_true,Bool.or_eq_true,decide_eq_true_eq];refine ⟨⟨⟨⟨⟨?_, ?_⟩,⟨?_, ?_⟩⟩,⟨?_, ?_⟩⟩,⟨?_, ?_⟩⟩, .inr ?_⟩<;>try lia
 rw [if_pos (by decide)];simp only [Bool.and_eq_true,decide_eq_true_eq];lia
theorem zk {v:Value} {a b:Int} (st:St T Y s.heap) (hv:VR (G Y s.heap) (.rng a b) v) (q:f none Y) (k:xu T tg (dl a b) Y s f K):wpAny (model T.prog T.w) A (pyIter v) K E s:=by
 refine cr fun hn=>(EG hv fun x t u y1=> ?_);refine gw y1 fun w y2 g hb=> ?_;subst y2;refine hn (wpAny_pyIter_range g.1 (ww hb) (jM st k (fun lI=>It.walks (fun A hA=>Walks.range hA _ a 1 (b - a).toNat) (by delta dl;rw [ah,List.length_range]) lI (.head _) ?_ ?_ i9 ?_ (fun st q=>wpAny_pyIter_rangeiter st q) ?_) ?_ yX trivial trivial q))
 ·exact fun i h h' st hk=>hk _ (.head _) _ st
 ·intro i h st b hb;rw [ao.mp hb];exact ⟨_,st,rfl⟩
 ·intro i h st;exact ⟨_,_,_,st,rfl,by decide,rfl⟩
 ·intro Y h i v x _ hx zp1;obtain ⟨t,rfl⟩:=zp1;unfold dl at hx;rw [List.getElem?_map] at hx;obtain ⟨d,h2,rfl⟩:=aL.mp hx;clear hx;obtain ⟨U,h2⟩:=aM.mp h2;rw [List.getElem_range] at h2;subst h2;rw [Int.mul_one];exact ⟨_,rfl⟩
 ·have:=aF s.heap (o:={cls:= .type "range_iterator",data:= .fields #[rawInt a,rawInt (Builtin.Range.rangeSize a b 1),rawInt 1]}) rfl
  simpa [(rangeSize_nat a b)] using this
theorem sL {l:List Nat} (hb:∀x∈l,x<1114112) {G:Wd} {i:Nat} {v:Value} {x:V} (hx:(l.map fun (c:Nat)=>V.str [c])[i]? =some x) (p:SignAt ⟨l.toArray⟩ i v):VR G x v:=by
 refine gU p fun c u h1 y1=> ?_;subst y1;rw [List.getElem?_map] at hx;refine bu (aL.mp hx) fun d h2 y11=> ?_;subst y11;have h1:l[i]? =some c:=(List.getElem?_toArray ..).symm.trans h1;rw [h2] at h1;(replace h1:=bW h1;subst h1);exact ⟨u,rfl,fun y hy=>by rw [ao.mp hy];exact hb _ (aq h2)⟩
theorem pL {v:Value} {d:V} {l:List Nat} (e:lM d=some l) (st:St T Y s.heap) (hv:VR (G Y s.heap) d v) (q:f none Y) (k:xu T tg (l.map fun (c:Nat)=>V.str [c]) Y s f K):wpAny (model T.prog T.w) A (pyIter v) K E s:=by
 refine vS (f:=fun l'=>l'=l) (by rw [e];rfl) hv fun l' t U hb e'=> ?_;clear hv e pL;subst e';have len:l'.toArray.size=(l'.map fun (c:Nat)=>V.str [c]).length:=by (refine ak (aI ..) ?_;rw [ah])
 cases ha:(⟨l'.toArray⟩:PySem.Str).cps.all (· <128) with
 | false=>
  refine wpAny_pyIter_wide ha (jM st k (fun lI=>It.walks (fun A hA=>Walks.strWide hA _ ⟨l'.toArray⟩ t) len lI (.head _) ?_ ?_ i9 ?_ (fun st q=>wpAny_pyIter_striter_wide st q) (fun U hx p=>sL hb hx p)) ⟨_,aF _ rfl,rfl,rfl⟩ yX trivial trivial q)
  ·exact fun i h h' st hk=>by obtain ⟨o,ho,r⟩:=st;exact ⟨o,hk _ (.head _) o ho,r⟩
  ·intro i h zp1 b hb;obtain ⟨o,ho,hc,hd⟩:=zp1;rw [ao.mp hb];exact ⟨o,ho,by rw [hd];rfl⟩
  ·intro i h zp1;obtain ⟨o,ho,hc,hd⟩:=zp1;exact ⟨o,_,_,ho,hc,by decide,hd⟩
 | true=>
  refine wpAny_pyIter_ascii ha (jM st k (fun lI=>It.walks (fun A hA=>Walks.strAscii hA _ ⟨l'.toArray⟩ t) len lI (.head _) ?_ ?_ i9 ?_ (fun st q=>wpAny_pyIter_striter_ascii st q) (fun U hx p=>sL hb hx p)) ⟨_,aF _ rfl,rfl,rfl⟩ yX trivial trivial q)
  ·exact fun i h h' st hk=>by obtain ⟨o,ho,r⟩:=st;exact ⟨o,hk _ (.head _) o ho,r⟩
  ·intro i h zp1 b hb;obtain ⟨o,ho,hc,hd⟩:=zp1;rw [ao.mp hb];exact ⟨o,ho,by rw [hd];rfl⟩
  ·intro i h zp1;obtain ⟨o,ho,hc,hd⟩:=zp1;exact ⟨o,_,_,ho,hc,by decide,hd⟩
theorem Ef {t:Nat->Tok} {G:Wd} {i:Nat} {v:Value} {x:V} (hx:sizeNames[i]? =some x) (p:∃k y,(fq t)[i]? =some (k,y)/\Value.isStrOf k v=true):VR G x v:=by
 obtain ⟨ky,y,h1,h2⟩:=p;obtain ⟨tk,rfl⟩:=Value.isStrOf_shape h2;clear h2
 match i,((aM.mp hx).1) with
 | 0,U=>(replace hx:=bW hx;subst hx);obtain ⟨rfl,rfl⟩:=Prod.mk.inj (bW h1);exact ⟨_,rfl,by decide⟩
 | 1,U=>(replace hx:=bW hx;subst hx);obtain ⟨rfl,rfl⟩:=Prod.mk.inj (bW h1);exact ⟨_,rfl,by decide⟩
 | 2,U=>(replace hx:=bW hx;subst hx);obtain ⟨rfl,rfl⟩:=Prod.mk.inj (bW h1);exact ⟨_,rfl,by decide⟩
 | 3,U=>(replace hx:=bW hx;subst hx);obtain ⟨rfl,rfl⟩:=Prod.mk.inj (bW h1);exact ⟨_,rfl,by decide⟩
theorem Dz:gJ T none (St T):=fun U t U U=>t.st
theorem Au (KO:cc T TB Kf) (st:St T Y s.heap) (q:f none Y) (k:xu T tg sizeNames Y s f K):wpAny (model T.prog T.w) A (pyIter (.ref 63)) K E s:=by
 refine oo (KO.sz) fun t ep hd=> ?_;have W:=fun A hA=>Walks.dictKeys (knd:=PySem.strKind T.prog T.w) (A:=A) hA s.heap.objs.size 63 (Nat.ne_of_lt ((hd _ st.top).lt_size)) (fq t) ep;refine wpAny_pyIter_dict (by decide) (hd _ st.top) (jM st k (fun lI=>It.one (P:=fun i h=>h.IsKeyIter s.heap.objs.size 63 i (fq t).length ep) (src:=St T) lI (.head _) (fun U h=>by exact bZ h) ?_ ?_ Dz ?_ (fun st q=>wpAny_pyIter_keyiter st q) (fun hh hx U p sr k=> ?_) (fun hh U p sr k=> ?_)) ⟨_,aF _ rfl,rfl,rfl⟩ yX (st.grow (bA _ _)) trivial q)
 ·exact fun i h h' st hk=>st.at fun o e=>hk _ (.head _) o e
 ·intro i h zp1 b hb;refine gw zp1 fun o ho hc hd=> ?_;rw [ao.mp hb];exact ⟨o,ho,by rw [hd];rfl⟩
 ·intro i h zp1;exact gw zp1 fun o ho hc hd=>⟨o,_,_,ho,hc,by decide,hd⟩
 ·exact (W _ hh).item _ _ _ _ (aM.mp hx).1 ⟨p,hd _ sr.top⟩ (fun v h' tk p st' hk=>k v h' tk (Ef hx p) st'.1 fun b o hb=>hk b o fun q=>hb (ao.mp q))
 ·exact (W _ hh).done _ _ _ ⟨p,hd _ sr.top⟩ fun h' tk hk=>k h' tk fun b o hb=>hk b o fun q=>hb (ao.mp q)
end
section
variable {T:cK} {A:Around} {E:Value->Shared->Prop} {K:Value->Shared->Prop} {s:Shared} {Y Y':be} {h h':Heap} {c:Cd} {tg:TT} {items:List V} {f:Cd->be->Prop}
noncomputable def Sm (fp:List Addr) (c:Cd) (P:Nat->Heap->Prop) (src:be->Heap->Prop) (i:Nat) (Y:be) (h:Heap):Prop:=P i h/\(∀b∈fp,Y b=none\/(Y b=some .hid/\c=some (b, .hid)))/\src Y h/\cb c Y
theorem Sm.fr {fp:List Addr} {P:Nat->Heap->Prop} {src:be->Heap->Prop} {i:Nat} (x:Sm fp c P src i Y h) {b:Addr} (hb:b∈fp):free (Y b):=(x.2.1 b hb).elim .inl fun q=> .inr q.1
theorem It.many {I:Addr} {fp:List Addr} {P:Nat->Heap->Prop} {src:be->Heap->Prop} (lo:∀a∈fp,T.lo<=a) (fr:∀i h h',P i h->(∀b∈fp,∀o,h.get? b=some o->h'.get? b=some o)->P i h') (th:∀i h,P i h->∀b∈fp,∃o,h.get? b=some o/\eE o.data=true/\(c≠some (b, .hid)->¬cN o/\∃vs,o.data= .fields vs)) (so:gJ T c src) (self:∀{A:Around} {i:Nat} {s:Shared} {Q:Value->Shared->Prop} {E:Value->Shared->Prop},P i s.heap->Q (.ref I) s->wpAny (model T.prog T.w) A (pyIter (.ref I)) Q E s) (item:∀{A:Around} {Y:be} {s:Shared} {K:Option Value->Shared->Prop} {E:Value->Shared->Prop} {i:Nat} {x:V},A.handled=none->items[i]? =some x->P i s.heap->src Y s.heap->(∀v IK,(∀{K2:Unit->Shared->Prop} {E2:Value->Shared->Prop},(∀h' tk,(∀b o,b∉fp->s.heap.get? b=some o->h'.get? b=some o)->P (i+1) h'->(∀G',jq (G Y s.heap) G'->(∀a o,s.heap.objs.size<=a->h'.get? a=some o->cN o->G' a o)->VR G' x v)->K2 () (put s h' tk))->wpAny (model T.prog T.w) A (letOwnedTupleGo tg.toE (.ref I) v) K2 E2 IK)->K (some v) IK)->wpAny (model T.prog T.w) A (pyNext (.ref I)) K E s) (done:∀{A:Around} {Y:be} {s:Shared} {K:Option Value->Shared->Prop} {E:Value->Shared->Prop},A.handled=none->P items.length s.heap->src Y s.heap->(∀h' tk,(∀b o,b∉fp->s.heap.get? b=some o->h'.get? b=some o)->K none (put s h' tk))->wpAny (model T.prog T.w) A (pyNext (.ref I)) K E s):It T tg I (· ∈fp) items c (Sm fp c P src):=by
 have hid:∀{i:Nat} {Y:be} {h:Heap},Sm fp c P src i Y h->AV (· ∈fp) Y h:=fun {i Y h} x a o l n e=>by
  refine gw (th _ _ x.1 a l) fun o' e' U q=> ?_;rw [e] at e';(replace e':=bW e';subst e');exact q fun r=>by have:=x.2.2.2;rw [r] at this;exact bS this n
 refine ⟨fun {L Y h Y' h' i} x t nl sd=> ?_,fun x q=>self x.1 q,fun {A Y s K E i y} hh st hx x k=>item hh hx x.1 x.2.2.1 fun v IK k1=>k v IK fun {K2 E2} k2=>k1 fun h' tk hk p vr=> ?_,fun {A Y s K E} hh st x k=>done hh x.1 x.2.2.1 fun h' tk hk=>k h' tk hk,hid,fun a q=>lo a q,fun x a q=>x.2.1 a q⟩
 ·refine ⟨fr _ _ _ x.1 fun b hb o e=> ?_,fun b hb=> ?_,so x.2.2.1 t (t.gleV nl) sd,sd⟩
  ·refine gw (th _ _ x.1 b hb) fun o' e' v U=> ?_;rw [e] at e';(replace e':=bW e';subst e');exact (t.foot nl e v (x.fr hb)).1
  ·refine gw (th _ _ x.1 b hb) fun o' e' v U=> ?_;rcases x.2.1 b hb with q | ⟨U,q⟩
   ·exact .inl (t.off e' q)
   ·exact .inr ⟨by rw [q] at sd;exact sd,q⟩
 ·refine fI (To.spot st hk (fun b q=>⟨lo b q,x.fr q,let ⟨o,e,_⟩:=th _ _ p b q;⟨o,e⟩⟩) (hid x)) fun t le=> ?_;exact k2 h' tk t le ⟨p,x.2.1,so x.2.2.1 t le x.2.2.2,x.2.2.2⟩ (vr _ le fun a o ha e v=>⟨e,st.free (bB ha),v⟩)
theorem yu (l:List V):∀r:List V,(i4 l r).length=min l.length r.length:=by
 induction l with
 | nil=>exact fun r=>(Nat.zero_min _).symm
 | cons a l ih=>
  intro r
  cases r with
  | nil=>rfl
  | cons b r=>exact (aB (· +1) (ih r)).trans (Nat.succ_min_succ ..).symm
theorem qg {l:List V}:∀{r:List V} {i:Nat} {x:V},(i4 l r)[i]? =some x->∃a b,l[i]? =some a/\r[i]? =some b/\x= .tup [a,b]:=by
 induction l with
 | nil=>exact fun h=>bZ h
 | cons a l ih=>
  intro r i x h
  cases r with
  | nil=>exact bZ h
  | cons b r=>
   cases i with
   | zero=>exact ⟨a,b,rfl,rfl,(bW h).symm⟩
   | succ i=>exact ih (i:=i) h
theorem mm (k:Nat) (l:List V):(gm k l).length=l.length:=by
 induction l generalizing k with
 | nil=>rfl
 | cons U l ih=>exact aB (· +1) (ih (k+1))
theorem me {l:List V}:∀{k i:Nat} {x:V},(gm k l)[i]? =some x->∃a,l[i]? =some a/\x= .tup [.int ((k+i:Nat):Int),a]:=by
 induction l with
 | nil=>exact fun h=>bZ h
 | cons a l ih=>
  intro k i x h
  cases i with
  | zero=>exact ⟨a,rfl,(bW h).symm⟩
  | succ i=>exact (ih (i:=i) h).imp fun b q=>⟨q.1,q.2.trans (by rw [Nat.add_assoc,Nat.add_comm 1 i])⟩
noncomputable abbrev LV (ax:Addr) (l:List V) (Y:be) (h:Heap):Prop:=∃vs n,G Y h ax (ey "list" vs n)/\VRs (G Y h) l vs
theorem pn {ax:Addr} {l:List V}:gJ T c (LV ax l):=fun x U le U=>gU x fun vs n g r=>⟨vs,n,le _ _ g,r.mono le⟩
noncomputable def ESt (e it ax:Addr) (i:Nat) (h:Heap):Prop:=(∃old,IsEnum h e it i old)/\h.IsListIter it ax i
theorem mS {o:Obj} {n:String} {vs:Array Value} (hc:o.cls= .type n) (hn:n≠ "tuple" /\n≠ "list" /\n≠ "range") (hd:o.data= .fields vs):eE o.data=true/\({P:Prop}->P->¬cN o/\∃vs,o.data= .fields vs):=
 ⟨by rw [hd];rfl,fun U=>⟨fun v=>by
  rcases v.1 with q | q | q<;>rw [hc] at q<;>injection q with q
  ·exact hn.1 q
  ·exact hn.2.1 q
  ·exact hn.2.2 q,vs,hd⟩⟩
theorem iO {I ax:Addr} {i:Nat} {P:Prop} (x:h.IsListIter I ax i):∃o,h.get? I=some o/\eE o.data=true/\(P->¬cN o/\∃vs,o.data= .fields vs):=
 gw x fun o e hc hd=>⟨o,e,(mS hc (by decide) hd).1,fun U=>(mS hc (by decide) hd).2 trivial⟩
theorem nT {I:Addr} {n:String} {vs:Array Value} {d:Option Addr} {sl:Array (Option Value)} {P:Prop} (x:h.get? I=some {cls:= .type n,dict:=d,data:= .fields vs,slots:=sl}) (hn:n≠ "tuple" /\n≠ "list" /\n≠ "range"):∃o,h.get? I=some o/\eE o.data=true/\(P->¬cN o/\∃vs,o.data= .fields vs):=
 ⟨_,x,(mS rfl hn rfl).1,fun U=>(mS rfl hn rfl).2 trivial⟩
theorem AX {ts:List TT} {p:Pos} (e it ax:Addr) (l:List V) (h1:e≠it) (h2:ax≠e) (h3:ax≠it) (lo:∀a∈[e,it],T.lo<=a):It T (.t ts p) e (· ∈[e,it]) (gm 0 l) none (Sm [e,it] none (ESt e it ax) (LV ax l)):=by
 refine It.many lo (fun i h h' st hk=>⟨dU (st.1) fun old x=>⟨old,hk e (.head _) _ x⟩,st.2.at fun o x=>hk it (.tail _ (.head _)) o x⟩) (fun i h st b hb=> ?_) pn (fun st q=>wpAny_pyIter_enum st.1.choose_spec q) (fun {A Y s K E i x} hh hx st sr k=> ?_) (fun {A Y s K E} hh st sr k=> ?_)
 ·rcases au.mp hb with rfl | hb
  ·obtain ⟨old,x⟩:=st.1;exact nT x (by decide)
  ·rw [ao.mp hb];exact iO st.2
 ·obtain ⟨⟨old,he⟩,hit⟩:=st;refine gU sr fun vs n y21 a2=>(fI y21 fun a1 U=> ?_);refine bu (me hx) fun d d1 y31=> ?_;subst y31;refine bu (rm a2 d1) fun v v1 v2=>(wpAny_pyNext_enum_item he hit ⟨_,a1,rfl,_,rfl⟩ v1 h1 (fun h' ho hit' hT hsz hk=> ?_));refine k _ _ (fun {K2 E2} k2=> ?_);refine wpAny_letOwnedTupleGo_enum ho (fun h'' he' hs'=> ?_);refine k2 h'' (s.toks+1) (fun b o hb y=> ?_) ⟨⟨v,he'⟩,hit'.at fun o y=>hs'.extBut _ _ (aS h1) y⟩ (fun G' le nw=> ?_)
  ·have b1:b≠e:=fun q=>hb (q▸ .head _);exact hs'.extBut b o b1 (hk b o b1 (fun q=>hb (q▸ .tail _ (.head _))) y)
  ·refine ⟨_,[.int i s.toks,v],0,rfl,nw _ _ (av _) (hs'.extBut _ _ (Nat.ne_of_gt (Heap.lt_size he)) hT) (cA _ (.inl rfl) _ _),⟨?_,v2.mono le,rfl⟩⟩;rw [Nat.zero_add];exact ⟨_,rfl⟩
 ·obtain ⟨⟨old,he⟩,hit⟩:=st;refine gU sr fun vs n y61 a2=>(fI y61 fun a1 U=> ?_);rw [mm] at he hit;exact wpAny_pyNext_enum_end hh he hit ⟨_,a1,rfl,_,rfl⟩ (CI a2) (fun h' hx=>k h' s.toks (fun b o hb y=>hx b o (fun q=>hb (q▸ .tail _ (.head _))) y))
theorem wC {ts:List TT} {p:Pos} {v:Value} {d:V} {l:List V} (e:jf d=some l) (st:St T Y s.heap) (hv:VR (G Y s.heap) d v) (q:f none Y) (k:xu T (.t ts p) (gm 0 l) Y s f K):wpAny (model T.prog T.w) A (PySem.call (.type "enumerate") [v]) (fun z IK=>wpAny (model T.prog T.w) A (pyIter z) K E IK) E s:=by
 refine vL (f:=fun l'=>l'=l) (by rw [e];rfl) hv fun ds a vs n U g r e'=> ?_;subst e';have hlt:=Heap.lt_size g.1;refine call_enumerate_list ⟨_,g.1,rfl,_,rfl⟩ (fun h' he hit hsz hk=> ?_);refine wpAny_pyIter_enum he ?_;have t:=To.grow (L:=Nl) st hk
 have fresh:∀a∈[s.heap.objs.size+1,s.heap.objs.size],s.heap.objs.size<=a:=fun a ha=>by
  rcases au.mp ha with rfl | ha
  ·exact Nat.le_succ _
  ·rw [ao.mp ha];exact av _
 exact k _ _ none _ Y h' s.toks t (AX (s.heap.objs.size+1) s.heap.objs.size a ds (Nat.succ_ne_self _) (Nat.ne_of_lt (Nat.lt_succ_of_lt hlt)) (Nat.ne_of_lt hlt) fun a ha=>aj (T.size st.top) (fresh a ha))
  ⟨⟨⟨_,he⟩,hit⟩,fun b hb=> .inl (st.free (bB (fresh b hb))),⟨vs,n,t.gle _ _ g,r.mono t.gle⟩,trivial⟩ (fun a ha=>bB (fresh a ha)) trivial q
end
section
variable {T:cK} {A:Around} {E:Value->Shared->Prop} {K:Value->Shared->Prop} {s:Shared} {Y Y':be} {h h':Heap} {c:Cd} {tg:TT} {items:List V} {f:Cd->be->Prop}
noncomputable def ZSt (z TO i1 i2 l1 l2:Addr) (TI:Addr) (i:Nat) (h:Heap):Prop:=IsZip h z TI TO .none/\(∃a b,IsPair h TO a b)/\h.IsListIter i1 l1 i/\h.IsListIter i2 l2 i
noncomputable def A5 (TI i1 i2 l1 l2:Addr) (l r:List V) (Y:be) (h:Heap):Prop:=LV l1 l Y h/\LV l2 r Y h/\G Y h TI (ey "tuple" [.ref i1, .ref i2] 0)
theorem v5 {TI i1 i2 l1 l2:Addr} {l r:List V}:gJ T c (A5 TI i1 i2 l1 l2 l r):=fun x t le sd=>⟨pn x.1 t le sd,pn x.2.1 t le sd,le _ _ x.2.2⟩
theorem Ck {G:Wd} {vs ws:List Value} {l r:List V} (h1:VRs G l vs) (h2:VRs G r ws):vs.toArray[(i4 l r).length]? =none\/ws.toArray[(i4 l r).length]? =none:=by
 rw [yu];have e1:=h1.length;have e2:=h2.length;rcases Nat.le_total l.length r.length with h | h
 ·left;rw [List.getElem?_toArray,List.getElem?_eq_none];lia
 ·right;rw [List.getElem?_toArray,List.getElem?_eq_none];lia
theorem in4 {α:Type} {P:α->Prop} {a b c d:α} (h1:P a) (h2:P b) (h3:P c) (h4:P d):∀x∈[a,b,c,d],P x:=fun x hx=>by
 rcases au.mp hx with rfl | hx
 ·exact h1
 rcases au.mp hx with rfl | hx
 ·exact h2
 rcases au.mp hx with rfl | hx
 ·exact h3
 ·rw [ao.mp hx];exact h4
theorem Bp {a b c d x:Addr} (h:x∉[a,b,c,d]):x≠a/\x≠b/\x≠c/\x≠d:=
 ⟨fun q=>h (q▸ .head _),fun q=>h (q▸ .tail _ (.head _)),fun q=>h (q▸ .tail _ (.tail _ (.head _))),fun q=>h (q▸ .tail _ (.tail _ (.tail _ (.head _))))⟩
theorem C7 {ts:List TT} {p:Pos} (z TI TO i1 i2 l1 l2:Addr) (l r:List V) (D:ZipApart z TI TO i1 i2 l1 l2) (lo:∀a∈[z,TO,i1,i2],T.lo<=a):It T (.t ts p) z (· ∈[z,TO,i1,i2]) (i4 l r) (some (TO, .hid)) (Sm [z,TO,i1,i2] (some (TO, .hid)) (ZSt z TO i1 i2 l1 l2 TI) (A5 TI i1 i2 l1 l2 l r)):=by
 refine It.many lo (fun i h h' st hk=> ?_) (fun i h st=> ?_) v5 (fun st q=>wpAny_pyIter_zip st.1 q) (fun {A Y s K E i x} hh hx st sr k=> ?_) (fun {A Y s K E} hh st sr k=> ?_)
 ·refine Ad st fun a1 y1 a4 a5=>(oo y1 fun x y a3=> ?_);exact ⟨hk z (.head _) _ a1,⟨x,y,hk TO (.tail _ (.head _)) _ a3⟩,a4.at fun o x=>hk i1 (.tail _ (.tail _ (.head _))) o x,a5.at fun o x=>hk i2 (.tail _ (.tail _ (.tail _ (.head _)))) o x⟩
 ·refine Ad st fun a1 y11 a4 a5=>(oo y11 fun x y a3=> ?_);exact in4 (nT a1 (by decide)) ⟨_,a3,rfl,fun q=>absurd rfl q⟩ (iO a4) (iO a5)
 ·refine cr fun hn=>(Ad st fun hz y21 h1 h2=> ?_);refine oo y21 fun x0 y0 hTO=> ?_;obtain ⟨⟨vs,n,⟨a1,U⟩,a2⟩,⟨ws,m,⟨b1,U⟩,b2⟩,⟨hTI,U⟩⟩:=sr;refine eJ (qg hx) fun d e d1 e1 y41=> ?_;subst y41;refine bu (rm a2 d1) fun v v1 v2=>(bu (rm b2 e1) fun w w1 w2=> ?_);refine hn (wpAny_pyNext_zip_item D hz hTI hTO h1 h2 ⟨_,a1,rfl,_,rfl⟩ ⟨_,b1,rfl,_,rfl⟩ v1 w1 (fun h' hz' hTO' h1' h2' hT hsz hk=> ?_));refine k _ _ (fun {K2 E2} k2=> ?_);refine wpAny_letOwnedTupleGo_zip hz' (fun h'' hz'' hs'=> ?_);refine k2 h'' s.toks (fun b o hb y=> ?_) ⟨hz'',⟨v,w,hs'.extBut _ _ D.TOz hTO'⟩,h1'.at fun o y=>hs'.extBut _ _ D.i1z y,h2'.at fun o y=>hs'.extBut _ _ D.i2z y⟩ (fun G' le nw=> ?_)
  ·exact Ad (Bp hb) fun c1 c2 c3 c4=>(hs'.extBut b o c1 (hk b o c1 c2 c3 c4 y))
  ·exact ⟨_,[v,w],0,rfl,nw _ _ (av _) (hs'.extBut _ _ (Nat.ne_of_gt (Heap.lt_size hz)) hT) (cA _ (.inl rfl) _ _),v2.mono le,w2.mono le,rfl⟩
 ·refine cr fun hn=>(Ad st fun hz y81 h1 h2=> ?_);refine oo y81 fun x0 y0 hTO=> ?_;obtain ⟨⟨vs,n,⟨a1,U⟩,a2⟩,⟨ws,m,⟨b1,U⟩,b2⟩,⟨hTI,U⟩⟩:=sr;refine hn ?_
  exact wpAny_pyNext_zip_end hh D hz hTI hTO h1 h2 ⟨_,a1,rfl,_,rfl⟩ ⟨_,b1,rfl,_,rfl⟩ (Ck a2 b2)
   (fun h' hk=>k h' s.toks (fun b o hb y=>Ad (Bp hb) fun c1 c2 c3 c4=>hk b o c1 c2 c3 c4 y))
theorem oM (st:St T Y h) (hk:dS h h') {TI TO i1 i2 l1 l2:Addr} {l r:List V} {o:Obj} (hTO:h'.get? TO=some o) (hn:h.objs.size<=TO) (hTI:h'.get? TI=some (ey "tuple" [.ref i1, .ref i2] 0)) (hTI':h.objs.size<=TI) (ne:TI≠TO) (s1:LV l1 l Y h) (s2:LV l2 r Y h):To T Nl Y h (Y.set TO .hid) h'/\A5 TI i1 i2 l1 l2 l r (Y.set TO .hid) h'/\∀fp:List Addr,(∀b∈fp,h.objs.size<=b)->∀b∈fp,Y.set TO .hid b=none\/(Y.set TO .hid b=some .hid/\(some (TO,O.hid):Cd)=some (b, .hid)):=by
 have t:=To.alloc (L:=Nl) (d:= .hid) st hk hn hTO trivial;refine ⟨t,⟨pn (c:=none) s1 t t.gle trivial,pn (c:=none) s2 t t.gle trivial,hTI,(be.set_ne _ _ ne).trans (st.free (bB hTI')),cA _ (.inl rfl) _ _⟩,fun fp hf b hb=> ?_⟩
 by_cases q:b=TO
 ·subst q;exact .inr ⟨be.set_same _ _ _,rfl⟩
 ·exact .inl ((be.set_ne _ _ q).trans (st.free (bB (hf b hb))))
theorem xU {ts:List TT} {p:Pos} {v w:Value} {d e:V} {l r:List V} (hd:jf d=some l) (he:jf e=some r) (st:St T Y s.heap) (hv:VR (G Y s.heap) d v) (hw:VR (G Y s.heap) e w) (q:∀Z,Y Z=none->f (some (Z, .hid)) (Y.set Z .hid)) (k:xu T (.t ts p) (i4 l r) Y s f K):wpAny (model T.prog T.w) A (PySem.call (.type "zip") [v,w]) (fun z IK=>wpAny (model T.prog T.w) A (pyIter z) K E IK) E s:=by
 refine vL (f:=fun l'=>l'=l) (by rw [hd];rfl) hv fun ds a vs n U g rr e'=> ?_;subst e';refine vL (f:=fun l'=>l'=r) (by rw [he];rfl) hw fun es b ws m U g' rr' e'=> ?_;subst e';refine call_zip_2 ⟨_,g.1,rfl,_,rfl⟩ ⟨_,g'.1,rfl,_,rfl⟩ (fun h' hz hTI hTO h1 h2 hsz hk=> ?_);refine wpAny_pyIter_zip hz ?_;have D:=zipApart_new (Heap.lt_size g.1) (Heap.lt_size g'.1);refine lL (oM st hk hTO (aP _ _) hTI (aP _ _) D.TITO ⟨vs,n,g,rr⟩ ⟨ws,m,g',rr'⟩) fun t sr ff=> ?_;have fresh:=in4 (P:=fun a=>s.heap.objs.size<=a) (aP _ 4) (aP _ 3) (av _) (aP _ 1)
 exact k _ _ (some (s.heap.objs.size+3, .hid)) _ _ h' s.toks t (C7 _ _ _ _ _ a b ds es D fun a ha=>aj (T.size st.top) (fresh a ha))
  ⟨⟨hz,⟨_,_,hTO⟩,h1,h2⟩,ff _ fresh,sr,be.set_same _ _ _⟩ (fun a ha=>bB (fresh a ha)) (be.set_same _ _ _) (q _ (st.free (bB (aP _ _))))
end
noncomputable abbrev ZF (h:Heap) (z:Addr) (f0 f1:Value) (TI TO:Addr):Prop:=h.get? z=some {cls:= .type "zip",dict:=none,data:= .fields #[f0,f1, .bool false, .ref TI, .ref TO],slots:= #[]}
noncomputable def Gu (f0:Value):Prop:=f0= .none\/∃T:Nat,f0=rawInt T
section
variable {prog:Program} {w:World} {s:Shared} {A:Around} {E:Value->Shared->Prop}
theorem v3 {z TI TO:Addr} {f0 f1:Value} {Q:Bool->Shared->Prop} (hz:ZF s.heap z f0 f1 TI TO) (hf:Gu f0) (h1:Q true s) (h2:∀HZ,ZF HZ z f0 (.bool true) TI TO->Heap.SameBut z s.heap HZ->Q false {s with heap:=HZ}):wpAny (model prog w) A (SmallTypes.ownedTupleIsFree (.ref z)) Q E s:=by
 rcases hf with rfl | ⟨T,rfl⟩
 ·exact ae (wpAny_field hz rfl (x:= .none) rfl (am h1))
 ·refine ae (wpAny_field hz rfl (x:=rawInt T) rfl ?_)
  have la:∀{Q:Option Obj->Shared->Prop},Q (s.heap.get? (Int.toNat T)) s->wpAny (model prog w) A (loadIfAlive (Int.toNat T)) Q E s:=fun h Γ p hΓ=>by
   delta loadIfAlive;rw [Sem.wp_loadIfAlive];exact h
  refine ae (la ?_)
  cases s.heap.get? (Int.toNat T) with
  | none=>exact am h1
  | some o=>
   refine ae (wpAny_field hz rfl (x:=f1) rfl ?_)
   by_cases hb:f1= .bool true
   ·subst hb;exact ae (am (am (h2 s.heap hz ⟨rfl,fun U U=>rfl⟩)))
   ·exact qQ (by simpa using hb) (ae (wpAny_setField_rec hz (by simp) (fun h' hz' hs'=>am (h2 h' hz' hs'))))
theorem Bw {z TI TO i1 i2 l1 l2:Addr} {k1 k2:Nat} {xs ys:Array Value} {x y a b f0 f1:Value} {Q:Value->Shared->Prop} (D:ZipApart z TI TO i1 i2 l1 l2) (hz:ZF s.heap z f0 f1 TI TO) (hf:Gu f0) (hTI:IsPair s.heap TI (.ref i1) (.ref i2)) (hTO:IsPair s.heap TO a b) (h1:s.heap.IsListIter i1 l1 k1) (h2:s.heap.IsListIter i2 l2 k2) (hl1:s.heap.IsList l1 xs) (hl2:s.heap.IsList l2 ys) (hx:xs[k1]? =some x) (hy:ys[k2]? =some y) (hQ:∀h' f0' f1',ZF h' z f0' f1' TI TO->Gu f0'->(∃a b,IsPair h' TO a b)->h'.IsListIter i1 l1 (k1+1)->h'.IsListIter i2 l2 (k2+1)->IsPair h' s.heap.objs.size x y->h'.objs.size=s.heap.objs.size+1->(∀c o,c≠z->c≠TO->c≠i1->c≠i2->s.heap.get? c=some o->h'.get? c=some o)->Q (.ref s.heap.objs.size) {s with heap:=h'}):
  wpAny (model prog w) A (SmallTypes.nextOf (.ref z)) Q E s:=by
 have hT:s.TypeIs (.ref z) "zip" :=⟨_,hz,rfl⟩;refine ae (wpAny_callSpecial?_slot (name:=PySem.Str.ofString "__next__") hT F.slot_zip_next (wpAny_call_entry F.slot_zip_next hT F.entry_zip_next ?_ (F.args_zip_next_1 _)));have zlt:=Heap.lt_size hz;show wpAny _ _ (field (.ref z) 2>>=_) _ _ _;refine ae (wpAny_field hz rfl (x:= .bool false) rfl ?_);refine ae (wpAny_field hz rfl rfl ?_);refine ae (wpAny_seqItems hTI rfl ?_);refine ae (v3 hz hf ?_ (fun HZ HV HL=> ?_))
 ·dsimp only;refine ae (wpAny_rule (ae (wpAny_field hz rfl rfl ?_)));refine ae (wpAny_setField_rec hz (by simp) fun HZ HV HL=> ?_);replace HV:ZF HZ z .ellipsis f1 TI TO:=HV;refine ae (ae (ae (wpAny_onRaise ?_)));refine ae (wpAny_nextOf_list_item (h1.extBut HL.extBut D.i1z) (hl1.extBut HL.extBut D.l1z) hx fun H0 H7 HM=>am ?_);have Iq:IsPair H0 TO a b:=HM.extBut _ _ D.TOi1 (HL.extBut _ _ D.TOz hTO);refine ae (wpAny_seqItems Iq rfl (ae (wpAny_updateSeq_pair Iq fun H1 Ir HN=> ?_)));replace Ir:IsPair H1 TO x b:=Ir;refine ae (wpAny_letGo (am (ae (ae (wpAny_onRaise ?_)))))
  refine ae (wpAny_nextOf_list_item (((h2.extBut HL.extBut D.i2z).extBut HM.extBut D.i12.symm).extBut HN.extBut D.TOi2.symm)
   (((hl2.extBut HL.extBut D.l2z).extBut HM.extBut D.l2i1).extBut HN.extBut D.l2TO) hy fun H2 H8 HO=>am ?_)
  have Iu:IsPair H2 TO x b:=HO.extBut _ _ D.TOi2 Ir;refine ae (wpAny_seqItems Iu rfl (ae (wpAny_updateSeq_pair Iu fun H3 Iv HP=> ?_)));replace Iv:IsPair H3 TO x y:=Iv;refine ae (wpAny_letGo (am (am ?_)));refine ae (wpAny_seqItems Iv rfl (ae (wpAny_newTuple ?_)));have sz:H3.objs.size=s.heap.objs.size:=by (refine ak (HP.1 ..) ?_;refine ak (HO.1 ..) ?_;refine ak (HN.1 ..) ?_;refine ak (HM.1 ..) ?_;refine ak (HL.1 ..) ?_;rfl)
  have kp:∀c o,c≠z->c≠TO->c≠i1->c≠i2->s.heap.get? c=some o->H3.get? c=some o:=fun c o c1 c2 c3 c4 e=>
   HP.extBut _ _ c2 (HO.extBut _ _ c4 (HN.extBut _ _ c2 (HM.extBut _ _ c3 (HL.extBut _ _ c1 e))))
  rw [sz];have Je:ZF (H3.push {cls:= .type "tuple",data:= .seq #[x,y]}) z .ellipsis f1 TI TO:=aW _ (HP.extBut _ _ D.TOz.symm (HO.extBut _ _ D.i2z.symm (HN.extBut _ _ D.TOz.symm (HM.extBut _ _ D.i1z.symm HV))));refine ae (ae (wpAny_setField_rec Je (by simp) fun H5 Jf HR=> ?_));replace Jf:ZF H5 z (rawInt s.heap.objs.size) f1 TI TO:=Jf;refine wpAny_setField_rec Jf (by simp) fun H6 Jg HS=> ?_;replace Jg:ZF H6 z (rawInt s.heap.objs.size) (.bool false) TI TO:=Jg;have up:∀c o,c≠z->H3.get? c=some o->H6.get? c=some o:=fun c o c1 e=>HS.extBut _ _ c1 (HR.extBut _ _ c1 (aW _ e));have I6:IsPair H6 H3.objs.size x y:=HS.extBut _ _ (by rw [sz];exact Nat.ne_of_gt zlt) (HR.extBut _ _ (by refine bi sz ?_;exact Nat.ne_of_gt zlt) (aF _ rfl));rw [sz] at I6;exact am ⟨_,rfl,am (hQ H6 _ _ Jg (.inr ⟨_,rfl⟩) ⟨_,_,up _ _ D.TOz Iv⟩ ((((H7.extBut HN.extBut D.TOi1.symm).extBut HO.extBut D.i12).extBut HP.extBut D.TOi1.symm).at fun o e=>up _ o D.i1z e) ((H8.extBut HP.extBut D.TOi2.symm).at fun o e=>up _ o D.i2z e) I6 (by (refine ak (HS.1 ..) ?_;refine ak (HR.1 ..) ?_;refine ak (Heap.size_push ..) ?_;rw [sz])) fun c o c1 c2 c3 c4 e=>up c o c1 (kp c o c1 c2 c3 c4 e))⟩
 ·refine nV Bool.false_ne_true (ae (ae (ae (aH ?_))));refine ae (wpAny_nextOf_list_item (h1.extBut HL.extBut D.i1z) (hl1.extBut HL.extBut D.l1z) hx fun H0 H7 HM=>am (am ?_));refine gv fun Q1z E1z hQ1z hE1z=>(ae (ae (aH ?_)));refine ae (wpAny_nextOf_list_item ((h2.extBut HL.extBut D.i2z).extBut HM.extBut D.i12.symm) ((hl2.extBut HL.extBut D.l2z).extBut HM.extBut D.l2i1) hy fun H2 H8 HO=>am (am (am ?_)));refine hQ1z _ _ ?_;show wpAny _ _ (newTuple [x,y]>>=_) _ _ _;refine ae (wpAny_newTuple ?_);have sz:H2.objs.size=s.heap.objs.size:=by (refine ak (HO.1 ..) ?_;refine ak (HM.1 ..) ?_;refine ak (HL.1 ..) ?_;rfl)
  have kp:∀c o,c≠z->c≠i1->c≠i2->s.heap.get? c=some o->H2.get? c=some o:=fun c o c1 c3 c4 e=>HO.extBut _ _ c4 (HM.extBut _ _ c3 (HL.extBut _ _ c1 e));have I3:IsPair (H2.push {cls:= .type "tuple",data:= .seq #[x,y]}) H2.objs.size x y:=aF _ rfl;rw [sz] at I3;rw [sz]
  exact am ⟨_,rfl,am (hQ _ _ _ (aW _ (HO.extBut _ _ D.i2z.symm (HM.extBut _ _ D.i1z.symm HV))) hf ⟨_,_,aW _ (kp _ _ D.TOz D.TOi1 D.TOi2 hTO)⟩ ((H7.extBut HO.extBut D.i12).at fun o e=>aW _ e) (H8.at fun o e=>aW _ e) I3 (by (refine ak (Heap.size_push ..) ?_;rw [sz]))
   fun c o c1 c2 c3 c4 e=>aW _ (kp c o c1 c3 c4 e))⟩
theorem ye {z TI TO i1 i2 l1 l2:Addr} {k1 k2:Nat} {xs ys:Array Value} {a b f0 f1:Value} {Q:Value->Shared->Prop} (hh:A.handled=none) (D:ZipApart z TI TO i1 i2 l1 l2) (hz:ZF s.heap z f0 f1 TI TO) (hf:Gu f0) (hTI:IsPair s.heap TI (.ref i1) (.ref i2)) (hTO:IsPair s.heap TO a b) (h1:s.heap.IsListIter i1 l1 k1) (h2:s.heap.IsListIter i2 l2 k2) (hl1:s.heap.IsList l1 xs) (hl2:s.heap.IsList l2 ys) (hend:xs[k1]? =none\/ys[k2]? =none) (hE:∀h' e,(∀c o,c≠z->c≠TO->c≠i1->c≠i2->s.heap.get? c=some o->h'.get? c=some o)->(∃o,h'.get? e=some o/\o.cls= .type "StopIteration")->E (.ref e) {s with heap:=h'}):
  wpAny (model prog w) A (SmallTypes.nextOf (.ref z)) Q E s:=by
 have hT:s.TypeIs (.ref z) "zip" :=⟨_,hz,rfl⟩;refine ae (wpAny_callSpecial?_slot (name:=PySem.Str.ofString "__next__") hT F.slot_zip_next (wpAny_call_entry F.slot_zip_next hT F.entry_zip_next ?_ (F.args_zip_next_1 _)));show wpAny _ _ (field (.ref z) 2>>=_) _ _ _;refine ae (wpAny_field hz rfl (x:= .bool false) rfl ?_);refine ae (wpAny_field hz rfl rfl ?_);refine ae (wpAny_seqItems hTI rfl ?_);refine ae (v3 hz hf ?_ (fun HZ HV HL=> ?_))
 ·dsimp only;refine ae (wpAny_rule (ae (wpAny_field hz rfl rfl ?_)));refine ae (wpAny_setField_rec hz (by simp) fun HZ HV HL=> ?_);clear hz hf hTI hT ye;replace HV:ZF HZ z .ellipsis f1 TI TO:=HV;refine ae (ae (ae (wpAny_onRaise ?_)))
  cases hx:xs[k1]? with
  | none=>
   refine ae (wpAny_nextOf_list_end hh (h1.extBut HL.extBut D.i1z) (hl1.extBut HL.extBut D.l1z) hx fun H0 e HM ⟨oe,hoe,hce⟩=> ?_);have HW:ZF H0 z .ellipsis f1 TI TO:=HM _ _ D.i1z.symm HV;have hez:e≠z:=fun q=>by subst q;rw [HW] at hoe;injection hoe with q;subst q;simp at hce
   exact wpAny_setField_rec HW (by simp) fun H1 U HN=>hE H1 e (fun c o c1 U c3 U q=>HN.extBut _ _ c1 (HM _ _ c3 (HL.extBut _ _ c1 q))) ⟨oe,HN.extBut _ _ hez hoe,hce⟩
  | some x=>
   refine ae (wpAny_nextOf_list_item (h1.extBut HL.extBut D.i1z) (hl1.extBut HL.extBut D.l1z) hx fun H0 H7 HM=>am ?_);have Iq:IsPair H0 TO a b:=HM.extBut _ _ D.TOi1 (HL.extBut _ _ D.TOz hTO);refine ae (wpAny_seqItems Iq rfl (ae (wpAny_updateSeq_pair Iq fun H1 Ir HN=> ?_)));refine ae (wpAny_letGo (am (ae (ae (wpAny_onRaise ?_)))))
   refine ae (wpAny_nextOf_list_end hh (((h2.extBut HL.extBut D.i2z).extBut HM.extBut D.i12.symm).extBut HN.extBut D.TOi2.symm)
    (((hl2.extBut HL.extBut D.l2z).extBut HM.extBut D.l2i1).extBut HN.extBut D.l2TO) (hend.elim (fun q=>by rw [hx] at q;exact gq q) id) fun H2 e HO ⟨oe,hoe,hce⟩=> ?_)
   have HX:ZF H2 z .ellipsis f1 TI TO:=HO _ _ D.i2z.symm (HN.extBut _ _ D.TOz.symm (HM.extBut _ _ D.i1z.symm HV));have hez:e≠z:=fun q=>by subst q;rw [HX] at hoe;injection hoe with q;subst q;simp at hce
   exact wpAny_setField_rec HX (by simp) fun H3 U HP=>hE H3 e (fun c o c1 c2 c3 c4 q=>HP.extBut _ _ c1 (HO _ _ c4 (HN.extBut _ _ c2 (HM.extBut _ _ c3 (HL.extBut _ _ c1 q))))) ⟨oe,HP.extBut _ _ hez hoe,hce⟩
 ·dsimp only;refine ae (ae (ae (aH ?_)))
  cases hx:xs[k1]? with
  | none=>exact ae (wpAny_nextOf_list_end hh (h1.extBut HL.extBut D.i1z) (hl1.extBut HL.extBut D.l1z) hx fun H0 e HM he=>hE H0 e (fun c o c1 U c3 U q=>HM _ _ c3 (HL.extBut _ _ c1 q)) he)
  | some x=>
   refine ae (wpAny_nextOf_list_item (h1.extBut HL.extBut D.i1z) (hl1.extBut HL.extBut D.l1z) hx fun H0 H7 HM=>am (am ?_));refine ae (ae (aH ?_))
   exact ae (wpAny_nextOf_list_end hh ((h2.extBut HL.extBut D.i2z).extBut HM.extBut D.i12.symm) ((hl2.extBut HL.extBut D.l2z).extBut HM.extBut D.l2i1) (hend.elim (fun q=>by rw [hx] at q;exact gq q) id) fun H2 e HO he=>
    hE H2 e (fun c o c1 U c3 c4 q=>HO _ _ c4 (HM.extBut _ _ c3 (HL.extBut _ _ c1 q))) he)
end
end Mine
end
section
namespace Mine
open PySem PySem.W PyProof.Rows PySem.Calls PySem.SeqAt Builtin
open AutoSeq1 (wpAny_loadPart')
noncomputable abbrev gW (z:Addr):Obj:={cls:= .type "enumerate",data:= .fields #[.none, .bool false, .ref z,rawInt 0, .none, .none]}
theorem lB (z TI TO:Addr):Meets (Builtin.«enumerate.__new__» ⟨[.type "enumerate", .ref z],[]⟩) (fun U R s=>IsZip s.heap z TI TO .none/\R (.ok (.ret (.ref s.heap.objs.size))) {s with heap:=s.heap.push (gW z)}):=
 .of_wp fun prog w A R s h=>by
  obtain ⟨hp,g,d,tk,os⟩:=s;obtain ⟨hz,h⟩:=h;have hsub:=sub_enumerate
  wp_walk using wpAny_loadPart' hz
  refine wpAny_stack_any fun st=>wpb fun c=> ?_
  cases c
  all_goals
   wp_walk using wpAny_loadPart' hz,wpAny_pyIter_zip (hz)
   exact ⟨_,rfl,h⟩
section
variable {prog:Program} {w:World} {s:Shared} {A:Around} {E:Value->Shared->Prop}
theorem lW {z TI TO:Addr} {Q:Value->Shared->Prop} (hz:IsZip s.heap z TI TO .none) (h:Q (.ref s.heap.objs.size) {s with heap:=s.heap.push (gW z)}):
  wpAny (model prog w) A (PySem.call (.type "enumerate") [.ref z]) Q E s:=
 callType_new F.called_enumerate (by decide) (F.typeCall_enumerate_1 _) (F.newCall_enumerate_1 _) (fun obj=>F.args_object_init_2 obj _) F.entry_enumerate_new (lB z TI TO) ⟨hz,⟨_,aF _ rfl,rfl⟩,h⟩
theorem mA {e it:Addr} {i:Nat} {old:Value} {Q:Option Value->Shared->Prop} (he:IsEnum s.heap e it i old) (h:wpAny (model prog w) A.in1 (SmallTypes.nextOf (.ref it)) (fun x IK=>∃HZ,IK={s with heap:=HZ}/\IsEnum HZ e it i old/\
   ∀h',IsEnumOut h' e it ((i:Int)+1) x HZ.objs.size->h'.get? HZ.objs.size=some {cls:= .type "tuple",data:= .seq #[.int i s.toks,x]}->
    (∀b o,b≠e->HZ.get? b=some o->h'.get? b=some o)->Q (some (.ref HZ.objs.size)) {s with heap:=h',toks:=s.toks+1})
   (fun x IK=>(∃o,IK.heap.get? (match x with | .ref a=>a | _=>0)=some o/\o.cls= .type "StopIteration")/\(∃a,x= .ref a)/\Q none IK) s):
  wpAny (model prog w) A (pyNext (.ref e)) Q E s:=by
 have hT:s.TypeIs (.ref e) "enumerate" :=⟨_,he,rfl⟩;refine ae (wpAny_attempt (wpAny_callSpecial?_slot (name:=PySem.Str.ofString "__next__") hT F.slot_enumerate_next (wpAny_call_entry F.slot_enumerate_next hT F.entry_enumerate_next ?_ (F.args_enumerate_next_1 _))));show wpAny _ _ (field (.ref e) 2>>=_) _ _ _;refine ae (wpAny_field he rfl (x:= .ref it) rfl ?_);refine ae (wpAny_mono h (fun x IK hx=> ?_) (fun x IK hx=> ?_))
 ·refine gw hx fun HZ y1 Hw k=> ?_;subst y1;refine ae (wpAny_field Hw rfl (x:=rawInt i) rfl ?_);refine ae (wpAny_field Hw rfl (x:= .none) rfl ?_);refine ae (wpAny_mkInt ?_);refine ae (wpAny_setField_rec Hw (by simp) fun H0 Hx HM=> ?_);replace Hx:IsEnum H0 e it ((i:Int)+1) old:=Hx;refine ae (wpAny_setField_rec Hx (by simp) fun H1 Hy HN=> ?_);replace Hy:IsEnum H1 e it ((i:Int)+1) old:=Hy;refine ae (wpAny_newTuple ?_);have Hz:IsEnum (H1.push {cls:= .type "tuple",data:= .seq #[.int i s.toks,x]}) e it ((i:Int)+1) old:=aW _ Hy;have sz:H1.objs.size=HZ.objs.size:=by (refine ak (HN.1 ..) ?_;refine ak (HM.1 ..) ?_;rfl)
  refine ae (ae (wpAny_field Hz rfl (x:= .none) rfl (am ?_)));dsimp only;refine ae (wpAny_rule (ae (wpAny_field Hz rfl (x:=old) rfl ?_)));refine ae (wpAny_setField_rec Hz (by simp) fun H3 HA HP=> ?_);replace HA:IsEnum H3 e it ((i:Int)+1) x:=HA;refine ae (gv fun Q1z E1z hQ1z hE1z=> ?_);refine ae (wpAny_setField_rec HA (by simp) fun H4 HB HQ=> ?_);replace HB:IsEnumOut H4 e it ((i:Int)+1) x H1.objs.size:=HB;refine wpAny_setField_rec HB (by simp) fun H5 HC HR=> ?_;replace HC:IsEnumOut H5 e it ((i:Int)+1) x H1.objs.size:=HC;have up:∀b o,b≠e->(H1.push {cls:= .type "tuple",data:= .seq #[.int i s.toks,x]}).get? b=some o->H5.get? b=some o:=fun b o hb y=>HR.extBut b o hb (HQ.extBut b o hb (HP.extBut b o hb y));have I5:=up H1.objs.size _ (by rw [sz];exact Nat.ne_of_gt (Heap.lt_size Hw)) (aF _ rfl);rw [sz] at HC I5;refine hQ1z _ _ (ae (wpAny_letGo (am ⟨_,rfl, ?_⟩)));rw [sz];exact am (k H5 HC I5 fun b o hb y=>up b o hb (aW _ (HN.extBut b o hb (HM.extBut b o hb y))))
 ·obtain ⟨⟨o,ho,hc⟩,⟨a,rfl⟩,hq⟩:=hx;refine (ae (wpAny_isInstance ⟨o,ho,hc⟩ isSubtype_stop ?_));exact am hq
end
section
variable {T:cK} {A:Around} {E:Value->Shared->Prop} {K:Value->Shared->Prop} {s:Shared} {Y Y':be} {h h':Heap} {c:Cd} {tg:TT} {items:List V} {f:Cd->be->Prop}
noncomputable def EZSt (e z TI TO i1 i2 l1 l2:Addr) (i:Nat) (h:Heap):Prop:=(∃old,IsEnum h e z i old)/\(∃f0 f1,ZF h z f0 f1 TI TO/\Gu f0)/\(∃a b,IsPair h TO a b)/\h.IsListIter i1 l1 i/\h.IsListIter i2 l2 i
theorem in5 {α:Type} {P:α->Prop} {a b c d e:α} (h0:P e) (h1:P a) (h2:P b) (h3:P c) (h4:P d):∀x∈[e,a,b,c,d],P x:=fun x hx=>by
 rcases au.mp hx with rfl | hx
 ·exact h0
 ·exact in4 h1 h2 h3 h4 x hx
theorem qJ {ts:List TT} {p:Pos} (e z TI TO i1 i2 l1 l2:Addr) (l r:List V) (D:ZipApart z TI TO i1 i2 l1 l2) (hz0:e≠z) (ho:e≠TO) (h10:e≠i1) (h20:e≠i2) (lo:∀a∈[e,z,TO,i1,i2],T.lo<=a):It T (.t ts p) e (· ∈[e,z,TO,i1,i2]) (gm 0 (i4 l r)) (some (TO, .hid)) (Sm [e,z,TO,i1,i2] (some (TO, .hid)) (EZSt e z TI TO i1 i2 l1 l2) (A5 TI i1 i2 l1 l2 l r)):=by
 refine It.many lo (fun i h h' st hk=> ?_) (fun i h st=> ?_) v5 (fun st q=>wpAny_pyIter_enum st.1.choose_spec q) (fun {A Y s K E i x} hh hx st sr k=> ?_) (fun {A Y s K E} hh st sr k=> ?_)
 ·refine cr fun hn=> ?_;obtain ⟨⟨old,a0⟩,⟨f0,f1,a1,af⟩,⟨x,y,a3⟩,a4,a5⟩:=st;exact hn (⟨⟨old,hk e (.head _) _ a0⟩,⟨f0,f1,hk z (.tail _ (.head _)) _ a1,af⟩,⟨x,y,hk TO (.tail _ (.tail _ (.head _))) _ a3⟩,a4.at fun o x=>hk i1 (.tail _ (.tail _ (.tail _ (.head _)))) o x,a5.at fun o x=>hk i2 (.tail _ (.tail _ (.tail _ (.tail _ (.head _))))) o x⟩)
 ·refine cr fun hn=> ?_;obtain ⟨⟨old,a0⟩,⟨f0,f1,a1,af⟩,⟨x,y,a3⟩,a4,a5⟩:=st;exact hn (in5 (nT a0 (by decide)) (nT a1 (by decide)) ⟨_,a3,rfl,fun q=>absurd rfl q⟩ (iO a4) (iO a5))
 ·refine cr fun hn=>(Dg st fun y21 y22 y23 h1 h2=> ?_);obtain ⟨old,he⟩:=y21;obtain ⟨f0,f1,hz,hf⟩:=y22;obtain ⟨x0,y0,hTO⟩:=y23;obtain ⟨⟨vs,n,⟨a1,U⟩,a2⟩,⟨ws,m,⟨b1,U⟩,b2⟩,⟨hTI,U⟩⟩:=sr;obtain ⟨q,q1,rfl⟩:=me hx;refine eJ (qg q1) fun d e' d1 e1 y51=> ?_;subst y51;obtain ⟨v,v1,v2⟩:=rm a2 d1;obtain ⟨w,w1,w2⟩:=rm b2 e1;refine hn (mA he (Bw D hz hf hTI hTO h1 h2 ⟨_,a1,rfl,_,rfl⟩ ⟨_,b1,rfl,_,rfl⟩ v1 w1 (fun HZ f0' f1' HV HD Hs Hp Hq Ht HK HF=>⟨HZ,rfl,HF _ _ hz0 ho h10 h20 he,fun h' he' hT' hk'=> ?_⟩)));refine k _ _ (fun {K2 E2} k2=> ?_);refine wpAny_letOwnedTupleGo_enum he' (fun h'' he'' hs'=> ?_);have el:=Heap.lt_size he;have up:∀b o,b≠e->HZ.get? b=some o->h''.get? b=some o:=fun b o hb y=>hs'.extBut b o hb (hk' b o hb y);refine cr fun hn=> ?_;obtain ⟨x1,y1,Hs⟩:=Hs;refine hn (k2 h'' (s.toks+1) (fun b o hb y=> ?_) ⟨⟨_,he''⟩,⟨f0',f1',up _ _ (aS hz0) HV,HD⟩,⟨x1,y1,up _ _ (aS ho) Hs⟩,Hp.at fun o y=>up _ _ (aS h10) y,Hq.at fun o y=>up _ _ (aS h20) y⟩ (fun G' le nw=> ?_))
  ·obtain ⟨c1,c2,c3,c4⟩:=Bp fun q=>hb (.tail _ q);exact up b o (fun q=>hb (q▸ .head _)) (HF b o c1 c2 c3 c4 y)
  ·have T1:=up _ _ (Nat.ne_of_gt el) Ht;refine ⟨_,[.int i s.toks, .ref s.heap.objs.size],0,rfl,nw _ _ (by rw [HK];exact Nat.le_succ _) (hs'.extBut _ _ (by rw [HK];exact Nat.ne_of_gt (Nat.lt_succ_of_lt el)) hT') (cA _ (.inl rfl) _ _), ?_,⟨_,[v,w],0,rfl,nw _ _ (av _) T1 (cA _ (.inl rfl) _ _),v2.mono le,w2.mono le,rfl⟩,rfl⟩;rw [Nat.zero_add];exact ⟨_,rfl⟩
 ·refine gv fun Q1z E1z hQ1z hE1z=>(cr fun hn=> ?_);refine Dg st fun y211 y212 y213 h1 h2=> ?_;obtain ⟨old,he⟩:=y211;refine gU y212 fun f0 f1 hz hf=>(oo y213 fun x0 y0 hTO=> ?_);obtain ⟨⟨vs,n,⟨a1,U⟩,a2⟩,⟨ws,m,⟨b1,U⟩,b2⟩,⟨hTI,U⟩⟩:=sr;refine hn ?_;rw [mm] at h1 h2;refine mA he (ye (by exact hh) D hz hf hTI hTO h1 h2 ⟨_,a1,rfl,_,rfl⟩ ⟨_,b1,rfl,_,rfl⟩ (Ck a2 b2) (fun h' x hk hx=>⟨hx,⟨_,rfl⟩, ?_⟩));exact hQ1z _ _ (k h' s.toks (fun b o hb y=>Ad (Bp fun q=>hb (.tail _ q)) fun c1 c2 c3 c4=>hk b o c1 c2 c3 c4 y))
theorem oi {ts:List TT} {p:Pos} {v w:Value} {d e:V} {l r:List V} (hd:jf d=some l) (he:jf e=some r) (st:St T Y s.heap) (hv:VR (G Y s.heap) d v) (hw:VR (G Y s.heap) e w) (q:∀Z,Y Z=none->f (some (Z, .hid)) (Y.set Z .hid)) (k:xu T (.t ts p) (gm 0 (i4 l r)) Y s f K):wpAny (model T.prog T.w) A (PySem.call (.type "zip") [v,w]) (fun z IK=>wpAny (model T.prog T.w) A (PySem.call (.type "enumerate") [z]) (fun e IL=>wpAny (model T.prog T.w) A (pyIter e) K E IL) E IK) E s:=by
 refine gv fun Q1z E1z hQ1z hE1z=> ?_;refine vL (f:=fun l'=>l'=l) (by rw [hd];rfl) hv fun ds a vs n U g rr e'=> ?_;clear hv hd;subst e';refine vL (f:=fun l'=>l'=r) (by rw [he];rfl) hw fun es b ws m U g' rr' e'=> ?_;subst e';refine call_zip_2 ⟨_,g.1,rfl,_,rfl⟩ ⟨_,g'.1,rfl,_,rfl⟩ (fun h' hz hTI hTO h1 h2 hsz hk=> ?_);refine hQ1z _ _ (lW hz ?_);have he:IsEnum (h'.push (gW (s.heap.objs.size+4))) h'.objs.size (s.heap.objs.size+4) 0 .none:=aF _ rfl;refine wpAny_pyIter_enum (s:={s with heap:=h'.push (gW (s.heap.objs.size+4))}) he ?_;have up:=bA h' (gW (s.heap.objs.size+4));have D:=zipApart_new (Heap.lt_size g.1) (Heap.lt_size g'.1);have ne:∀{b o},h'.get? b=some o->h'.objs.size≠b:=fun y=>Nat.ne_of_gt (Heap.lt_size y);refine lL (oM (h':=h'.push (gW (s.heap.objs.size+4))) st (fun b o y=>up b o (hk b o y)) (up _ _ hTO) (aP _ _) (up _ _ hTI) (aP _ _) D.TITO ⟨vs,n,g,rr⟩ ⟨ws,m,g',rr'⟩) fun t sr ff=> ?_;have fresh:=in5 (show s.heap.objs.size<=h'.objs.size by rw [hsz];exact aP _ _) (aP _ 4) (aP _ 3) (av _) (aP _ 1)
 exact k _ _ (some (s.heap.objs.size+3, .hid)) _ _ _ s.toks t (qJ _ _ _ _ _ _ a b ds es D (ne hz) (ne hTO) (ne h1.choose_spec.1) (ne h2.choose_spec.1) fun a ha=>aj (T.size st.top) (fresh a ha))
  ⟨⟨⟨_,he⟩,⟨_,_,up _ _ hz, .inl rfl⟩,⟨_,_,up _ _ hTO⟩,h1.at fun o y=>up _ _ y,h2.at fun o y=>up _ _ y⟩,ff _ fresh,sr,be.set_same _ _ _⟩ (fun a ha=>bB (fresh a ha)) (be.set_same _ _ _) (q _ (st.free (bB (aP _ _))))
end
end Mine
end
section
namespace Mine
open PySem PySem.W PyProof.Rows PySem.Calls PySem.SeqAt Builtin
noncomputable def zW (M:Model) (A:Around) (E:Value->Shared->Prop) (sk:SK) (vs:List Value) (K:Value->Shared->Prop) (s:Shared):Prop:=match sk with
 | .plain=>wpAny M A (pyIter (vs.headD .none)) K E s
 | .zip=>wpAny M A (PySem.call (.type "zip") vs) (fun z IK=>wpAny M A (pyIter z) K E IK) E s
 | .enum=>wpAny M A (PySem.call (.type "enumerate") vs) (fun z IK=>wpAny M A (pyIter z) K E IK) E s
 | .enumzip=>wpAny M A (PySem.call (.type "zip") vs) (fun z IK=>wpAny M A (PySem.call (.type "enumerate") [z]) (fun e IL=>wpAny M A (pyIter e) K E IL) E IK) E s
 | .szw=>wpAny M A (pyIter (.ref 63)) K E s
section
variable {T:cK} {TB:eT} {Kf:Frag} {Γ:dW} {lv nf:Nat} {A:Around} {C:Cx} {E:Value->Shared->Prop} {K:Value->Shared->Prop} {s:Shared} {Y Y':be} {h h':Heap} {c:Cd} {tg:TT} {vs:List Value} {ds:List V}
theorem all1 {P:List V->Option (List V×Cd)} {p:List V×Cd} {ds:List V} (h:((cz jf ds).bind fun ls=>match ls with | [l]=>P l | _=>none)=some p):∃d l,ds=[d]/\jf d=some l/\P l=some p:=by
 refine bu (aK.mp h) fun ls e1 e2=> ?_
 cases ds with
 | nil=>rw [<-bW e1] at e2;exact bZ e2
 | cons d r=>
  refine eJ (dY e1) fun l t q1 q2 q3=> ?_;rw [q3] at e2
  cases r with
  | nil=>rw [<-bW q2] at e2;exact ⟨d,l,rfl,q1,e2⟩
  | cons d' r=>exact eJ (dY q2) fun U U U U q=>by rw [q] at e2;exact bZ e2
theorem FT {P:List V->List V->Option (List V×Cd)} {p:List V×Cd} {ds:List V} (h:((cz jf ds).bind fun ls=>match ls with | [l,r]=>P l r | _=>none)=some p):∃d e l r,ds=[d,e]/\jf d=some l/\jf e=some r/\P l r=some p:=by
 refine bu (aK.mp h) fun ls e1 e2=> ?_
 cases ds with
 | nil=>rw [<-bW e1] at e2;exact bZ e2
 | cons d r=>
  refine eJ (dY e1) fun l t q1 q2 q3=> ?_;rw [q3] at e2
  cases r with
  | nil=>rw [<-bW q2] at e2;exact bZ e2
  | cons d' r=>
   refine eJ (dY q2) fun l' t' q3 q4 q5=> ?_;rw [q5] at e2
   cases r with
   | nil=>rw [<-bW q4] at e2;exact ⟨d,d',l,l',rfl,q1,q3,e2⟩
   | cons d'' r=>exact eJ (dY q4) fun U U U U q=>by rw [q] at e2;exact bZ e2
theorem qk {F:List V->Cd->be->Prop} {d:V} {v:Value} (st:St T Y s.heap) (hv:VR (G Y s.heap) d v) (q:on (yk d Y) fun p=>F p.1 p.2 Y) (k:∀items,xu T tg items Y s (F items) K):wpAny (model T.prog T.w) A (pyIter v) K E s:=by
 cases d with
 | lst l=>exact yp rfl st hv q (k _)
 | tup l=>exact yt rfl st hv q (k _)
 | bytes l=>exact qo rfl st hv q (k _)
 | str l=>exact pL rfl st hv q (k _)
 | rng a b=>exact zk st hv q (k _)
 | ref a=>
  refine bu (bH q) fun p e q=> ?_;obtain ⟨p',e',rfl⟩:=aL.mp e;exact (Am e' st hv q (k _))
 | _=>exact q.elim
theorem ma (KO:cc T TB Kf) {sk:SK} {F:List V->Cd->be->Prop} (ht:Eg sk tg=true) (st:St T Y s.heap) (hv:VRs (G Y s.heap) ds vs) (q:on (zy sk ds Y) fun p=>DO sk p.2 Y (F p.1)) (k:∀items,xu T tg items Y s (F items) K):zW (model T.prog T.w) A E sk vs K s:=by
 cases sk with
 | plain=>
  cases ds with
  | nil=>exact q.elim
  | cons d r=>
   cases r with
   | nil=>exact bu (wt hv) fun v e hv'=>bi e (qk st hv' q k)
   | cons=>exact q.elim
 | szw=>exact Au KO st q (k _)
 | enum=>
  refine bu (bH q) fun p e q=>eJ (all1 e) fun d l q1 e1 e2=> ?_;rw [<-bW e2] at q;rw [q1] at hv;refine bu (wt hv) fun v e hv'=>bi e ?_
  cases tg with
  | n U z1 z2=>exact cR ht
  | t ts p=>exact wC e1 st hv' q (k _)
 | zip=>
  refine bu (bH q) fun p e q=>oo (FT e) fun d d' h=>qj h fun l r q1 e1 e2 e3=> ?_;rw [<-bW e3] at q;rw [q1] at hv;refine eJ (Bh hv) fun v w e hv' hw=>bi e ?_
  cases tg with
  | n U z1 z2=>exact cR ht
  | t ts p=>exact xU e1 e2 st hv' hw q (k _)
 | enumzip=>
  refine bu (bH q) fun p e q=>oo (FT e) fun d d' h=>qj h fun l r q1 e1 e2 e3=> ?_;rw [<-bW e3] at q;rw [q1] at hv;refine eJ (Bh hv) fun v w e hv' hw=>bi e ?_
  cases tg with
  | n U z1 z2=>exact cR ht
  | t ts p=>exact oi e1 e2 st hv' hw q (k _)
theorem ms (KO:cc T TB Kf) {sk:SK} {srcs:List DE} {ps:List Pos} {H:bv} {Q:List V->be->Prop} {X:KV} (hs:yT T TB Γ lv nf srcs) (h1:∀e∈srcs,SE T TB Γ lv nf e) (hA:Ac T A C lv) (ok1:okEs C.fn nf C.env.kindOf srcs=true) (ok2:vq C.env.kindOf sk srcs.length=true) (R:Rl T C H Y s.heap) (q:evs TB Γ srcs H Y Q X) (kx:Kx T C Y s X E) (k:∀vs ds Jo HZ Ia,To T Nl Y s.heap Jo HZ->VRs (G Jo HZ) ds vs->Q ds Jo->zW (model T.prog T.w) A E sk vs K (put s HZ Ia)):wpAny (model T.prog T.w) A (eval (pS sk (DE.toEs srcs) ps) C.env) (fun xv IK=>wpAny (model T.prog T.w) A (pyIter xv) K E IK) E s:=by
 have gns:=kQ KO hA R;have bns:=xJ KO hA R
 have k':∀{pos:Pos},wpAny (model T.prog T.w) A (spliced (backTo pos (starEach (DE.toEs srcs) C.env))) (fun vs IK=>zW (model T.prog T.w) A E sk vs K IK) E s:=fun {pos}=>
  hs hA ok1 R q (fun vs ds Jo HZ Ia IW vrs hn Iw=>k vs ds Jo HZ Ia IW vrs Iw) kx
 clear hs
 cases sk with
 | plain=>
  refine dU (List.length_eq_one_iff.mp (eq_of_beq ok2)) fun e z=> ?_;subst z;exact h1 e (.head _) hA (al ok1) R q (fun v d Jo HZ Ia IW vr Iw=>k [v] [d] Jo HZ Ia IW ⟨vr,rfl⟩ Iw) kx
 | zip=>
  refine Call_Name rfl (Name_function_global hA.kind (d6 (ar ok2)) (loadGlobal_builtin gns KO.zip.1 bns KO.zip.2 ?_) (by decide+kernel));exact PyProof.Rows.callWith_type (cx _ _ _) (cH k')
 | enum=>
  refine Call_Name rfl (Name_function_global hA.kind (d6 (ar ok2)) (loadGlobal_builtin gns KO.enum.1 bns KO.enum.2 ?_) (by decide+kernel));exact PyProof.Rows.callWith_type (cx _ _ _) (cH k')
 | enumzip=>
  refine Call_Name rfl (Name_function_global hA.kind (d6 (al (ar ok2))) (loadGlobal_builtin gns KO.enum.1 bns KO.enum.2 ?_) (by decide+kernel));refine PyProof.Rows.callWith_type rfl (evalArgs_plain (spliced_cons ?_));refine Call_Name rfl (Name_function_global hA.kind (d6 (ar (ar ok2))) (loadGlobal_builtin gns KO.zip.1 bns KO.zip.2 ?_) (by decide+kernel));refine PyProof.Rows.callWith_type (cx _ _ _) (cH (wpAny_mono k' (fun vs IK HZ=> ?_) fun U U x=>x));exact wpAny_mono HZ (fun z IL H0=>spliced_nil H0) fun U U x=>x
 | szw=>
  have hk:=d6 (ar (a:=srcs.length==0) ok2);clear k' bns ok1 h1;rw [List.length_eq_zero_iff.mp (eq_of_beq (al ok2))] at q;refine Name_function_global hA.kind hk (loadGlobal_global gns KO.szw ?_) (by decide+kernel);exact k [] [] Y s.heap s.toks (.refl R.st) rfl q
end
end Mine
end
section
namespace Mine
open PySem PySem.W PyProof.Rows PySem.Calls PySem.SeqAt
theorem rz (env:Env) (names:List (Str×NameKind)):∀(cs:List (Str×Addr)),(∀x∈names,x.2= .free->(env.cells.lookup x.1).isSome=true)->(∀x∈cs,env.cells.lookup x.1=some x.2)->∃cl,(forIn names cs (fun x r=>if (x.2==NameKind.free)=true then do let a <-cellOf env x.1;pure (ForInStep.yield ((x.1,a)::r)) else pure (ForInStep.yield r)):Sem (List (Str×Addr)))=pure cl/\(∀n,((n,NameKind.free)∈names\/(cs.lookup n).isSome=true)->cl.lookup n=env.cells.lookup n)/\(∀x∈cl,env.cells.lookup x.1=some x.2):=by
 induction names with
 | nil=>exact fun cs U hcs=>⟨cs,rfl,fun n hn=>hn.elim (fun h=>fh h) fun h=>dU (Option.isSome_iff_exists.mp h) fun c hc=>hc.trans (hcs _ (jP hc)).symm,hcs⟩
 | cons p r ih=>
  intro cs h hcs;have h:=aa.mp h;rw [List.forIn_cons]
  by_cases hk:p.2= .free
  ·refine dU (Option.isSome_iff_exists.mp (h.1 hk)) fun c hc=>gw (ih ((p.1,c)::cs) h.2 (aa.mpr ⟨hc,hcs⟩)) fun cl h1 h2 h3=>⟨cl, ?_,fun m hm=>h2 m ?_,h3⟩
   ·rw [if_pos (by rw [hk];rfl),show cellOf env p.1=pure c by delta cellOf;rw [hc]];exact h1
   ·by_cases q:p.1=m
    ·rw [dB q];exact .inr rfl
    ·rw [cY q];exact hm.imp_left fun hm=>(au.mp hm).elim (fun e=>absurd (aB Prod.fst e).symm q) id
  ·refine gw (ih cs h.2 hcs) fun cl h1 h2 h3=>⟨cl, ?_,fun m hm=>h2 m (hm.imp_left fun hm=>(au.mp hm).elim (fun e=>absurd (aB Prod.snd e).symm hk) id),h3⟩;rw [if_neg fun q=>hk (eq_of_beq q)];exact h1
theorem lg (scope:Scope) (env:Env) (h:∀x∈scope.names,x.2= .free->(env.cells.lookup x.1).isSome=true):∃cl,closureFor scope env=pure cl/\(∀n,(n,NameKind.free)∈scope.names->cl.lookup n=env.cells.lookup n)/\(∀x∈cl,env.cells.lookup x.1=some x.2):=by
 refine gw (rz env scope.names [] h (fun U hx=>by exact fh hx)) fun cl h1 h2 h3=>⟨cl, ?_,fun n hn=>h2 n (.inl hn),h3⟩;rw [<-h1];delta closureFor;rw [bind_pure]
theorem lr {scope:Scope} {cl:List (Str×Addr)} {Cl:Addr} {env:Env} (hk:env.scope.kind= .function):(compEnvC scope cl Cl env).kindOf=fu env.kindOf scope:=by
 funext x
 show (relabel scope env).names.lookup x=_;delta fu relabel;simp only [hk,a9,Bool.and_true]
theorem fK {k:cO} {x:Str} {names:List (Str×NameKind)} {r:NameKind}:(names.map fun (n,kd)=>if (kd==NameKind.free && k n==some .cell) then (n,NameKind.cell) else (n,kd)).lookup x=some r->∃kd,(x,kd)∈names/\names.lookup x=some kd/\((kd= .free/\k x=some .cell/\r= .cell)\/r=kd):=by
 induction names with
 | nil=>exact fun e=>bZ e
 | cons p t ih=>
  have e0:(match p with | (n,kd)=>if (kd==NameKind.free && k n==some .cell) then (n,NameKind.cell) else (n,kd))=(p.1,if (p.2==NameKind.free && k p.1==some .cell)=true then .cell else p.2):=by dsimp only;split<;>rfl
  rw [aR,e0]
  by_cases q:p.1=x
  ·rw [dB q,dB q];refine fun e=>⟨p.2,q▸ .head _,rfl, ?_⟩
   by_cases hc:(p.2==NameKind.free && k p.1==some .cell)=true
   ·exact .inl ⟨eq_of_beq (al hc),q▸eq_of_beq (ar hc),(bW e).symm.trans (if_pos hc)⟩
   ·exact .inr ((bW e).symm.trans (if_neg hc))
  ·rw [cY q,cY q];exact fun e=>(ih e).imp fun U h=>⟨.tail _ h.1,h.2⟩
section
variable {prog:Program} {w:World} {A:Around} {E:Value->Shared->Prop} {R:Result->Shared->Prop} {s:Shared}
theorem qs {elt target iter:Expr} {ifs:List Expr} {scope:Scope} {pos:Pos} {it acc:Value} {env:Env} (I:Nat->Shared->Prop) (turn:∀n s,I n s->wpAny (model prog w) A (pyNext it) (fun r IK=>match r with
   | none=>R (.ok .next) IK
   | some v=>wpAny (model prog w) A (letOwnedTupleGo target it v) (fun U IK=>wpAny (model prog w) A (assign target env v) (fun U IL=>
     wpAny (model prog w) A (forIn ifs true fun c r=>if r=true then do let ok <-isTrue c env (eval c env);pure (ForInStep.yield ok) else pure (ForInStep.yield r)) (fun ok IM=>
      if ok=true then wpAny (model prog w) A (eval elt env) (fun x IN=>
       wpAny (model prog w) A (PySem.call (.builtin "list.append") [acc,x]) (fun U IP=>∃m,m<n/\I m IP) (notedBy (model prog w) A env fun e s'=>R (.error e) s') IN) (notedBy (model prog w) A env fun e s'=>R (.error e) s') IM
      else ∃m,m<n/\I m IM) (notedBy (model prog w) A env fun e s'=>R (.error e) s') IL) (notedBy (model prog w) A env fun e s'=>R (.error e) s') IK) (notedBy (model prog w) A env fun e s'=>R (.error e) s') IK) (notedBy (model prog w) A env fun e s'=>R (.error e) s') s)
  (n:Nat) (h:I n s):
  codeAny (model prog w) A (.compLoop (.ListComp elt [⟨target,iter,ifs,0⟩] scope pos) 0 it acc env) R s:=by
 refine codeAny_loop rfl I (fun n s hI=> ?_) n h;show wpAny _ A ((compTurn (.ListComp elt [⟨target,iter,ifs,0⟩] scope pos) 0 it acc env).onRaise (fun x=>do noteFrame x env;theTreesLotGoes x)) _ _ s;refine wpAny_noted ?_;rw [compTurn_list];refine ae (wpAny_standAt (ae (wpAny_mono (turn n s hI) (fun r IK HZ=> ?_) fun U U h'=>h')))
 cases r with
 | none=>exact am HZ
 | some v=>
  refine ae (wpAny_mono HZ (fun U IK HZ=> ?_) fun U U h'=>h');refine ae (wpAny_mono HZ (fun U IL H0=>ae (wpAny_mono H0 (fun ok IM H1=> ?_) fun U U h'=>h')) fun U U h'=>h')
  cases ok with
  | false=>exact am ⟨rfl,H1⟩
  | true=>
   exact ae (ae (wpAny_mono H1 (fun x IN H2=>ae (wpAny_mono H2 (fun U IP H3=>am (am ⟨rfl,H3⟩)) fun U U h'=>h')) fun U U h'=>h'))
end
structure iY (T:cK) (W:Addr->Prop) (Y:be) (h:Heap) (Y':be) (h':Heap):Prop where
 kp:∀a o,¬W a->h.get? a=some o->h'.get? a=some o
 nv:∀a o,W a->Y a=none->h.get? a=some o->¬cN o
 lo:∀a,W a->T.lo<=a
 out:∀a,W a->Y' a=none
 sub:∀a d,Y' a=some d->Y a=some d
section
variable {T:cK} {C:Cx} {H:bv} {Y Y' Jn:be} {h h' HY:Heap} {W L:Addr->Prop}
theorem iY.off (x:iY T W Y h Y' h') {a:Addr} (e:Y a=none):Y' a=none:=by
 cases q:Y' a with
 | none=>rfl
 | some d=>exact bS (x.sub a d q) e
theorem iY.fre (x:iY T W Y h Y' h') {a:Addr} (e:free (Y a)):free (Y' a):=by
 cases q:Y' a with
 | none=>exact .inl rfl
 | some d=>rw [<-x.sub a d q];exact e
theorem iY.gle (x:iY T W Y h Y' h'):jq (G Y h) (G Y' h'):=fun a o g=>⟨x.kp a o (fun w=>x.nv a o w g.2.1 g.1 g.2.2) g.1,x.off g.2.1,g.2.2⟩
theorem iY.st (x:iY T W Y h Y' h') (s:St T Y h):St T Y' h':=by
 refine ⟨T.keep s.top fun a o l e=>x.kp a o (fun w=>absurd l (Nat.not_lt.mpr (x.lo a w))) e,fun a d e=> ?_⟩;obtain ⟨l,o,h1,h2⟩:=s.sto a d (x.sub a d e);exact ⟨l,o,x.kp a o (fun w=>bS e (x.out a w)) h1,h2.mono x.gle⟩
theorem iY.to (x:iY T W Y h Y' h') (t:To T L Jn HY Y h) (nw:∀a,W a->HY.get? a=none):To T L Jn HY Y' h':=by
 refine ⟨x.st t.st,fun a o e=> ?_,fun a o e=> ?_⟩
 ·exact bu (t.keep a o e) fun o' e' k=>⟨o',x.kp a o' (fun w=>bS e (nw a w)) e',k⟩
 ·have d:=t.dom a o e;exact ⟨fun n=>x.off (d.1 n),fun f=>x.fre (d.2 f)⟩
theorem iY.rl {Jn:be} {Jh:bv} (x:iY T W Y h Y' h') (R:Rl T C H Y h) (G0:Rl T C Jh Jn HY) (nw:∀a,W a->HY.get? a=none):Rl T C H Y' h':=by
 obtain ⟨m,⟨o,es,ep,e,d⟩,hl⟩:=R.loc;have old:∀{a o},HY.get? a=some o->¬W a:=fun e w=>bS e (nw _ w);have cell:∀{y c v},(y,c)∈C.env.cells->h.IsCell c v->h'.IsCell c v:=fun hc z=>bu z fun o e d=>⟨o,x.kp _ _ (let ⟨_,_,_,e',_⟩:=G0.cells _ _ hc;old e') e,d⟩;refine ⟨x.st R.st,⟨m,⟨o,es,ep,x.kp _ _ (let ⟨_,⟨_,_,_,e',_⟩,_⟩:=G0.loc;old e') e,d⟩,fun n d e=>⟨(hl n d e).1,fun hk=>bu ((hl n d e).2 hk) fun v h1 h2=>⟨v,h1,h2.mono x.gle⟩⟩⟩,fun n d e hk=> ?_,fun y c hc=> ?_,x.off R.own,fun e he=> ?_⟩
 ·exact eJ (R.cel n d e hk) fun c v h1 h2 h3=>⟨c,v,h1,cell (mem_of_lookup h1) h2,h3.mono x.gle⟩
 ·obtain ⟨n,v,hv⟩:=R.cells y c hc;exact ⟨x.off n,v,cell hc hv⟩
 ·refine cr fun hn=>(fI (R.fr e he) fun f1 y31=> ?_);refine qj y31 fun F o f2 f3 f4 y32=>(fI y32 fun f5 f6=> ?_);refine fI (G0.fr e he) fun U y41=>(qj y41 fun F' o' g2 U U y42=> ?_);refine fI y42 fun g5 U=>(hn ?_);rw [f2] at g2;(replace g2:=bW g2;subst g2);exact ⟨f1,F,o,f2,f3,x.off f4,x.kp _ _ (old g5) f5,f6⟩
theorem jA {c:Cd} {a:Addr} {d:O} (e:unhid c Y a=some d):Y a=some d:=by
 cases c with
 | none=>exact e
 | some p=>
  obtain ⟨Z,o⟩:=p
  cases o with
  | hid=>
   by_cases q:a=Z
   ·rw [show unhid (some (Z, .hid)) Y a=none from if_pos q] at e;exact bZ e
   ·exact (if_neg q).symm.trans e
  | _=>exact e
theorem w6 {Z:Addr}:unhid (some (Z, .hid)) Y Z=none:=if_pos rfl
theorem It.less {tg:TT} {I:Addr} {items:List V} {c:Cd} {S:Nat->be->Heap->Prop} {i:Nat} (x:It T tg I W items c S) (st:S i Y h) (hk:∀b o,¬W b->h.get? b=some o->h'.get? b=some o):iY T W Y h (unhid c Y) h':=by
 refine ⟨hk,fun a o w n e=>(x.hid st a o w n e).1,x.lo,fun a w=> ?_,fun a d=>jA⟩;rcases x.own st a w with q | ⟨U,rfl⟩
 ·cases e:unhid c Y a with
  | none=>rfl
  | some d=>exact bS (jA e) q
 ·exact w6
end
noncomputable def Cx.blk (C:Cx) (e:Env):Cx:=⟨e,false,C.envs⟩
theorem xg {k:cO} {cells:Bool}:(∀t i,tD k cells t=true->i∈gj t->i<nmL.length)/\∀l i,okTs k cells l=true->i∈namesTs l->i<nmL.length:=
 TT.both (fun c j p i ok hi=>ao.mp hi▸iC (al (ar ok))) (fun l p ih i ok=>ih i (al ok)) (fun i U=>fh) fun t l h1 h2 i ok hi=>(aD.mp hi).elim (h1 i (al ok)) (h2 i (ar ok))
section
variable {T:cK} {TB:eT} {Kf:Frag} {Γ:dW} {lv nf:Nat} {A:Around} {C:Cx} {H H':bv} {Y Y' Jn:be} {h h' HY:Heap} {sc:Scope} {cl:List (Str×Addr)} {L D:Addr} {tg:TT} {c:Cd} {W:Addr->Prop}
theorem Dd:∀i,i<nmL.length->nm i≠(".0" :Str):=by decide+kernel
theorem orN {a b:NameKind} {q:Bool} (h:(a !=b || q)=true) (e:a=b):q=true:=by
 rw [Bool.or_eq_true] at h;exact h.elim (fun n=>absurd e (bne_iff_ne.mp n)) id
theorem Ac.blk (hA:Ac T A C lv) (hs:sc.kind= .function) (hc:∀x∈cl,C.env.cells.lookup x.1=some x.2) (hL:T.lo<=L):Ac T A (C.blk (compEnvC sc cl L C.env)) lv:=
 have nf:∀{P:Prop},(C.blk (compEnvC sc cl L C.env)).fn=true->P:=fun q=>Bool.noConfusion (show false=true from q)
 ⟨hs,hA.glob,hA.blt,fun q=>nf q,fun q=>nf q,fun q=>nf q,fun q=>nf q,hL,fun x c q=>hA.clo x c (mem_of_lookup (hc (x,c) q)),hA.handled,hA.frames,hA.depth,hA.units⟩
theorem Rl.blk (R:Rl T C H Y h) (hA:Ac T A C lv) (hn:∃m,h.Ns L m) (hL:Y L=none) (hc:∀x∈cl,C.env.cells.lookup x.1=some x.2) (hf:∀n,(n,NameKind.free)∈sc.names->cl.lookup n=C.env.cells.lookup n) (so:D6 C.env.kindOf tg sc=true) (ot:tD (fu C.env.kindOf sc) false tg=true):Rl T (C.blk (compEnvC sc cl L C.env)) (i6 tg H) Y h:=by
 obtain ⟨m,hm⟩:=hn;have ek:(compEnvC sc cl L C.env).kindOf=fu C.env.kindOf sc:=lr hA.kind
 have old:∀{n d},i6 tg H n=some d->n∉gj tg/\H n=some d:=fun {n d} q=>by
  delta i6 at q
  by_cases r:n∈gj tg
  ·rw [if_pos r] at q;exact bZ q
  ·rw [if_neg r] at q;exact ⟨r,q⟩
 refine ⟨R.st,⟨m,hm,fun n d q=> ?_⟩,fun n d q hk=> ?_,fun x c q=>R.cells x c (mem_of_lookup (hc (x,c) q)),hL,R.fr⟩
 ·obtain ⟨q1,q2⟩:=old q;have hlt:=(R.loc.choose_spec.2 n d q2).1;refine ⟨hlt,fun hk=> ?_⟩;have hk:=(congrFun ek (nm n)).symm.trans hk;obtain ⟨kd,h1,h2,h3⟩:=fK hk;rcases h3 with ⟨U,U,h3⟩ | h3
  ·contradiction
  ·have:=aG.mp (al (ar (ar so))) _ h1;rw [Bool.or_assoc] at this;have:=orN this h3.symm;rw [Bool.or_eq_true] at this;rcases this with this | this
   ·exact absurd (eq_of_beq this) (Dd n hlt)
   ·refine cr fun hn=>(bu (List.any_eq_true.mp this) fun i i1 i2=> ?_);exact hn (absurd (lD (xg.1 _ _ ot i1) hlt (eq_of_beq i2)▸i1) q1)
 ·refine cr fun hn=> ?_;obtain ⟨q1,q2⟩:=old q;have hk:=(congrFun ek (nm n)).symm.trans hk;obtain ⟨kd,h1,h2,h3⟩:=fK hk;refine hn ?_;rcases h3 with ⟨h3,h4,U⟩ | h3
  ·refine cr fun hn=>(gU (R.cel n d q2 h4) fun c v c1 c2=> ?_);exact hn ⟨c,v,(hf _ (h3▸h1)).trans c1,c2⟩
  ·have:=aG.mp (ar (al so)) _ h1;exact absurd h3.symm (bne_iff_ne.mp this)
theorem oG {s:Shared} {ifs:List DE} {Q X:KV} {K:Bool->Shared->Prop} {E:Value->Shared->Prop} (hi:∀t∈ifs,gc T TB Γ lv nf t) (hl:ifs.length<=1) (hA:Ac T A C lv) (ok:okEs C.fn nf C.env.kindOf ifs=true) (R:Rl T C H Y s.heap) (q:evB TB Γ true ifs H Y Q X) (k:Kb T Y s Q K) (kx:Kx T C Y s X E):wpAny (model T.prog T.w) A (forIn (DE.toEs ifs) true fun c r=>if r=true then do let ok <-isTrue c C.env (eval c C.env);pure (ForInStep.yield ok) else pure (ForInStep.yield r)) K E s:=by
 cases ifs with
 | nil=>exact wpAny_tests_nil (k (.bool true) Y s.heap s.toks (.refl R.st) q)
 | cons t r=>
  cases r with
  | nil=>
   refine wpAny_tests_one (hi t (.head _) hA (al ok) R q (fun d Jo HZ Ia IW Iw=>bu (bH Iw) fun b e q1=> ?_) kx);rw [e]
   cases b with
   | true=>exact k (.bool true) _ _ Ia IW q1
   | false=>exact k (.bool false) _ _ Ia IW q1
  | cons=>exact absurd (Nat.le_of_succ_le_succ hl) (Nat.not_succ_le_zero _)
structure BG (T:cK) (C:Cx) (Jn:be) (HY:Heap) (W:Addr->Prop) (c:Cd) (S:Nat->be->Heap->Prop) (i:Nat) (H:bv) (Y:be) (h:Heap):Prop where
 rel:Rl T C H Y h
 to:To T (fun a=>W a\/a=C.env.locals) Jn HY Y h
 it:S i Y h
 sd:cb c Y
theorem kj {o:O} (sd:cb c Y) (ne:∀p,c=some p->p.1≠D):cb c (Y.set D o):=by
 cases c with
 | none=>trivial
 | some p=>exact (be.set_ne Y o (ne p rfl)).trans sd
theorem Ce {o:Obj} {es:Array DictEntry} {n:Nat} (d:o.data= .dict es n):eE o.data=false:=by rw [d];rfl
theorem wM {n:Nat}:(∀t v H H',dT t v H=some H'->n∉gj t->H' n=H n)/\∀l vs H H',bindTs l vs H=some H'->n∉namesTs l->H' n=H n:=
 TT.both (fun c i p v H H' h hn=>bW h▸bv.set_ne _ _ fun e=>hn (e▸ .head _)) (fun l p ih v H H' h hn=>bu (aK.mp h) fun vs U h=>ih vs H H' h hn) (fun vs H H' h U=>congrFun (dZ h).2.symm n)
  fun t l h1 h2 vs H H' h hn=>ov (fD h) fun v r Ji U q1 q2=>(h2 r Ji H' q2 fun q=>hn (List.mem_append_right _ q)).trans (h1 v H Ji q1 fun q=>hn (List.mem_append_left _ q))
theorem xd {H:bv} (n:Nat) (v:V) (e:i6 tg H n=some v):n∉gj tg:=fun q=>by
 delta i6 at e;rw [if_pos q] at e;exact bZ e
theorem wf {s:Shared} {items:List V} {I:Addr} {S:Nat->be->Heap->Prop} {RR:Result->Shared->Prop} (it:It T tg I W items c S) (hA:Ac T A C lv) (hb:C.fn=false) (ne:∀p,c=some p->p.1≠D) {elt:DE} {ifs:List DE} (he:SE T TB Γ lv nf elt) (hi:∀t∈ifs,gc T TB Γ lv nf t) (hl:ifs.length<=1) (okt:tD C.env.kindOf false tg=true) (oke:fe false nf C.env.kindOf elt=true) (oki:okEs false nf C.env.kindOf ifs=true) {ifsK eltK:bv->be->KV->Prop} (hI:∀{H Y Q},ifsK H Y Q->evB TB Γ true ifs H Y Q fun U U=>False) (hE:∀{H Y Q},eltK H Y Q->dO TB Γ elt H Y Q fun U U=>False) {QL:be->Prop} {iter:Expr} {pos:Pos} (hW:∀a,W a->HY.get? a=none) (hR:∀H' Y' h' h'' tk,BG T C Jn HY W c S items.length H' Y' h'->(∀b o,¬W b->h'.get? b=some o->h''.get? b=some o)->QL Y'->RR (.ok .next) (put s h'' tk)) (inn:∀n v,H n=some v->n∉gj tg) (inv:BG T C Jn HY W c S 0 H Y s.heap) (q:dQ ifsK eltK tg c D items H Y QL):codeAny (model T.prog T.w) A (.compLoop (.ListComp elt.toE [⟨tg.toE,iter,DE.toEs ifs,0⟩] sc pos) 0 (.ref I) (.ref D) C.env) RR s:=by
 refine qs (fun n s'=>∃i Y' h' tk,s'=put s h' tk/\BG T C Jn HY W c S i H Y' h'/\n=items.length - i/\i<=items.length/\
  dQ ifsK eltK tg c D (items.drop i) H Y' QL) ?_ (items.length - 0) ⟨0,Y,s.heap,s.toks,rfl,inv,rfl,aX _,q⟩
 clear q inv;intro n s' z2;refine cr fun hn=> ?_;obtain ⟨i,Y',h',tk,rfl,inv,rfl,hle,q⟩:=z2;refine hn ?_;have okt:tD C.env.kindOf C.fn tg=true:=by rw [hb];exact okt
 have oke:fe C.fn nf C.env.kindOf elt=true:=by rw [hb];exact oke
 have oki:okEs C.fn nf C.env.kindOf ifs=true:=by rw [hb];exact oki
 have lit:∀{Y h H},Rl T C H Y h->∀a o,hH C a->h.get? a=some o->eE o.data=false:=fun R a o l e=>by
  rcases l with rfl | ⟨l,U⟩
  ·obtain ⟨m,⟨o',es,ep,e1,e2,U⟩,U⟩:=R.loc;rw [e] at e1;(replace e1:=bW e1;subst e1);exact Ce e2
  ·rw [hb] at l;exact cR l
 have up2:∀{Y h Y' h'},To T (hH C) Y h Y' h'->To T (fun a=>W a\/a=C.env.locals) Y h Y' h':=fun t=>t.drop fun U U U q=>q.elim .inr fun q=>absurd q.1 (by rw [hb];decide)
 by_cases hlt:i<items.length
 ·have hx:items[i]? =some items[i]:=an hlt;rw [List.drop_eq_getElem_cons hlt] at q;generalize items[i]=xi at hx q;refine cr fun hn=> ?_;clear hle pos iter;refine bu (bH q) fun Ji hb1 q=>(hn ?_);have back:∀{Y h},Rl T C Ji Y h->Rl T C H Y h:=fun R=>R.freeze (.refl _) fun n v e=>⟨v,(wM.1 _ _ _ _ hb1 (inn n v e)).trans e, .refl _ _ v⟩;refine it.next hA.handled inv.rel.st hx inv.it (fun v IK hgo=>hgo fun HZ IQ IW Ig IG I7=> ?_);have G1:=inv.rel.to IW (it.hid inv.it);refine eP hA okt G1 I7 hb1 (fun H0 IR IZ G2=> ?_);have IH:=it.keep IG IZ (lit G1) inv.sd;have G7:=(inv.to.trans ((fun t=>t.drop fun U U U q=> .inl q:∀{Y h Y' h'},To T W Y h Y' h'->To T (fun a=>W a\/a=C.env.locals) Y h Y' h') IW)).trans (up2 IZ);refine oG (s:=put s H0 IR) hi hl hA oki G2 (hI q) (fun d Jq H1 IS I0 Iy=> ?_) (fun U U U U U U U x=>x.elim);refine bu (bH Iy) fun b e q3=> ?_;rw [e];clear Iy e oki okt
  cases b with
  | false=>
   have IC:=q3.1;exact ⟨items.length - (i+1),Nat.sub_lt_sub_left hlt (Nat.lt_succ_self i),i+1,Jq,H1,IS,rfl,⟨back (G2.to0 I0),G7.trans I0.up,it.keep IH I0 (fun U U q=>q.elim) IC,IC⟩,rfl,hlt,(q3.2)⟩
  | true=>
   refine he (s:=put s H1 IS) hA oke (G2.to0 I0) (hE q3) (fun y dy Jr H2 IT I2 vy Iz=> ?_) (fun U U U U U U U x=>x.elim);refine gv fun Q1z E1z hQ1z hE1z=>(cr fun hn=> ?_);refine fI Iz fun ID y41=>(gw y41 fun acc eD lim IA=> ?_);have I1:=I0.trans I2;have G4:=G2.to0 I1;obtain ⟨U,oD,gD,vs,nn,rfl,vD⟩:=G4.st.sto _ _ eD;refine hn (wpAny_list_append_plain ⟨nn,gD⟩ (fun H3 HG HP=> ?_) (by rw [aI,vD.length];delta sizeLine;exact a6 ‹_›));refine dU HG fun n' e5=> ?_;have I3:=To.upd (L:=Nl) (d':= .list (acc++[dy])) G4.st eD (fun h=>nomatch h) (fun b o hb y=>HP.extBut b o hb y) e5 ⟨vs++[y],n',by rw [List.push_toArray],vD.append (.one vy)⟩;have IE:cb c (Jr.set D (.list (acc++[dy]))):=kj ID ne;exact hQ1z _ _ (⟨items.length - (i+1),Nat.sub_lt_sub_left hlt (Nat.lt_succ_self i),i+1,_,H3,IT,rfl,⟨back (G4.to0 I3),(G7.trans I1.up).trans I3.up,it.keep (it.keep IH I1 (fun U U q=>q.elim) ID) I3 (fun U U q=>q.elim) IE,IE⟩,rfl,hlt,IA⟩)
 ·have hi':i=items.length:=Nat.le_antisymm hle (Nat.le_of_not_lt hlt);subst hi';rw [List.drop_length] at q;exact it.done hA.handled inv.rel.st inv.it (fun HZ IQ Ia=>hR H Y' h' HZ IQ inv Ia q)
theorem ll (hA:Ac T A C lv) (hf:C.fn=true) (so:D6 C.env.kindOf tg sc=true):∀x∈sc.names,x.2= .free->(C.env.cells.lookup x.1).isSome=true:=fun x hx h=>
 hA.cin hf _ (eq_of_beq (orN (aG.mp (al (ar so)) x hx) h))
theorem iz {k:cO} (sk:SK) (srcs:List DE) (ps:List Pos) (h3:vq k sk srcs.length=true) (env:Env) (x:Value):foldedSetIterable (pS sk (DE.toEs srcs) ps) env x=pure x:=by
 cases sk with
 | plain=>
  refine dU (List.length_eq_one_iff.mp (eq_of_beq h3)) fun e q=>bi q ?_
  cases e<;>first | rfl | (rename_i sk _ _ _ _ _;cases sk<;>rfl)
 | _=>rfl
structure GD (T:cK) (Y:be) (h:Heap) (L:Addr) (Y':be) (h':Heap):Prop where
 to:To T Nl Y h Y' h'
 ns:∃m,h'.Ns L m
 off:Y' L=none
 lo:T.lo<=L
 new:h.get? L=none
theorem Ns.nv {m:Str->Option Value} {o:Obj} (n:h.Ns L m) (e:h.get? L=some o):¬cN o:=by
 refine cr fun hn=> ?_;obtain ⟨o',es,ep,e1,e2,U⟩:=n;refine hn ?_;rw [e] at e1;(replace e1:=bW e1;subst e1);exact gg e2
theorem iS (hs:Heap.SameBut L h h') (lo:T.lo<=L) (ns:∃m,h.Ns L m) (off:Y L=none):iY T (· =L) Y h Y h':=
 ⟨fun a o n e=>hs.extBut a o n e,fun a o w n e=>by subst w;exact Ns.nv ns.choose_spec e,fun a w=>w▸lo,fun a w=>w▸off,fun U U e=>e⟩
theorem mi (KO:cc T TB Kf) {mu:Bool} {elt:DE} {sk:SK} {srcs:List DE} {ps:List Pos} {ifs:List DE} {p:Pos} {s:Shared} {Q X:KV} {E:Value->Shared->Prop} {RR:Value->Addr->Result->Shared->Prop} (hs:yT T TB Γ lv nf srcs) (h1:∀e∈srcs,SE T TB Γ lv nf e) (he:SE T TB Γ lv nf elt) (hi:∀t∈ifs,gc T TB Γ lv nf t) (hA:Ac T A C lv) (ok:fe C.fn nf C.env.kindOf (.comp mu elt tg sk srcs ps ifs sc p)=true) (R:Rl T C H Y s.heap) (q:dO TB Γ (.comp mu elt tg sk srcs ps ifs sc p) H Y Q X) (kx:Kx T C Y s X E) (c2:∀n,(n,NameKind.free)∈sc.names->cl.lookup n=C.env.cells.lookup n) (c3:∀x∈cl,C.env.cells.lookup x.1=some x.2) (hRR:∀D L d Y' h' tk,GD T Y s.heap L Y' h'->VR (G Y' h') d (.ref D)->Q d Y'->RR (.ref D) L (.ok .next) (put s h' tk)):wpAny (model T.prog T.w) A (eval (pS sk (DE.toEs srcs) ps) C.env) (fun x IK=>wpAny (model T.prog T.w) A (pyIter x) (fun it IL=>wpAny (model T.prog T.w) A (newList []) (fun acc IM=> wpAny (model T.prog T.w) A (newFunctionEnv sc C.env.globals cl [] C.env.qual none .none (some C.env)) (fun cenv IN=> codeAny (model T.prog T.w) A (.compStart (.ListComp elt.toE [⟨tg.toE,pS sk (DE.toEs srcs) ps,DE.toEs ifs,0⟩] sc p) 0 it acc {cenv with scope:=relabel sc C.env}) (RR acc cenv.locals) IN) E IM) E IL) E IK) E s:=by
 have o4:=al (al (ar (ar ok)));have o5:=ar (al (ar (ar ok)));have hkind:sc.kind= .function:=eq_of_beq (al (al o4));refine ms KO hs h1 hA (ar (al ok)) (al (al (ar ok))) R q kx (fun vs ds Jo HZ Ia IW vrs Iw=> ?_);refine ma KO (F:=fun items c Jp=>∀D,Jp D=none->dQ (fun H' Y' Q'=>evB TB Γ true ifs H' Y' Q' (fun U U=>False)) (fun H' Y' Q'=>dO TB Γ elt H' Y' Q' (fun U U=>False)) tg c D items (i6 tg H) (Jp.set D (.list [])) (fun Jq=>kK mu D (unhid c Jq) Q)) (ar (al (ar ok))) IW.st vrs Iw (fun items I W c S Jp H0 Ib IZ it IH hW sd Ix=> ?_);refine wpAny_newObj_type (wpAny_newFunctionEnv (fun y hy=>bne_iff_ne.mp (aG.mp (ar (al o4)) y hy):∀y∈sc.names,y.2≠ .cell) (fun y hy=>fh hy) (fun H1 hns hsb=> ?_) hkind);have D0:Jp H0.objs.size=none:=IZ.st.free (bB (av _));have I0:=To.alloc (L:=Nl) (d:= .list []) IZ.st (bA _ _) (av _) (aF _ rfl) ⟨[],0,rfl,rfl⟩;generalize H0.push {cls:= .type "list",data:= .seq ([]:List Value).toArray}=GY at hns hsb I0 ⊢;have I2:=To.grow (L:=Nl) I0.st (fun b o e=>hsb.extBut b o (Nat.ne_of_lt (Heap.lt_size e)) (aW _ e):dS GY H1);have L0:=bB (h:=GY) (av _);have Lf:=To.new (IZ.trans I0) L0;have ne:∀p,c=some p->p.1≠H0.objs.size:=fun p e r=>by subst e;exact bS (sd) ((aB Jp r).trans D0)
 have IC:=kj (o:= .list []) sd ne;have hlo:T.lo<=GY.objs.size:=T.size I0.st.top;have hA':=hA.blk (cl:=cl) hkind c3 hlo;have ek:(compEnvC sc cl GY.objs.size C.env).kindOf=fu C.env.kindOf sc:=lr hA.kind;have II:=it.keep IH (I0.trans I2) (fun U U q=>q.elim) IC
 have inv:BG T (C.blk (compEnvC sc cl GY.objs.size C.env)) Jo HZ W c S 0 (i6 tg H) (Jp.set H0.objs.size (.list [])) H1:=
  ⟨(((R.to0 IW).to0 IZ).to0 (I0.trans I2)).blk hA ⟨_,hns⟩ (I0.st.free L0) c3 c2 o4 o5,(IZ.trans (I0.trans I2)).up,II,IC⟩
 have loop:codeAny (model T.prog T.w) A (.compLoop (.ListComp elt.toE [⟨tg.toE,pS sk (DE.toEs srcs) ps,DE.toEs ifs,0⟩] sc p) 0 (.ref I) (.ref H0.objs.size) (compEnvC sc cl GY.objs.size C.env)) (RR (.ref H0.objs.size) GY.objs.size) (put s H1 (Ib+([]:List (Str×Value)).length)):=
  wf (s:=put s H1 (Ib+([]:List (Str×Value)).length)) it hA' rfl ne he hi (iC (ar (ar (ar (ar (ar ok)))))) (ek▸o5) (ek▸al (ar (ar (ar ok)))) (ek▸al (ar (ar (ar (ar ok))))) id id hW (fun H' Y' h' h'' tk inv Ia qE=>by
   clear ok ek hi he ne hA' IC I2 o5;refine bu (inv.rel.loc) fun m y1 U=>(ov y1 fun o es ep e1 e2 e3=> ?_);have ls:=it.less inv.it Ia;have I3:=(ls.to inv.to hW).drop (L':=Nl) fun a o e w=>w.elim (fun w=>bS e (hW a w)) fun w=>by subst w;exact bS e Lf
   have t:=IW.trans I3;have off:=ls.off inv.rel.own;have ns:∃m,h''.Ns GY.objs.size m:=⟨m,⟨o,es,ep,Ia _ _ ((it.hid inv.it).not inv.rel.own e1 (cy e2)) e1,e2,e3⟩⟩;have new:=IW.new Lf
   cases mu with
   | true=>exact hRR _ GY.objs.size (.ref _) _ h'' tk ⟨t,ns,off,hlo,new⟩ rfl qE
   | false=>
    refine bu qE fun acc eD qE=> ?_;have z:=ck.del (unhid c Y') H0.objs.size;exact hRR _ GY.objs.size (.lst acc) _ h'' tk ⟨t.trans (To.freeze I3.st z),ns,gf z off,hlo,new⟩ (Fz.vr I3.st z (d:= .ref _) (.inr ⟨_,acc,rfl,eD,if_pos rfl,Fzs.refl _ _ acc⟩) rfl) qE) xd inv (Ix _ D0)
 exact codeAny_compStart_list loop (it.self II loop)
theorem Dw (KO:cc T TB Kf) {mu:Bool} {elt:DE} {sk:SK} {srcs:List DE} {ps:List Pos} {ifs:List DE} {p:Pos} (hs:yT T TB Γ lv nf srcs) (h1:∀e∈srcs,SE T TB Γ lv nf e) (he:SE T TB Γ lv nf elt) (hi:∀t∈ifs,gc T TB Γ lv nf t):SE T TB Γ lv nf (.comp mu elt tg sk srcs ps ifs sc p):=fun {A C H Y s Q X K E} hA ok R q k kx=>by
 have o4:=al (al (ar (ar ok)));refine gw (lg sc C.env (ll hA (al (al ok)) o4)) fun cl c1 c2 c3=>((wpAny_comprehension_free rfl (iz sk srcs ps (al (al (ar ok))) C.env) c1 (eq_of_beq (al (al o4))) (fun x hx h=>eq_of_beq (orN (aG.mp (ar (ar (ar o4))) x hx) h)) ?_))
 exact mi KO hs h1 he hi hA ok R q kx c2 c3 fun D L d Y' h' tk B vr q=>⟨_,B.ns.choose_spec,fun h'' hs''=>by
  have ls:=iS hs'' B.lo B.ns B.off;exact k _ d _ h'' tk (ls.to B.to fun a w=>w▸B.new) (vr.mono ls.gle) q⟩
end
section
variable {T:cK} {TB:eT} {Kf:Frag} {Γ:dW} {lv nf:Nat}
noncomputable def SX (T:cK) (TB:eT) (Γ:dW) (lv nf:Nat) (d:DE):Prop:=SE T TB Γ lv nf d/\gc T TB Γ lv nf d
structure SL (T:cK) (TB:eT) (Γ:dW) (lv nf:Nat) (xs:List DE):Prop where
 all:∀e∈xs,SX T TB Γ lv nf e
 sp:yT T TB Γ lv nf xs
 vs:E4 T TB Γ lv nf xs
 bs:SB T TB Γ lv nf xs
theorem Ao:SL T TB Γ lv nf []:=⟨fun U h=>(fh h),Av,FA,CF⟩
theorem uB {x:DE} {xs:List DE} (hx:SX T TB Γ lv nf x) (h:SL T TB Γ lv nf xs):SL T TB Γ lv nf (x::xs):=
 ⟨aa.mpr ⟨hx,h.all⟩,r7 hx.1 h.sp,DT hx.1 h.vs,DK hx.2 h.bs⟩
theorem fc {x:DE} (hx:SE T TB Γ lv nf x) (he:∀(env:Env) (whole:Sem Value),isTrue x.toE env whole=(do let v <-whole;standAt x.toE.pos;holding [v] (truthy v))):SX T TB Γ lv nf x:=⟨hx,AJ hx he⟩
variable (KO:cc T TB Kf) (hnf:nf<=56) (CK:∀i,i<nf->fF T Γ lv i)
include KO hnf CK
theorem sx:∀d:DE,SX T TB Γ lv nf d:=DE.rec (motive_1:=SX T TB Γ lv nf) (motive_2:=SL T TB Γ lv nf) (motive_3:=EB T TB Γ lv nf)
 (fun v p=>fc (Fb v p) fun U U=>rfl)
 (fun c n p=>fc (Gj c n p) fun U U=>rfl)
 (fun g p=>fc (Ei KO g p) fun U U=>rfl)
 (fun m op l r p hl hr=>fc (E3 hl.1 hr.1) fun U U=>rfl)
 (fun b x p h=>b.rec (motive:=fun b=>SX T TB Γ lv nf (.un b x p)) ⟨Dy h.1,GC h.2⟩ (fc (Dy h.1) fun U U=>rfl))
 (fun a xs p h=>⟨Fa h.vs,FZ h.bs⟩)
 (fun op l r p hl hr=>⟨GO KO hl.1 hr.1,Fe KO hl.1 hr.1⟩)
 (fun l m r p hl hm hr=>⟨Ga hl.1 hm.1 hr.1,F9 hl.1 hm.1 hr.1⟩)
 (fun t b o p ht hb ho=>⟨GH ht.2 hb.1 ho.1,FM ht.2 hb.2 ho.2⟩)
 (fun f args fp p h=>fc (Ea KO hnf CK h.sp) fun U U=>rfl)
 (fun m o args ap p ho h=>fc (DW KO hnf CK ho.1 h.sp) fun U U=>rfl)
 (fun o n p ho=>fc (Ev KO hnf ho.1) fun U U=>rfl)
 (fun o i p ho hi=>fc (Fs KO ho.1 hi.1) fun U U=>rfl)
 (fun i np p hi=>fc (F0 KO hi.1) fun U U=>rfl)
 (fun m o l u s sp p ho hl hu hs=>fc (Gc ho.1 hl hu hs) fun U U=>rfl)
 (fun xs p h=>fc (F5 h.sp) fun U U=>rfl)
 (fun m xs p h=>fc (F1 h.sp) fun U U=>rfl)
 (fun p=>fc DV fun U U=>rfl)
 (fun mu elt tg sk srcs ps ifs sc p he hs hi=>fc (Dw KO hs.sp (fun e h=>(hs.all e h).1) he.1 (fun t h=>(hi.all t h).2)) fun U U=>rfl)
 Ao (fun x xs=>uB) Bj fun x h=>Bz h.1
theorem sl (xs:List DE):SL T TB Γ lv nf xs:=List.rec Ao (fun x xs=>uB (sx KO hnf CK x)) xs
end
structure hU (T:cK) (B:Addr->Prop) (Y:be) (h h':Heap):Prop where
 kp:∀b o,¬B b->h.get? b=some o->h'.get? b=some o\/(Y b=none/\T.lo<=b/\(∃es n,o.data= .dict es n)/\∃sl,h'.get? b=some {o with slots:=sl})
 out:∀b,B b->Y b=none/\T.lo<=b/\∀o,h.get? b=some o->¬cN o/\∃vs,o.data= .fields vs
section
variable {T:cK} {C:Cx} {H:bv} {Y Jn:be} {h h' HY:Heap} {B L:Addr->Prop} {A:Around} {lv:Nat} {s:Shared} {E:Value->Shared->Prop} {M:Model}
theorem hU.same (x:hU T B Y h h') {b:Addr} {o:Obj} (e:h.get? b=some o) (n:¬B b) (d:∀es n,o.data≠ .dict es n):h'.get? b=some o:=
 (x.kp b o n e).elim id fun ⟨_,_,⟨es,n,q⟩,_⟩=>absurd q (d es n)
theorem hU.gle (x:hU T B Y h h'):jq (G Y h) (G Y h'):=fun a o g=>⟨x.same g.1 (fun b=>((x.out a b).2.2 o g.1).1 g.2.2) g.2.2.nd,g.2⟩
theorem hU.sto (x:hU T B Y h h') {b:Addr} {o:Obj} {d:O} (e:h.get? b=some o) (n:Y b=some d):h'.get? b=some o:=
 (x.kp b o (fun q=>bS n (x.out b q).1) e).elim id fun q=>bS n q.1
theorem hU.st (x:hU T B Y h h') (s:St T Y h):St T Y h':=
 ⟨T.keep s.top fun a o l e=>(x.kp a o (fun q=>absurd l (Nat.not_lt.mpr (x.out a q).2.1)) e).elim id fun q=>absurd l (Nat.not_lt.mpr q.2.1),
  fun a d e=>let ⟨l,o,h1,h2⟩:=s.sto a d e;⟨l,o,x.sto h1 e,h2.mono x.gle⟩⟩
theorem hU.dict (x:hU T B Y h h') {b:Addr} {o:Obj} {es:Array DictEntry} {n:Nat} (e:h.get? b=some o) (d:o.data= .dict es n):∃o',h'.get? b=some o'/\o'.data= .dict es n/\o'.cls=o.cls:=
 (x.kp b o (fun q=>let ⟨_,vs,r⟩:=(x.out b q).2.2 o e;cy d vs r) e).elim (fun q=>⟨o,q,d,rfl⟩) fun ⟨_,_,_,sl,q⟩=>⟨_,q,d,rfl⟩
theorem hU.rl (x:hU T B Y h h') (R:Rl T C H Y h):Rl T C H Y h':=by
 refine bu (R.loc) fun m y101 hl=>(ov y101 fun o es ep e d r=> ?_);have cell:∀{c v},h.IsCell c v->h'.IsCell c v:=fun {c v} z=>bu z fun o e d=>⟨o,x.same e (fun q=>let ⟨_,vs,r⟩:=(x.out c q).2.2 o e;ir d vs r) (eA d),d⟩;refine ⟨x.st R.st,⟨m,gw (x.dict e d) fun o' e' d' U=>⟨o',es,ep,e',d',r⟩,fun n d e=>⟨(hl n d e).1,fun hk=>bu ((hl n d e).2 hk) fun v h1 h2=>⟨v,h1,h2.mono x.gle⟩⟩⟩,fun n d e hk=> ?_,fun y c hc=>let ⟨n,v,hv⟩:=R.cells y c hc;⟨n,v,cell hv⟩,R.own,fun e he=> ?_⟩
 ·refine cr fun hn=>(eJ (R.cel n d e hk) fun c v h1 h2 h3=> ?_);exact hn ⟨c,v,h1,cell h2,h3.mono x.gle⟩
 ·refine cr fun hn=> ?_;obtain ⟨f1,F,o,f2,f3,f4,f5,es,n,f6⟩:=R.fr e he;exact gw (x.dict f5 f6) fun o' e' d' U=>(hn ⟨f1,F,o',f2,f3,f4,e',es,n,d'⟩)
theorem hU.to (x:hU T B Y h h') (t:To T L Jn HY Y h) (nb:∀b,B b->HY.get? b=none):To T L Jn HY Y h':=by
 refine ⟨x.st t.st,fun a o e=> ?_,t.dom⟩;refine bu (t.keep a o e) fun o' e' k=> ?_;rcases x.kp a o' (fun q=>bS e (nb a q)) e' with q | ⟨U,q1,q2,sl,q⟩
 ·exact ⟨o',q,k⟩
 ·exact ⟨_,q,fun n l=>(k n l).trans (.inr ⟨q1,q2,sl,rfl⟩)⟩
noncomputable def Cx.frames (C:Cx):List Addr:=C.envs.filterMap (·.frame)
theorem wT (R:Rl T C H Y h) {b:Addr} (hb:b∈C.frames):T.lo<=b/\Y b=none/\∃o,h.get? b=some o/\∃es n,o.data= .dict es n:=by
 refine bu (List.mem_filterMap.mp hb) fun e he hfr=>(fI (R.fr e he) fun U y11=> ?_);refine qj y11 fun L o h1 h2 h3 h4=> ?_;rw [hfr] at h1;(replace h1:=bW h1;subst h1);exact ⟨h2,h3,o,h4⟩
theorem qN (k:∀b∈C.frames,∃o,h.get? b=some o/\∃es n,o.data= .dict es n) (R:Rl T C H Jn HY):h.FunFrames (default:Heap) C.envs:=by
 have key:∀l:List Env,(∀e∈l,e∈C.envs)->h.FunFrames (default:Heap) l:=fun l hl=>by
  induction l with
  | nil=>trivial
  | cons e l ih=>
   obtain ⟨h1,L,U,h2,U⟩:=R.fr e (hl e (.head _));obtain ⟨o,e1,es,n,d⟩:=k L (List.mem_filterMap.mpr ⟨e,hl e (.head _),h2⟩);exact (⟨h1,⟨L,o,h2,Heap.get?_none_of_le (aX _),e1,cy d⟩,ih fun e he=>hl e (.tail _ he)⟩)
 exact key _ fun U h=>h
theorem rT {o:Obj} {c:Value} (hc:o.cls=c) (hn:c≠ .type "tuple" /\c≠ .type "list" /\c≠ .type "range"):¬cN o:=fun v=>by
 rcases v.1 with q | q | q<;>rw [hc] at q
 ·exact hn.1 q
 ·exact hn.2.1 q
 ·exact hn.2.2 q
theorem iG {e:Value} {d:V} {Q:Unit->Shared->Prop} (hf:C.fn=true) (hA:Ac T A C lv) (x:Xc T C HY Y e d s.heap) (t:To T L Jn HY Y s.heap) (k:∀h' (x':Xc T C HY Y e d h'),x'.fl=C.env.frame.map rawInt->To T L Jn HY Y h'->Q () {s with heap:=h'}):wpAny M A (noteFrame e C.env) Q E s:=by
 rw [x.he];have hfr:=hA.frame hf;obtain ⟨r,envs⟩:=hA.envs hf;have fr:=fun b hb=>wT x.rel (b:=b) hb
 have key:∀(HZ:Heap) (head:Value) (hadNext:Bool) (B:Addr->Prop),(∀b,B b->b≠x.a/\HY.get? b=none/\Y b=none/\T.lo<=b/\∀o,s.heap.get? b=some o->¬cN o/\∃vs,o.data= .fields vs)->(∀b o,¬B b->s.heap.get? b=some o->HZ.get? b=some o)->HZ.objs.size=s.heap.objs.size->
   wpAny M A (do let fo <-frameOf C.env;let pl <-entryPlaceOf C.env.locals hadNext;let b <-EntryCells.newEntry head fo .none (rawInt C.env.locals) .none pl;setField (.ref x.a) 1 b) Q E {s with heap:=HZ}:=by
  intro HZ head hadNext B hB Ia HL;have Ho:HZ.FunFrames (default:Heap) C.envs:=qN (fun b hb=>let ⟨_,_,o,e,d⟩:=fr b hb;⟨o,Ia b o ((fun b o e ⟨es,n,d⟩ q=>by obtain ⟨U,vs,r⟩:=(hB b q).2.2.2.2 o e;exact cy d vs r:∀b o,s.heap.get? b=some o->(∃es n,o.data= .dict es n)->¬B b) b o e d) e,d⟩) x.rel;refine ae (wpAny_frameOf_fun (base:=(default:Heap)) (by (refine ak (hA.frames ..) ?_;rw [envs])) (envs▸Ho) hfr fun H0 HM=> ?_);rw [<-envs] at HM;refine ae (wpAny_entryPlaceOf fun pl hpl=> ?_);refine ae (wpAny_newObj_type ?_ (hpl.sizeOk5 _ _ _ _ _));have Hb:H0.get? x.a=some x.oe:=(HM.2.1 x.a (fun q=>by obtain ⟨U,U,o,e,es,n,d⟩:=fr _ q;exact cy d x.vs ((Option.some.inj (e.symm.trans x.ga))▸x.da):x.a∉C.frames)).trans (Ia x.a x.oe (fun q=>(hB x.a q).1 rfl) x.ga);have hT:H0.objs.size≠x.a:=Nat.ne_of_gt (Heap.lt_size Hb);generalize hto:({cls:= .type "traceback",dict:=none,data:= .fields ([head, .ref C.env.locals, .none,rawInt C.env.locals, .none]++(if pl.isEmpty then List.replicate 6 Value.none else pl)).toArray}:Obj)=to;have Hc:=aW (h:=H0) to Hb;refine wpAny_setField Hc x.da (by rw [x.sz];decide) ?_;have Hv:=Obj.data_mapFields x.da (·.setIfInBounds 1 (Value.ref H0.objs.size));have He:=Heap.get?_update_self (Obj.mapFields (·.setIfInBounds 1 (Value.ref H0.objs.size))) Hc (Obj.isFreed_of_fields Hv);generalize HE:(H0.push to).update x.a (Obj.mapFields (·.setIfInBounds 1 (Value.ref H0.objs.size)))=H2 at He ⊢;have oth:∀b o,b≠x.a->H0.get? b=some o->H2.get? b=some o:=fun b o hb e=>by (rw [<-HE];refine ak (Heap.get?_update_other _ _ (aS hb)) ?_);exact aW _ e
  have bp:hU T (fun b=>B b\/b=x.a) Y s.heap H2:=by
   refine ⟨fun b o n e=> ?_,fun b w=>w.elim (fun q=>(hB b q).2.2) fun q=>q▸⟨x.out,x.alo,fun o e=>(Option.some.inj (x.ga.symm.trans e))▸⟨(rT x.ca (by decide)),_,x.da⟩⟩⟩;have n1:b≠x.a:=fun q=>n (.inr q);have Hh:=Ia b o (fun q=>n (.inl q)) e
   by_cases q:b∈C.frames
   ·refine cr fun hn=>(lL (fr b q) fun q1 q2 y31=> ?_);refine bu y31 fun o' q3 q4=> ?_;rw [e] at q3;(replace q3:=bW q3;subst q3);obtain ⟨sl,Hi⟩:=HM.2.2 b o Hh;exact hn (.inr ⟨q2,q1,q4,sl,oth b _ n1 Hi⟩)
   ·exact .inl (oth b o n1 ((HM.2.1 b q).trans Hh))
  have tz:s.heap.get? H0.objs.size=none:=bB (by rw [HM.1,HL];exact av _);refine gw (bp.dict x.gd x.dd) fun od' d1 d2 d3=> ?_;refine (k H2 {x with rel:=bp.rl x.rel,oe:=_,vs:=_,fl:=some (rawInt C.env.locals),ga:=He,ca:=(Obj.cls_mapFields _ _).trans x.ca,da:=Hv,di:= ?_,sz:=by (refine ak (Array.size_setIfInBounds ..) ?_;refine ak (x.sz ..) ?_;rfl),od:=od',gd:=d1,dd:=d2,cd:=d3.trans x.cd,val:=x.val.mono bp.gle,tb:= ?_} (show (C.env.frame.map rawInt)=some (rawInt C.env.locals) by rw [hfr];rfl).symm (bp.to t fun b w=>w.elim (fun q=>(hB b q).2.1) fun q=>q▸x.new))
  ·have:=x.di;have h3:=x.da;generalize x.oe=oe at this h3;obtain ⟨c,dd,dt,sl⟩:=oe;dsimp only at h3;subst h3;exact this
  ·refine ⟨H0.objs.size,to,_, ?_,(show T.lo<=H0.objs.size by rw [HM.1,HL];exact T.size x.rel.st.top),t.new tz,x.rel.st.free tz,(show H2.get? H0.objs.size=some to by (rw [<-HE];refine ak (Heap.get?_update_other _ _ (aS hT)) ?_);exact aF _ (show to.isFreed=false by rw [<-hto];rfl)),by rw [<-hto],by rw [<-hto], ?_⟩
   ·rw [Array.getElem?_setIfInBounds_self,if_pos (by rw [x.sz];decide)]
   ·rcases hpl with rfl | ⟨U,U,U,U,U,U,U,rfl⟩<;>rfl
 delta noteFrame;rw [hfr];have tb:=x.tb
 cases hfl:x.fl with
 | none=>
  rw [hfl] at tb;refine ae (wpAny_field x.ga x.da tb ?_);exact key s.heap .none false (fun U=>False) (fun U q=>q.elim) (fun U U U e=>e) rfl
 | some f=>
  rw [hfl] at tb;refine wG tb fun tb ot ts t1 t0 t2 y71=>(Dg y71 fun t3 t6 t7 t8 t9=> ?_);refine (ae (wpAny_field x.ga x.da t1 ?_));refine ae (wpAny_field t6 t8 t9 ?_)
  by_cases hq:f=rawInt C.env.locals
  ·rw [if_pos (by rw [hq];exact a9 _)];exact am (k s.heap x (by (refine ak hfl ?_;rw [hfr,hq]);rfl) t)
  ·refine nV (show ¬((f==rawInt C.env.locals)=true) from fun q=>hq (eq_of_beq q)) (ae (wpAny_setField t6 t8 ((Array.getElem?_eq_some_iff.mp t9).1) ?_))
   refine key _ (.ref tb) true (· =tb) (fun b q=>by
    subst q;refine ⟨fun q=> ?_,t2,t3,t0,fun o e=> ?_⟩
    ·have:=x.ga;rw [<-q,t6] at this;have:=(Option.some.inj this)▸t7;rw [x.ca] at this;contradiction
    ·rw [t6] at e;(replace e:=bW e;subst e);exact ⟨rT t7 (by decide),_,t8⟩)
    (fun b o hb e=>(Heap.get?_update_other _ _ (aS hb)).trans e) (Heap.size_update ..)
theorem eO {e:Value} {d:V} {fr:Option Addr} {Q:Unit->Shared->Prop} (x:Xc T C HY Y e d s.heap) (hp:x.fl≠none) (t:To T L Jn HY Y s.heap) (k:∀h' (x':Xc T C HY Y e d h'),x'.fl=some (fr.elim .none fun f=>rawInt f)->To T L Jn HY Y h'->Q () {s with heap:=h'}):wpAny M A (setFlight e fr) Q E s:=by
 rw [x.he];have tb:=x.tb
 cases hfl:x.fl with
 | none=>exact absurd hfl hp
 | some f=>
  rw [hfl] at tb;refine cr fun hn=>(wG tb fun tb ot ts t1 t0 t2 y1=> ?_);refine Dg y1 fun t3 t6 t7 t8 t9=>(hn ?_);have hs3:3<ts.size:=(Array.getElem?_eq_some_iff.mp t9).1;refine ae (wpAny_field x.ga x.da t1 ?_);refine wpAny_setField t6 t8 hs3 ?_;have hd:=Obj.data_mapFields t8 (·.setIfInBounds 3 (fr.elim Value.none fun f=>rawInt f));have self:=Heap.get?_update_self (Obj.mapFields (·.setIfInBounds 3 (fr.elim Value.none fun f=>rawInt f))) t6 (Obj.isFreed_of_fields hd);have other:∀b,b≠tb->(s.heap.update tb (Obj.mapFields (·.setIfInBounds 3 (fr.elim Value.none fun f=>rawInt f)))).get? b=s.heap.get? b:=fun b hb=>Heap.get?_update_other _ _ (aS hb);generalize s.heap.update tb (Obj.mapFields (·.setIfInBounds 3 (fr.elim Value.none fun f=>rawInt f)))=h' at self other ⊢;have bp:hU T (· =tb) Y s.heap h':=⟨fun b o n e=> .inl ((other b n).trans e),fun b q=>by subst q;exact ⟨t3,t0,fun o e=>by rw [t6] at e;(replace e:=bW e;subst e);exact ⟨rT t7 (by decide),_,t8⟩⟩⟩
  have ne:x.a≠tb:=fun q=>by
   have:=x.ga;rw [q,t6] at this;have:=(Option.some.inj this)▸t7;rw [x.ca] at this;contradiction
  refine cr fun hn=>(gw (bp.dict x.gd x.dd) fun od' d1 d2 d3=> ?_);refine hn (k h' {x with rel:=bp.rl x.rel,fl:=some (fr.elim .none fun f=>rawInt f),ga:=(other _ ne).trans x.ga,od:=od',gd:=d1,dd:=d2,cd:=d3.trans x.cd,val:=x.val.mono bp.gle,tb:= ?_} rfl (bp.to t fun b w=>w▸t2));exact ⟨tb,_,_,t1,t0,t2,t3,self,(Obj.cls_mapFields _ _).trans t7,hd,by rw [Array.getElem?_setIfInBounds_self,if_pos hs3]⟩
theorem vC {X:KV} (hf:C.fn=true) (hA:Ac T A C lv) (kx:Kx T C Y s X E):Kx T C Y s X (notedBy M A C.env (fun e s'=>cameBackBy M A C.env E e s')):=by
 intro e d Y' h' tk t zp1 hx;refine dU zp1 fun x U=>(iG (s:=put s h' tk) hf hA x t (fun HZ Ja Hh IW=> ?_));have hfr:=hA.frame hf;have tb:=Ja.tb;rw [hfr] at Hh;rw [Hh] at tb;refine e31 tb fun tb ot ts t2 U=> ?_;refine (ae ((fun h=>by rw [Ja.he];exact wpAny_field Ja.ga Ja.da t2 h:∀{Q:Value->Shared->Prop},Q (.ref tb) (put s HZ tk)->wpAny M A (field e 1) Q E (put s HZ tk)) ?_));exact eO Ja (by rw [Hh];exact fun q=>gq q) IW (fun H0 Jb Hi IZ=>kx _ _ _ H0 tk IZ ⟨Jb, .inr (.inr (by (refine ak Hi ?_;rw [hfr]);rfl))⟩ hx)
end
noncomputable def mn (xv:Value):Sem Flow:=do
 let e <-holding [] (excFromValue xv "exceptions must derive from BaseException")
 let e <-if <-isType xv then holding [e] (raisedFor xv e) else raisedInstance e
 setFlight e none
 raiseNew e
theorem rS {M:Model} {A:Around} {E:Value->Shared->Prop} {s:Shared} {env:Env} {x:Sem Value} {Q:Flow->Shared->Prop} (h:wpAny M A x (fun xv s'=>wpAny M A (mn xv) Q E s') E s):wpAny M A (raiseStmt env (some x) Option.none) Q E s:=by
 refine ae (wpAny_mono h (fun xv s' h'=> ?_) fun U U x=>x);exact ae (am h')
structure ju (T:cK):Prop where
 bad:∀{A:Around} {C:Cx} {H:bv} {Y:be} {s:Shared} {K E:Value->Shared->Prop} {v:Value} {d:V} {lv:Nat},C.fn=true->Ac T A C (lv+1)->Rl T C H Y s.heap->VR (G Y s.heap) d v->
  (∀e h' tk (x:Xc T C s.heap Y e d h'),x.fl=Option.none->To T Nl Y s.heap Y h'->K e (put s h' tk))->wpAny (model T.prog T.w) A (PySem.call (.ref 45) [v]) K E s
 thr:∀{A:Around} {C:Cx} {Y Jn:be} {s:Shared} {HY:Heap} {L:Addr->Prop} {Q:Flow->Shared->Prop} {E:Value->Shared->Prop} {e:Value} {d:V},A.handled=none->(x:Xc T C HY Y e d s.heap)->x.fl=Option.none->To T L Jn HY Y s.heap->
  (∀h' tk (x:Xc T C HY Y e d h'),x.fl=Option.none->To T L Jn HY Y h'->E e (put s h' tk))->wpAny (model T.prog T.w) A (mn e) Q E s
noncomputable def FlR (G:Wd):Fl->Flow->Prop
 | .next,f=>f= .next
 | .cont,f=>f= .cont
 | .ret d,f=>∃v,f= .ret v/\VR G d v
noncomputable def Kw (T:cK) (C:Cx) (Y:be) (s:Shared) (Q:KF) (K:Flow->Shared->Prop):Prop:=
 ∀fl f H' Y' h' tk,To T (hH C) Y s.heap Y' h'->Rl T C H' Y' h'->FlR (G Y' h') fl f->Q fl H' Y'->K f (put s h' tk)
noncomputable def SS (T:cK) (TB:eT) (Γ:dW) (lv nf:Nat) (d:DS):Prop:=∀{A:Around} {C:Cx} {H:bv} {Y:be} {s:Shared} {Q:KF} {X:KV} {K:Flow->Shared->Prop} {E:Value->Shared->Prop},C.fn=true->Ac T A C lv->okS nf C.env.kindOf d=true->
 Rl T C H Y s.heap->Gd TB Γ d H Y Q X->Kw T C Y s Q K->Kx T C Y s X E->wpAny (model T.prog T.w) A (exec d.toS C.env) K E s
noncomputable def AD (T:cK) (TB:eT) (Γ:dW) (lv nf:Nat) (d:List DS):Prop:=∀{A:Around} {C:Cx} {H:bv} {Y:be} {s:Shared} {Q:KF} {X:KV} {K:Flow->Shared->Prop} {E:Value->Shared->Prop},C.fn=true->Ac T A C lv->okSs nf C.env.kindOf d=true->
 Rl T C H Y s.heap->exDs TB Γ d H Y Q X->Kw T C Y s Q K->Kx T C Y s X E->wpAny (model T.prog T.w) A (execs (DS.toSs d) C.env) K E s
section
variable {T:cK} {TB:eT} {Kf:Frag} {Γ:dW} {lv nf:Nat} {C:Cx} {Y Jo Jp:be} {H:bv} {s:Shared} {h HZ H0:Heap} {Ia:Nat} {Q:KF} {K:Flow->Shared->Prop}
theorem Kw.after (k:Kw T C Y s Q K) (t:To T (hH C) Y s.heap Jo HZ):Kw T C Jo (put s HZ Ia) Q K:=fun fl f H' Y' h' tk t' R fr q=>k fl f H' Y' h' tk (t.trans t') R fr q
theorem Kw.nx (k:Kw T C Y s Q K) (t:To T Nl Y s.heap Jo HZ) (R:Rl T C H Y s.heap) (q:Q .next H Jo):K .next (put s HZ Ia):=k .next .next H Jo HZ Ia t.up (R.to0 t) rfl q
theorem sF:AD T TB Γ lv nf []:=fun {A C H Y s Q X K E} hf hA ok R q k kx=>wpAny_execs_nil (k .next .next H Y s.heap s.toks (.refl R.st) R rfl q)
theorem o9 {x:DS} {xs:List DS} (hx:SS T TB Γ lv nf x) (hxs:AD T TB Γ lv nf xs):AD T TB Γ lv nf (x::xs):=fun {A C H Y s Q X K E} hf hA ok R q k kx=>by
 refine wpAny_execs_cons (hx hf hA (al ok) R q (fun fl f Ji Jo HZ Ia IW G1 Hl Iw=> ?_) kx)
 cases fl with
 | next=>rw [show f= .next from Hl];exact hxs hf hA (ar ok) G1 Iw (k.after IW) (kx.after IW)
 | cont=>rw [show f= .cont from Hl];exact k .cont .cont _ _ _ Ia IW G1 rfl Iw
 | ret d=>refine bu Hl fun v y1 vr=> ?_;subst y1;exact k (.ret d) _ _ _ _ Ia IW G1 ⟨v,rfl,vr⟩ Iw
theorem o8 {e:DE} {t:Option Expr} {line:Nat} {env:Env} (h:mI e=false):swapsWith e.toE t line env=pure false:=by
 cases e<;>first | rfl | exact lN h
theorem DC {p:Pos}:SS T TB Γ lv nf (.cont p):=fun {A C H Y s Q X K E} hf hA ok R q k kx=>wpAny_Continue (k .cont .cont H Y s.heap s.toks (.refl R.st) R rfl q)
theorem Fw {e:DE} {p:Pos} (he:SE T TB Γ lv nf e):SS T TB Γ lv nf (.ret e p):=fun hf hA ok R q k kx=>
 wpAny_Return_some (he hA (by rw [hf];exact ok) R q (fun v d Jo HZ Ia IW vr Iw=>k (.ret d) _ _ _ _ Ia IW.up (R.to0 IW) ⟨v,rfl,vr⟩ Iw) kx)
theorem FW {t:DE} {b o:List DS} {p:Pos} (ht:gc T TB Γ lv nf t) (hb:AD T TB Γ lv nf b) (ho:AD T TB Γ lv nf o):SS T TB Γ lv nf (.ite t b o p):=fun {A C H Y s Q X K E} hf hA ok R q k kx=>by
 refine wpAny_If (ht hA (by rw [hf];exact al ok) R q (fun d Jo HZ Ia IW Iw=> ?_) kx);refine bu (bH Iw) fun c e Iw=> ?_;rw [e];clear e
 cases c with
 | true=>exact hb hf hA (al (ar ok)) (R.to0 IW) Iw (k.after IW.up) (kx.after0 IW)
 | false=>exact ho hf hA (ar (ar ok)) (R.to0 IW) Iw (k.after IW.up) (kx.after0 IW)
theorem rK (e:Expr) (p:Pos) (v:Value):dropValue e p v=pure .next\/dropValue e p v=dropValue (.Tuple [] 0 p) p v:=by
 cases e<;>first | exact .inl rfl | exact .inr (by kernel_rfl)
theorem A0 (e:Expr) (p:Pos) (v:Value):dropValue e p v=pure .next\/dropValue e p v=(do standAt p;let _ <-runValue (.builtin "proto.let_go" {});pure .next):=
 (rK e p v).elim .inl fun h=>by rw [h];cases v<;>first | exact .inl rfl | exact .inr rfl
theorem Ed {e:DE} {p:Pos} (he:SE T TB Γ lv nf e):SS T TB Γ lv nf (.expr e p):=fun {A C H Y s Q X K E} hf hA ok R q k kx=>by
 refine ae (wpAny_standAt ?_);rw [(show interactive C.env=false by delta interactive;rw [hA.kind];rfl),o8 ((aZ _).mp (ar ok)),pure_bind];refine ae (he hA (by rw [hf];exact al ok) R q (fun v d Jo HZ Ia IW vr Iw=> ?_) kx);have done:=k.nx (Ia:=Ia) IW R Iw;rcases A0 e.toE p v with h | h<;>rw [h]
 ·exact am done
 ·exact ae (wpAny_standAt (ae (wpAny_runValue (codeAny_builtin entry_let_go (am (am done))))))
theorem Be (KO:cc T TB Kf) (KR:ju T) {arg:DE} {fp cp p:Pos} (he:SE T TB Γ (lv+1) nf arg):SS T TB Γ (lv+1) nf (.raise arg fp cp p):=fun {A C H Y s Q X K E} hf hA ok R q k kx=>by
 refine ae (wpAny_standAt (rS (ae ?_)));refine Call_Name rfl (Name_function_global hA.kind (d6 (ar ok)) (loadGlobal_global (kQ KO hA R) KO.bad ?_) (by decide+kernel));refine fE (cx C.env _ [arg]) (fun t a b=>KO.keeper45 t a b) (cH (r7 he Av hA (by rw [hf];exact ay.mpr ⟨al ok,rfl⟩) R (Q:=fun vs Jo=>a1 vs fun d=>X d Jo) q (fun vs ds Jo HZ Ia IW vrs hn Iw=>⟨IW.st.top, ?_⟩) kx));refine gU (p1 Iw vrs) fun d v e h=>bi e (KR.bad (s:=put s HZ Ia) hf hA (R.to0 IW) h.1 (fun ev H0 Ib Jb Hi IZ=> ?_));refine gv fun Q1z E1z hQ1z hE1z=>(ae (wpAny_standAt (am ?_)));exact hQ1z _ _ (KR.thr hA.handled (Jb.base fun U=>IW.new) Hi (IW.trans IZ).up (fun H1 Ic Jc Hj I2=>kx _ d _ H1 Ic I2 ⟨Jc, .inl Hj⟩ h.2))
theorem hH.there (R:Rl T C H Y h) {a:Addr} (l:hH C a):∃o,h.get? a=some o:=by
 rcases l with rfl | ⟨U,x,hx⟩
 ·obtain ⟨U,⟨o,U,U,e,U⟩,U⟩:=R.loc;exact ⟨o,e⟩
 ·obtain ⟨U,U,o,e,U⟩:=R.cells x a hx;exact ⟨o,e⟩
theorem hH.vd (R:Rl T C H Y h) (a:Addr) (o:Obj) (l:hH C a) (e:h.get? a=some o):eE o.data=false:=by
 rcases l with rfl | ⟨U,x,hx⟩
 ·obtain ⟨m,⟨o',es,ep,e1,e2,U⟩,U⟩:=R.loc;rw [e] at e1;(replace e1:=bW e1;subst e1);rw [e2];rfl
 ·refine fI (R.cells x a hx) fun U y11=>(gU y11 fun v o' e1 e2=> ?_);rw [e] at e1;(replace e1:=bW e1;subst e1);rw [e2];rfl
theorem Ch {t:DE} {b:List DS} {p:Pos} (ht:gc T TB Γ lv nf t) (hb:AD T TB Γ lv nf b):SS T TB Γ lv nf (.while t b p):=fun {A C H Y s Q X K E} hf hA ok R q k kx=>by
 refine dU q fun n q=> ?_
 refine wpAny_While (codeAny_whileLoop (fun n s'=>∃H' Y' h' tk,s'=put s h' tk/\Rl T C H' Y' h'/\To T (hH C) Y s.heap Y' h'/\
  gT (fun H' Y' Q'=>dO TB Γ t H' Y' Q' X) (fun H' Y' Q'=>exDs TB Γ b H' Y' Q' X) n H' Y' Q) ?_ n ⟨H,Y,s.heap,s.toks,rfl,R, .refl R.st,q⟩)
 clear q n;intro n s' z2;refine cr fun hn=> ?_;obtain ⟨H',Y',h',tk,rfl,R',t',q⟩:=z2;refine hn ?_;have kxl:=vC (M:=model T.prog T.w) hf hA (kx.after (Ia:=tk) t')
 cases n with
 | zero=>exact q.elim
 | succ n=>
  refine ht hA (by rw [hf];exact al ok) R' q (fun d Jo HZ Ia IW Iw=> ?_) kxl;refine bu (bH Iw) fun c e Iw=> ?_;rw [e];have G6:=t'.trans IW.up
  cases c with
  | true=>
   refine hb hf hA (ar ok) (R'.to0 IW) Iw (fun fl f Jj Jp H0 Ib IZ G2 Hm Ix=> ?_) (kxl.after0 IW);have G7:=G6.trans IZ
   have nx:CQ (fun Jk Jq=>cb none Jq/\gT (fun H' Y' Q'=>dO TB Γ t H' Y' Q' X) (fun H' Y' Q'=>exDs TB Γ b H' Y' Q' X) n Jk Jq Q) Jj Jp->∃m,m<n+1/\∃H' Y' h' tk,put s H0 Ib=put s h' tk/\Rl T C H' Y' h'/\To T (hH C) Y s.heap Y' h'/\
     gT (fun H' Y' Q'=>dO TB Γ t H' Y' Q' X) (fun H' Y' Q'=>exDs TB Γ b H' Y' Q' X) m H' Y' Q:=fun h=>qj h fun Jk Jq z zl U Iy=>⟨n,Nat.lt_succ_self _,Jk,Jq,H0,Ib,rfl,G2.freeze z zl,G7.trans (To.freeze G7.st z),Iy⟩
   cases fl with
   | ret d=>refine bu Hm fun v y31 vr=> ?_;subst y31;exact k (.ret d) _ _ _ _ Ib G7 G2 ⟨v,rfl,vr⟩ Ix
   | next=>rw [show f= .next from Hm];exact nx Ix
   | cont=>rw [show f= .cont from Hm];exact nx Ix
  | false=>exact wpAny_execs_nil (k .next .next _ _ _ Ia G6 (R'.to0 IW) rfl Iw)
theorem ck.unhid (c:Cd) (Y:be):ck Y (unhid c Y):=fun a o e=>⟨o,jA e, .inl rfl⟩
theorem Ge (KO:cc T TB Kf) {tg:TT} {sk:SK} {srcs:List DE} {ps:List Pos} {b:List DS} {p:Pos} (ss:SL T TB Γ lv nf srcs) (hb:AD T TB Γ lv nf b):SS T TB Γ lv nf (.for tg sk srcs ps b p):=fun {A C H Y s Q X K E} hf hA ok R q k kx=>by
 have o4:=al (ar (ar ok));refine wpAny_For ?_ (iz sk srcs ps o4 C.env);refine ms KO ss.sp (fun e he=>(ss.all e he).1) hA (by rw [hf];exact al (ar ok)) o4 R q kx (fun vs ds Jo HZ Ia IW vrs Iw=> ?_);refine ma KO (F:=fun items c Jp=>fZ (fun H' Y' Q'=>exDs TB Γ b H' Y' Q' X) tg c items H Jp (fun fl H' Y'=>Q fl H' (unhid c Y'))) (al (ar (ar (ar ok)))) IW.st vrs Iw (fun items I W c S Jp H0 Ib IZ it IH hW sd Ix=> ?_);have G1:=R.to0 IW;have down:∀{Y' h'},To T (fun a=>W a\/hH C a) Jo HZ Y' h'->To T (hH C) Y s.heap Y' h':=fun t=>IW.up.trans (t.drop fun a o e w=>w.elim (fun w=>bS e (hW a w)) id)
 refine codeAny_forLoop_any (fun n s'=>∃i H' Y' h' tk,s'=put s h' tk/\Rl T C H' Y' h'/\To T (fun a=>W a\/hH C a) Jo HZ Y' h'/\S i Y' h'/\cb c Y'/\n=items.length - i/\i<=items.length/\
  fZ (fun H' Y' Q'=>exDs TB Γ b H' Y' Q' X) tg c (items.drop i) H' Y' (fun fl H' Y'=>Q fl H' (unhid c Y'))) ?_ (items.length - 0) ⟨0,H,Jp,H0,Ib,rfl,G1.to0 IZ,IZ.up,IH,sd,rfl,aX _,Ix⟩
 intro n s' z2;refine cr fun hn=> ?_;obtain ⟨i,H',Y',h',tk,rfl,R',t',st',sd',rfl,hle,q'⟩:=z2;refine hn ?_
 by_cases hlt:i<items.length
 ·have hx:items[i]? =some items[i]:=an hlt;rw [List.drop_eq_getElem_cons hlt] at q';generalize items[i]=xi at hx q';refine cr fun hn=> ?_;obtain ⟨Jj,hb',q'⟩:=bH q';refine hn (it.next hA.handled R'.st hx st' (fun v IK hgo=>hgo fun H1 Ic I0 Ih II I8=> ?_));have G3:=R'.to I0 (it.hid st');refine eP hA (show tD C.env.kindOf C.fn tg=true by rw [hf];exact al ok) G3 I8 hb' (fun H2 Id I2 G4=> ?_);have G8:=(t'.trans (I0.drop fun U U U q=> .inl q)).trans (I2.drop fun U U U q=> .inr q);refine hb (s:=put s H2 Id) hf hA (ar (ar (ar (ar ok)))) G4 q' (fun fl f Jl Js H3 Ie I3 G5 Hn IA=> ?_) (vC hf hA (kx.after (Ia:=Id) (down G8)));have G9:=G8.trans (I3.drop fun U U U q=> .inr q)
  have nx:CQ (fun Jm Jt=>cb c Jt/\fZ (fun H' Y' Q'=>exDs TB Γ b H' Y' Q' X) tg c (items.drop (i+1)) Jm Jt (fun fl H' Y'=>Q fl H' (unhid c Y'))) Jl Js->∃m,m<items.length - i/\∃i H' Y' h' tk,put s H3 Ie=put s h' tk/\Rl T C H' Y' h'/\To T (fun a=>W a\/hH C a) Jo HZ Y' h'/\S i Y' h'/\cb c Y'/\m=items.length - i/\i<=items.length/\
    fZ (fun H' Y' Q'=>exDs TB Γ b H' Y' Q' X) tg c (items.drop i) H' Y' (fun fl H' Y'=>Q fl H' (unhid c Y')):=fun h=>qj h fun Jm Jt z zl IF IB=>
   ⟨items.length - (i+1),Nat.sub_lt_sub_left hlt (Nat.lt_succ_self i),i+1,Jm,Jt,H3,Ie,rfl,G5.freeze z zl,G9.trans (To.freeze G9.st z),it.keep II ((I2.trans I3).trans (To.freeze I3.st z)) (hH.vd G3) IF,IF,rfl,hlt,IB⟩
  cases fl with
  | ret d=>
   refine bu Hn fun v y21 vr=> ?_;subst y21;have z:=ck.unhid c Js;exact k (.ret d) _ Jl _ H3 Ie ((down G9).trans (To.freeze G9.st z)) (G5.freeze z (i0.refl _ _ _)) ⟨v,rfl,vr.mono (zp z)⟩ IA
  | next=>rw [show f= .next from Hn];exact nx IA
  | cont=>rw [show f= .cont from Hn];exact nx IA
 ·have hi':i=items.length:=Nat.le_antisymm hle (Nat.le_of_not_lt hlt);subst hi';rw [List.drop_length] at q';refine it.done hA.handled R'.st st' (fun H1 Ic H9=> ?_);have ls:=it.less st' H9;exact wpAny_execs_nil (k .next .next _ _ H1 Ic (down (ls.to t' hW)) (ls.rl R' G1 hW) rfl q')
end
section
variable {T:cK} {TB:eT} {Kf:Frag} {Γ:dW} {lv nf:Nat}
theorem wk (KO:cc T TB Kf) {o:DE} {n:Nat} {e:DE} {tp p:Pos} (he:SE T TB Γ lv nf e) (ho:SE T TB Γ lv nf o):SS T TB Γ lv nf (.asgAttr o n e tp p):=fun {A C H Y s Q X K E} hf hA ok R q k kx=>by
 refine wpAny_Assign_stores ?_ (by cases e<;>rfl) rfl;refine he hA (by rw [hf];exact ar (ar ok)) R q (fun v d Jo HZ Ia IW vr Iw=> ?_) kx;refine ae (aH (ho hA (by rw [hf];exact al ok) (R.to0 IW) Iw (fun w dw Jp H0 Ib IZ vw Ix=> ?_) (kx.after0 IW)));exact ae (wpAny_standAt (ae (aH (BL KO (iC (al (ar ok))) IZ.st vw (vr.mono IZ.gle) Ix (fun Jq H1 Ic I0 Iy=>wpAny_release (k.nx ((IW.trans IZ).trans I0) R Iy))))))
theorem Ak (KO:cc T TB Kf) {o i e:DE} {tp p:Pos} (he:SE T TB Γ lv nf e) (ho:SE T TB Γ lv nf o) (hi:SE T TB Γ lv nf i):SS T TB Γ lv nf (.asgSub o i e tp p):=fun {A C H Y s Q X K E} hf hA ok R q k kx=>by
 refine wpAny_Assign_stores ?_ (by cases e<;>rfl) rfl;refine he hA (by rw [hf];exact ar (ar ok)) R q (fun v d Jo HZ Ia IW vr Iw=> ?_) kx;refine ae (aH (ho hA (by rw [hf];exact al ok) (R.to0 IW) Iw (fun w dw Jp H0 Ib IZ vw Ix=> ?_) (kx.after0 IW)));have t:=IW.trans IZ;refine ae (aH (hi hA (by rw [hf];exact al (ar ok)) (R.to0 t) Ix (fun j dj Jq H1 Ic I0 vj Iy=> ?_) (kx.after0 t)));exact ae (wpAny_standAt (ae (aH (AW KO.hash hA.u I0.st (vw.mono I0.gle) vj (vr.mono (IZ.trans I0).gle) Iy (fun Jr H2 Id I2 Iz=>wpAny_release (k.nx ((t.trans I0).trans I2) R Iz))))))
theorem Ax (KO:cc T TB Kf) {o l u e:DE} {sp tp p:Pos} (he:SE T TB Γ lv nf e) (ho:SE T TB Γ lv nf o) (hl:SE T TB Γ lv nf l) (hu:SE T TB Γ lv nf u):SS T TB Γ lv nf (.asgSlc o l u e sp tp p):=fun {A C H Y s Q X K E} hf hA ok R q k kx=>by
 refine wpAny_Assign_stores (targets:=[.Subscript o.toE (.Slice (some l.toE) (some u.toE) none sp) tp]) ?_ (by cases e<;>rfl) rfl;refine he hA (by rw [hf];exact ar (ar (ar ok))) R q (fun v d Jo HZ Ia IW vr Iw=> ?_) kx;refine ae (aH (ho hA (by rw [hf];exact al ok) (R.to0 IW) Iw (fun w dw Jp H0 Ib IZ vw Ix=> ?_) (kx.after0 IW)));have t:=IW.trans IZ;refine ae (aH ?_);refine ae (hl hA (by rw [hf];exact al (ar ok)) (R.to0 t) Ix (fun a da Jq H1 Ic I0 va Iy=> ?_) (kx.after0 t));have t':=t.trans I0;refine ae (aH (hu hA (by rw [hf];exact al (ar (ar ok))) (R.to0 t') Iy (fun b db Jr H2 Id I2 vb Iz=> ?_) (kx.after0 t')));refine ae (aH (am ?_));refine gv fun Q1z E1z hQ1z hE1z=>(wpAny_newObj_type ?_ (by size_fits));have I3:=To.grow (L:=Nl) I2.st (bA H2 {cls:= .type "slice",data:= .fields #[a,b, .none]});have t34:=I0.trans (I2.trans I3);exact hQ1z _ _ (ae (wpAny_standAt (ae (aH (wQ I3.st (vw.mono t34.gle) (va.mono (I2.trans I3).gle) (vb.mono I3.gle) (vr.mono (IZ.trans t34).gle) (aF _ rfl) Iz (fun Js H3 Ie I4 IA=>wpAny_release (k.nx ((t.trans t34).trans I4) R IA)))))))
noncomputable def dJ:List Nat->List V->bv->bv
 | [],U,H=>H
 | n::ns,vs,H=>match vs with
  | []=>H
  | v::vs=>dJ ns vs (H.set n v)
theorem bv.swap (H:bv) {n m:Nat} (h:n≠m) (v w:V):(H.set n v).set m w=(H.set m w).set n v:=by
 funext k
 by_cases q:k=m
 ·subst q;(refine ak (bv.set_same ..) ?_;rw [bv.set_ne _ _ (aS h),bv.set_same])
 ·refine ak (bv.set_ne _ _ q) ?_
  by_cases r:k=n
  ·subst r;(refine ak (bv.set_same ..) ?_;rw [bv.set_same])
  ·(refine ak (bv.set_ne _ _ r) ?_;rw [bv.set_ne _ _ r,bv.set_ne _ _ q])
theorem q8 (ns:List Nat):∀(vs:List V) (H:bv) {n:Nat} (v:V),n∉ns->dJ ns vs (H.set n v)=(dJ ns vs H).set n v:=by
 induction ns with
 | nil=>exact fun U U U U U=>rfl
 | cons m ns ih=>
  intro vs H n v h
  cases vs with
  | nil=>rfl
  | cons w vs=>exact (aB (dJ ns vs) (bv.swap H (fun q=>h (q▸ .head _):n≠m) v w)).trans (ih vs _ v fun q=>h (.tail _ q))
theorem pd (ns:List Nat):∀(vs:List V) (H:bv) (n:Nat) (v:V),ns.length=vs.length->dJ (ns++[n]) (vs++[v]) H=(dJ ns vs H).set n v:=by
 induction ns with
 | nil=>
  intro vs H n v h;rw [List.length_eq_zero_iff.mp h.symm];rfl
 | cons m ns ih=>
  intro vs H n v h
  cases vs with
  | nil=>exact absurd h (Nat.succ_ne_zero _)
  | cons w vs=>exact ih vs (H.set m w) n v (Nat.succ.inj h)
theorem rE (ns:List Nat):∀(vs:List V) (H:bv),ns.Nodup->ns.length=vs.length->dJ ns.reverse vs.reverse H=dJ ns vs H:=by
 induction ns with
 | nil=>
  intro vs H _ h;rw [List.length_eq_zero_iff.mp h.symm];rfl
 | cons n ns ih=>
  intro vs H nd h
  cases vs with
  | nil=>exact absurd h (Nat.succ_ne_zero _)
  | cons v vs=>
   have nd:=List.nodup_cons.mp nd;have h:=Nat.succ.inj h;rw [List.reverse_cons,List.reverse_cons,pd _ _ _ _ _ (List.length_reverse.trans (h.trans List.length_reverse.symm)),ih vs H nd.2 h];exact (q8 ns vs H v nd.1).symm
theorem As {ln i:Nat} {t:TT} (h:CC ln t=some i):∃p,t= .n false i p/\p.line=ln:=by
 cases t with
 | t U z1=>exact bZ h
 | n c j p=>
  cases c with
  | true=>exact bZ h
  | false=>
   have h:cond (p.line==ln) (some j) none=some i:=h
   cases e:p.line==ln with
   | true=>rw [e] at h;exact bW h▸⟨p,rfl,eq_of_beq e⟩
   | false=>rw [e] at h;exact bZ h
theorem mq {ln:Nat} {t:TT} {l:List TT} {ns:List Nat} (h:ic ln (t::l)=some ns):∃i p ns',t= .n false i p/\p.line=ln/\ic ln l=some ns'/\ns=i::ns':=
 bu (aK.mp h) fun i h1 h=>bu (aL.mp h) fun ns' h2 e=>bu (As h1) fun p q1 q2=>⟨i,p,ns',q1,q2,h2,e.symm⟩
theorem gM {ln:Nat} {l:List TT}:∀{ns:List Nat} {ds:List V} {H H':bv},ic ln l=some ns->bindTs l ds H=some H'->H'=dJ ns ds H/\ns.length=ds.length:=by
 induction l with
 | nil=>
  intro ns ds H H' h hb;rw [<-bW h,(dZ hb).1];exact ⟨(dZ hb).2.symm,rfl⟩
 | cons t l ih=>
  refine fun {ns ds H H'} h hb=>wG (mq h) fun i p ns' q1 U h1 q2=>ov (fD hb) fun d r Ji q3 q4 q5=>fI (ih h1 q5) fun e n=> ?_;rw [q1] at q4;rw [q2,q3];exact ⟨e.trans (aB (dJ ns' r) (bW q4).symm),aB (· +1) n⟩
noncomputable def lG (k:cO) (ln:Nat) (e:Expr):Option Str:=PySem.swappedStores.match_8 (fun U=>Option Str) e (fun id pos=>if k id==some .local && pos.line==ln then some id else none) fun U=>none
theorem qG {k:cO} {ln:Nat} {l:List TT}:∀{ns:List Nat},ic ln l=some ns->okTs k true l=true->(TT.toEs l).filterMap (lG k ln)=ns.map nm/\ns.length=l.length/\∀n∈ns,n<nmL.length/\k (nm n)=some .local:=by
 induction l with
 | nil=>
  intro ns h _;rw [<-bW h];exact ⟨rfl,rfl,fun U=>fh⟩
 | cons t l ih=>
  refine fun {ns} h ok=>wG (mq h) fun i p ns' q1 hp h1 q2=>lL (ih h1 (ar ok)) fun e1 e2 e3=> ?_;have ok0:=al ok;rw [q1] at ok0;have ok0:nOk k false i=true:=ok0;have ok1:xz k (nm i) .local=true:=ar ok0;rw [q2];refine ⟨?_,aB (· +1) e2,aa.mpr ⟨⟨iC (al ok0),d6 ok1⟩,e3⟩⟩;have hn:lG k ln (TT.toE t)=some (nm i):=by rw [q1];exact if_pos (ay.mpr ⟨ok1,beq_iff_eq.mpr hp⟩)
  show (t.toE::TT.toEs l).filterMap _=_;rw [List.filterMap_cons,hn,e1];rfl
theorem ru (l:List TT):(TT.toEs l).length=l.length:=by
 induction l with
 | nil=>rfl
 | cons U z1 ih=>exact aB (· +1) ih
theorem wK (xs:List DE):(DE.toEs xs).all (constantsAlone 8)=xs.all fun x=>constantsAlone 8 x.toE:=by
 induction xs with
 | nil=>rfl
 | cons x xs ih=>exact aB (constantsAlone 8 x.toE && ·) ih
noncomputable def Sw (env:Env) (l:List TT) (X:Sem (Option (List Str))):Prop:=X=pure none\/∃ns ln,ic ln l=some ns/\(∀n∈ns,n<nmL.length/\env.kindOf (nm n)=some .local)/\ns.Nodup/\X=pure (some (ns.map nm))
theorem ua {env:Env} {l:List TT} {c:Prop} [Decidable c] {Y:Sem (Option (List Str))} (h:¬c->Sw env l Y):Sw env l (if c then pure none else Y):=by
 by_cases q:c
 ·rw [if_pos q];exact .inl rfl
 ·rw [if_neg q];exact h q
theorem qr {l:List TT} (sw:Cs l=true):∃i p r,l= .n true i p::r:=by
 cases l with
 | nil=>exact cR sw
 | cons t r=>
  cases t with
  | n c i p=>
   cases c
   ·exact cR sw
   ·exact ⟨i,p,r,rfl⟩
  | t U z1=>exact cR sw
theorem B3 (env:Env) (l:List TT) (xs:List DE) (p q:Pos) (ok:okTs env.kindOf true l=true) (sw:CA l xs=true):Sw env l (swappedStores [.Tuple (TT.toEs l) 0 p] (.Tuple (DE.toEs xs) 0 q) env):=by
 refine ua fun c1=>ua fun U=>ua fun c3=>ua fun U=> ?_;rcases aY.mp sw with sw | sw
 ·exfalso
  rcases aY.mp sw with sw | sw
  ·rw [ru] at c1;exact c1 (aY.mpr (.inl (aY.mpr (.inl sw))))
  ·refine c3 (aY.mpr (.inl (bne_iff_ne.mpr fun e=> ?_)));clear c3 c1;refine EG (qr sw) fun i p r y1=> ?_;subst y1
   have hn:lG env.kindOf (my (.n true i p::r)) (TT.toE (.n true i p))=none:=by
    show (if (env.kindOf (nm i)==some .local && _)=true then _ else _)=_;rw [(d6 (ar (al ok)))];rfl
   have:((TT.toE (.n true i p)::TT.toEs r).filterMap (lG env.kindOf (my (.n true i p::r)))).length=(TT.toEs r).length+1:=e;rw [List.filterMap_cons,hn] at this;have le:=List.length_filterMap_le (lG env.kindOf (my (.n true i p::r))) (TT.toEs r);rw [(this)] at le;exact Nat.not_succ_le_self _ le
 ·have a:=al sw;have sw:=ar sw
  cases hfl:ic (my l) l with
  | none=>rw [hfl] at sw;exact cR sw
  | some ns=>
   rw [hfl] at sw;refine lL (qG hfl ok) fun e1 e2 e3=> ?_;rw [if_neg (by rw [wK];exact fun q=>by rw [q] at a;exact cR a)];exact .inr ⟨ns,my l,hfl,e3,iC (ar sw),aB (fun z:List Str=>(pure (some z):Sem (Option (List Str)))) e1⟩
theorem oV {A:Around} {C:Cx} {Y:be} {E:Value->Shared->Prop} (hA:Ac T A C lv) {ns:List Nat}:∀{vs:List Value} {ds:List V} {H:bv} {s:Shared} {K:Unit->Shared->Prop},ns.length=ds.length->(∀n∈ns,n<nmL.length/\C.env.kindOf (nm n)=some .local)->Rl T C H Y s.heap->VRs (G Y s.heap) ds vs->Kl T C Y s (dJ ns ds H) K->wpAny (model T.prog T.w) A (assignInOrder (ns.map fun n=>bindName C.env (nm n)) vs) K E s:=by
 induction ns with
 | nil=>
  intro vs ds H s K hl _ R vr k;rw [List.length_eq_zero_iff.mp hl.symm] at vr;exact bi vr (am (k s.heap s.toks (.refl R.st) R))
 | cons n ns ih=>
  intro vs ds H s K hl hn R vr k;have hn:=aa.mp hn
  cases ds with
  | nil=>exact absurd hl (Nat.succ_ne_zero _)
  | cons d ds=>
   cases vs with
   | nil=>exact vr.elim
   | cons v vs=>exact dU R.loc fun m hm=>ae (aH (wpAny_bindName (wpAny_storeName_local hn.1.2 hm.1 (fun h' hns hs=>fI (R.bindL hA hn.1.1 hn.1.2 vr.1 hm.1 hns hs) fun R' t=>ih (Nat.succ.inj hl) hn.2 R' (vr.2.mono (R.gle t)) (fun h'' tk t' R''=>k h'' tk (t.trans t') R'')) (jB hA))))
end
section
set_option linter.unusedSectionVars false
section
variable {T:cK} {TB:eT} {Kf:Frag} {Γ:dW} {lv nf:Nat}
theorem yz {t:TT} {A:Around} {C:Cx} {H:bv} {Y Jo:be} {s:Shared} {HZ:Heap} {Ia:Nat} {Q:KF} {K:Flow->Shared->Prop} {E:Value->Shared->Prop} {v:Value} {d:V} (hf:C.fn=true) (hA:Ac T A C lv) (o1:tD C.env.kindOf true t=true) (R:Rl T C H Y s.heap) (k:Kw T C Y s Q K) (IW:To T Nl Y s.heap Jo HZ) (vr:VR (G Jo HZ) d v) (q:on (dT t d H) fun H'=>Q .next H' Jo):wpAny (model T.prog T.w) A (assign t.toE C.env v) (fun U=>K .next) E (put s HZ Ia):=by
 refine bu (bH q) fun H' hb q=> ?_;exact (eP hA (by rw [hf];exact o1) (R.to0 IW) vr hb (fun H0 Ib IZ G2=>k .next .next _ _ _ Ib (IW.up.trans IZ) G2 rfl q))
theorem kI (t:TT) (env:Env):(assignEach [t.toE] env).map (·.2)=[assign t.toE env]:=by cases t<;>rfl
theorem mc {t:TT} {e:DE} {p:Pos} {A:Around} {C:Cx} {H:bv} {Y:be} {s:Shared} {Q:KF} {X:KV} {K:Flow->Shared->Prop} {E:Value->Shared->Prop} (he:SE T TB Γ lv nf e) (hf:C.fn=true) (hA:Ac T A C lv) (o1:tD C.env.kindOf true t=true) (o2:fe true nf C.env.kindOf e=true) (R:Rl T C H Y s.heap) (q:Gd TB Γ (.asg t e p) H Y Q X) (k:Kw T C Y s Q K) (kx:Kx T C Y s X E) (hs:swapsWith e.toE (some t.toE) p.line C.env=pure false) (hw:swappedStores [t.toE] e.toE C.env=pure none):wpAny (model T.prog T.w) A (exec (DS.asg t e p).toS C.env) K E s:=by
 refine wpAny_Assign_stores ?_ hs hw;rw [kI];exact he hA (by rw [hf];exact o2) R q (fun v d Jo HZ Ia IW vr Iw=>yz hf hA o1 R k IW vr Iw) kx
theorem qI {ns:List Nat} {ds:List V} {l:List TT} {ln:Nat} {H H':bv} (f1:ic ln l=some ns) (f3:ns.Nodup) (hb:bindTs l ds H=some H'):dJ ns.reverse ds.reverse H=H':=by
 refine fI (gM f1 hb) fun e1 e2=> ?_
 (refine ak (rE ns ds H f3 e2) ?_;rw [e1])
theorem z7 {l:List TT} {xs:List DE} {tp' tp p:Pos} {A:Around} {C:Cx} {H:bv} {Y:be} {s:Shared} {Q:KF} {X:KV} {K:Flow->Shared->Prop} {E:Value->Shared->Prop} (he:SE T TB Γ lv nf (.tup xs tp)) (hf:C.fn=true) (hA:Ac T A C lv) (o2:fe true nf C.env.kindOf (.tup xs tp)=true) (R:Rl T C H Y s.heap) (q:Gd TB Γ (.asg (.t l tp') (.tup xs tp) p) H Y Q X) (k:Kw T C Y s Q K) (kx:Kx T C Y s X E) {ns:List Nat} {ln:Nat} (f1:ic ln l=some ns) (f2:∀n∈ns,n<nmL.length/\C.env.kindOf (nm n)=some .local) (f3:ns.Nodup) (hw:swappedStores [.Tuple (TT.toEs l) 0 tp'] (.Tuple (DE.toEs xs) 0 tp) C.env=pure (some (ns.map nm))):wpAny (model T.prog T.w) A (exec (DS.asg (.t l tp') (.tup xs tp) p).toS C.env) K E s:=by
 show wpAny _ _ (exec (.Assign [.Tuple (TT.toEs l) 0 tp'] (.Tuple (DE.toEs xs) 0 tp) p) C.env) _ _ _;refine ae (wpAny_standAt ?_);refine ae (am ?_);refine ae (he hA (by rw [hf];exact o2) R (show dO TB Γ (.tup xs tp) H Y (fun v Jo=>on (dT (.t l tp') v H) fun H'=>Q .next H' Jo) X from q) (fun v d Jo HZ Ia IW vr Iw=> ?_) kx);rw [hw];refine ae (am ?_);refine bu (bH Iw) fun H' hb Iw=>bu (aK.mp hb) fun ds e hb=> ?_
 have go:∀(vs:List Value) (h':Heap),VRs (G Jo HZ) ds vs->Heap.ExtBut HZ.objs.size HZ h'->
   wpAny (model T.prog T.w) A (do assignInOrder ((ns.map nm).reverse.map fun n=>bindName C.env n) vs.reverse;pure .next) K E (put s h' Ia):=fun vs h' qv hx=>by
  have hk:dS HZ h':=fun b o e=>hx b o (Nat.ne_of_lt (Heap.lt_size e)) e;have IZ:=IW.trans (To.grow IW.st hk);rw [<-List.map_reverse,List.map_map];refine ae (oV (s:=put s h' Ia) hA (by rw [List.length_reverse,List.length_reverse,(gM f1 hb).2]) (fun n hn=>f2 n (List.mem_reverse.mp hn)) (R.to0 IZ) ((qv.mono (d9 hk)).reverse) (fun H0 Ib I0 G2=> ?_));rw [qI f1 f3 hb] at G2;exact am (k .next .next _ _ _ Ib (IZ.up.trans I0) G2 rfl Iw)
 refine ae (wpAny_rule ?_)
 have hn:∀{vs:List Value},VRs (G Jo HZ) ds vs->(ns.map nm).length=vs.toArray.size:=fun qv=>by
  rw [ah,(gM f1 hb).2,<-qv.length,aI]
 refine (yi e).elim (fun e=> ?_) fun e=> ?_
 ·exact (e▸vr:VR (G Jo HZ) (.tup ds) v).rec fun a vs n e g qv=>bi e (by rw [hn qv];exact ae (wpAny_unpackItems_tuple hA.handled ⟨_,g.1,rfl,_,rfl⟩ fun h'=>go vs h' qv))
 ·exact (e▸vr:VR (G Jo HZ) (.lst ds) v).rec fun a vs n e g qv=>bi e (by rw [hn qv];exact ae (kun_itemsOf hA.handled ⟨_,g.1,rfl,_,rfl⟩ fun h'=>go vs h' qv))
theorem za (KO:cc T TB Kf) {mu:Bool} {elt:DE} {tg:TT} {sk:SK} {srcs:List DE} {ps:List Pos} {ifs:List DE} {sc:Scope} {cp p:Pos} {t:TT} (ss:SL T TB Γ lv nf srcs) (he:SE T TB Γ lv nf elt) (hi:SL T TB Γ lv nf ifs) {A:Around} {C:Cx} {H:bv} {Y:be} {s:Shared} {Q:KF} {X:KV} {K:Flow->Shared->Prop} {E:Value->Shared->Prop} (hf:C.fn=true) (hA:Ac T A C lv) (o1:tD C.env.kindOf true t=true) (o2:fe true nf C.env.kindOf (.comp mu elt tg sk srcs ps ifs sc cp)=true) (R:Rl T C H Y s.heap) (q:Gd TB Γ (.asg t (.comp mu elt tg sk srcs ps ifs sc cp) p) H Y Q X) (k:Kw T C Y s Q K) (kx:Kx T C Y s X E) (hb:swapsWithSole [t.toE] (DE.comp mu elt tg sk srcs ps ifs sc cp).toE p.line C.env=pure true):wpAny (model T.prog T.w) A (exec (DS.asg t (.comp mu elt tg sk srcs ps ifs sc cp) p).toS C.env) K E s:=by
 have o4:=al (al (ar (ar o2)));refine gw (lg sc C.env (ll hA hf o4)) fun cl c1 c2 c3=>(ae (wpAny_standAt ?_));refine weqb (show swapsWithSole [t.toE] (.ListComp elt.toE [⟨tg.toE,pS sk (DE.toEs srcs) ps,DE.toEs ifs,0⟩] sc cp) p.line C.env=pure true from hb ..) (ae (am ?_))
 (refine qQ rfl ?_;rw [kI])
 refine ae (ae (wpAny_mono (wpAny_comprehension_free rfl (iz sk srcs ps (al (al (ar o2))) C.env) c1 (eq_of_beq (al (al o4))) (fun x hx h=>eq_of_beq (orN (aG.mp (ar (ar (ar o4))) x hx) h)) ?_)
  (fun U s' hq=>am (am hq)) fun U U x=>x))
 refine mi KO ss.sp (fun e he=>(ss.all e he).1) he (fun t ht=>(hi.all t ht).2) hA (show fe C.fn nf C.env.kindOf (.comp mu elt tg sk srcs ps ifs sc cp)=true by rw [hf];exact o2) R q kx c2 c3 fun D L d Y' h' tk B vr q'=> ?_;refine bu (bH q') fun H' hbd q'=> ?_;refine (eP hA (by rw [hf];exact o1) (R.to0 B.to) vr hbd (fun H1 Ic I0 G3=> ?_));have ns:=Ns.to I0 B.ns.choose_spec B.off fun l=>by obtain ⟨o,e⟩:=hH.there R l;exact bS e B.new
 refine ⟨_,ns,fun h'' hs''=> ?_⟩;have ls:=iS hs'' B.lo ⟨_,ns⟩ B.off;exact k .next .next _ _ h'' Ic (ls.to (B.to.up.trans I0) fun a w=>w▸B.new) (ls.rl G3 R fun a w=>w▸B.new) rfl q'
theorem pi {e:DE} (h:mI e=true):∃mu elt tg sk srcs ps ifs sc cp,e= .comp mu elt tg sk srcs ps ifs sc cp:=by
 cases e with
 | comp=>exact ⟨_,_,_,_,_,_,_,_,_,rfl⟩
 | _=>exact cR h
theorem DM (c:Bool) (i:Nat) (p:Pos) (e:DE) (env:Env):swappedStores [(TT.n c i p).toE] e.toE env=pure none:=by
 cases e<;>rfl
theorem D8 (l:List TT) (p:Pos) (e:DE) (env:Env):(∃xs tp,e= .tup xs tp)\/swappedStores [(TT.t l p).toE] e.toE env=pure none:=by
 cases e with
 | tup=>exact .inl ⟨_,_,rfl⟩
 | _=>exact .inr rfl
theorem Gl (KO:cc T TB Kf) (hnf:nf<=56) (CK:∀i,i<nf->fF T Γ lv i) {t:TT} {e:DE} {p:Pos}:SS T TB Γ lv nf (.asg t e p):=fun {A C H Y s Q X K E} hf hA ok R q k kx=>by
 have plain:=mc (sx KO hnf CK e).1 hf hA (al ok) (al (ar ok)) R q k kx
 cases hc:mI e with
 | true=>
  clear plain;refine EG (pi hc) fun mu elt tg y1=>(EG y1 fun sk srcs ps y2=> ?_);refine EG y2 fun ifs sc cp y3=> ?_;subst y3;clear hc;have plain:=mc (sx KO hnf CK (.comp mu elt tg sk srcs ps ifs sc cp)).1 hf hA (al ok) (al (ar ok)) R q k kx;have hw:swappedStores [t.toE] (DE.comp mu elt tg sk srcs ps ifs sc cp).toE C.env=pure none:=by clear plain k R q ok;cases t<;>rfl
  obtain ⟨b,hb⟩:∃b,swapsWith (DE.comp mu elt tg sk srcs ps ifs sc cp).toE (some t.toE) p.line C.env=pure b:=by clear plain k R q ok hw;cases t<;>exact ⟨_,rfl⟩
  cases b with
  | false=>exact plain hb hw
  | true=>exact za KO (sl KO hnf CK srcs) (sx KO hnf CK elt).1 (sl KO hnf CK ifs) hf hA (al ok) (al (ar ok)) R q k kx hb
 | false=>
  have hs:=o8 (t:=some t.toE) (line:=p.line) (env:=C.env) hc;clear hc
  cases t with
  | n c i tp'=>exact plain hs (DM ..)
  | t l tp'=>
   rcases D8 l tp' e C.env with ⟨xs,tp,rfl⟩ | hw
   ·rcases B3 C.env l xs tp' tp (al (al ok)) (ar (ar ok)) with hw | ⟨ns,ln,f1,f2,f3,hw⟩
    ·exact plain hs hw
    ·exact z7 (sx KO hnf CK (.tup xs tp)).1 hf hA (al (ar ok)) R q k kx f1 f2 f3 hw
   ·exact plain hs hw
variable (KO:cc T TB Kf) (KR:ju T) (hnf:nf<=56) (CK:∀i,i<nf->fF T Γ (lv+1) i)
include KO KR hnf CK
theorem xs:∀d:DS,SS T TB Γ (lv+1) nf d:=DS.rec (motive_1:=SS T TB Γ (lv+1) nf) (motive_2:=AD T TB Γ (lv+1) nf)
 (fun e U=>Ed (sx KO hnf CK e).1) (fun U U U=>Gl KO hnf CK) (fun o n e U U=>wk KO (sx KO hnf CK e).1 (sx KO hnf CK o).1) (fun o i e U U=>Ak KO (sx KO hnf CK e).1 (sx KO hnf CK o).1 (sx KO hnf CK i).1)
 (fun o l u e U U U=>Ax KO (sx KO hnf CK e).1 (sx KO hnf CK o).1 (sx KO hnf CK l).1 (sx KO hnf CK u).1) (fun e U=>Fw (sx KO hnf CK e).1) (fun t b o p hb ho=>FW (sx KO hnf CK t).2 hb ho) (fun t b p hb=>Ch (sx KO hnf CK t).2 hb)
 (fun tg sk srcs ps b p hb=>Ge KO (sl KO hnf CK srcs) hb) (fun U=>DC) (fun arg U U U=>Be KO KR (sx KO hnf CK arg).1) sF fun d l=>o9
theorem xss (l:List DS):AD T TB Γ (lv+1) nf l:=List.rec (motive:=AD T TB Γ (lv+1) nf) sF (fun d l=>o9 (xs KO KR hnf CK d)) l
end
end
structure FnB (T:cK) (a:Addr) (ps:List Nat) (fd:FuncData):Prop where
 there:∀h,T.top h->∃o,h.get? a=some o/\o.data= .func fd/\h.CodeRec fd.code fd.qualname/\h.NoLimit
 clo:fd.closure=[]
 glob:fd.globals=mainGlobals
 blt:fd.builtins=builtinsNs
 kind:fd.scope.kind= .function
 cor:fd.scope.isCoroutine=false
 gen:fd.scope.isGenerator=false
 nd:(fd.scope.names.map (·.1)).Nodup
 bind:∀s:Shared,T.top s.heap->∀vals:List Value,vals.length=ps.length->BindsTo s fd ⟨vals,[]⟩ ((ps.map nm).zip vals)
 par:∀n∈ps,n<nmL.length/\(fd.scope.names.lookup (nm n)=some .local\/fd.scope.names.lookup (nm n)=some .cell)
 pnd:ps.Nodup
structure yH (T:cK) (nf:Nat) (a:Addr) (ps:List Nat) (b:List DS) (fd:FuncData):Prop extends FnB T a ps fd where
 body:fd.body= .stmts (DS.toSs b)
 ok:okSs nf (fun x=>fd.scope.names.lookup x) b=true
theorem iJ {prog:Program} {w:World} {A:Around} {s:Shared} {R:Result->Shared->Prop} {a:Addr} {o:Obj} {fd:FuncData} {body:List Stmt} {vals:List Value} {binds:List (PySem.Str×Value)} (hroom:A.depth<recursionLimit) (ho:s.heap.get? a=some o) (hdata:o.data= .func fd) (hlim:s.heap.NoLimit) (hcd:s.heap.CodeRec fd.code fd.qualname) (hbody:fd.body= .stmts body) (hbind:BindsTo s fd ⟨vals,[]⟩ binds) (hclo:fd.closure=[]) (hkind:∀x∈binds,fd.scope.names.lookup x.1=some .local\/(fd.scope.names.lookup x.1=some .cell/\((cellsFrom (s.heap.objs.size+1) fd.scope.names []).lookup x.1).isSome=true)) (h:∀IK,InCallC s (callEnvC fd s.heap.objs.size a).locals (PySem.bindL (callEnvC fd s.heap.objs.size a).kindOf binds fun U=>none) (callEnvC fd s.heap.objs.size a).cells (PySem.bindC (callEnvC fd s.heap.objs.size a).kindOf binds fun U=>none) IK->wpAny (model prog w) (A.deeper (callEnvC fd s.heap.objs.size a)) (execs body (callEnvC fd s.heap.objs.size a)) (fun f s'=>R (.ok (.ret (match f with | .ret v=>v | _=> .none))) s') (fun e s'=>wpAny (model prog w) (A.deeper (callEnvC fd s.heap.objs.size a)) (leaving (callEnvC fd s.heap.objs.size a) e) (fun U s''=>R (.error e) s'') (fun e' s''=>R (.error e') s'') s') IK) (hco:fd.scope.isCoroutine=false) (hgen:fd.scope.isGenerator=false) (hk:fd.scope.kind= .function):codeAny (model prog w) A (.call (.ref a) ⟨vals,[]⟩) R s:=by
 refine codeAny_call_function hroom ho hdata hco hgen hbody hcd (hbind _ _ _ _ ?_);rw [hclo];refine wpAny_newFunctionEnv_cells hk hkind fun env he s' x=> ?_;subst he;exact ⟨hlim.keeps x.toInCall.keep,codeAny_func (h s' x)⟩
theorem yO {n:Nat} {p:Str×NameKind} {r:List (Str×NameKind)} {acc:List (Str×Addr)} (h:p.2= .cell):cellsFrom n (p::r) acc=cellsFrom (n+1) r ((p.1,n)::acc):=if_pos (by rw [h];rfl)
theorem r6 {n:Nat} {p:Str×NameKind} {r:List (Str×NameKind)} {acc:List (Str×Addr)} (h:p.2≠ .cell):cellsFrom n (p::r) acc=cellsFrom n r acc:=if_neg fun q=>h (eq_of_beq q)
theorem lQ (names:List (Str×NameKind)):∀(n:Nat) (acc:List (Str×Addr)) (x:Str),(x,NameKind.cell)∈names\/(∃c,(x,c)∈acc)->∃c,(x,c)∈cellsFrom n names acc:=by
 induction names with
 | nil=>exact fun U U U h=>h.elim (fun h=>fh h) id
 | cons p r ih=>
  intro n acc x h
  by_cases hk:p.2= .cell
  ·rw [yO hk];exact ih _ _ x (h.elim (fun h=>(au.mp h).elim (fun q=> .inr ⟨n,(aB Prod.fst q:x=p.1)▸ .head _⟩) .inl) fun h=> .inr (h.imp fun U=> .tail _))
  ·rw [r6 hk];exact ih _ _ x (h.imp_left fun h=>(au.mp h).elim (fun q=>absurd (aB Prod.snd q).symm hk) id)
theorem jR (names:List (Str×NameKind)):∀(n:Nat) (acc:List (Str×Addr)),(names.map (·.1)).Nodup->(acc.map (·.1)).Nodup->(∀x∈acc,x.1∉names.map (·.1))->((cellsFrom n names acc).map (·.1)).Nodup:=by
 induction names with
 | nil=>exact fun U U U h U=>h
 | cons p r ih=>
  intro n acc h1 h2 h3;have h1:=List.nodup_cons.mp h1
  by_cases hk:p.2= .cell
  ·rw [yO hk];exact ih _ _ h1.2 (List.nodup_cons.mpr ⟨fun hm=>bu (aN.mp hm) fun x hx e=>h3 x hx (e▸ .head _),h2⟩) (aa.mpr ⟨h1.1,fun x hx q=>h3 x hx (.tail _ q)⟩)
  ·rw [r6 hk];exact ih _ _ h1.2 h2 fun x hx q=>h3 x hx (.tail _ q)
theorem il {α:Type} {l:List (Str×α)} {n:Str} {c:α} (nd:(l.map (·.1)).Nodup) (h:(n,c)∈l):l.lookup n=some c:=by
 induction l with
 | nil=>exact fh h
 | cons p r ih=>
  have nd:=List.nodup_cons.mp nd;exact (au.mp h).elim (fun q=>q▸dB rfl) fun h=>(cY fun e=>nd.1 (aN.mpr ⟨(n,c),h,e.symm⟩)).trans (ih nd.2 h)
theorem xe {ko:Str->Option NameKind} {x:Str} (bs:List (Str×Value)):∀(m:Str->Option Value),x∉bs.map (·.1)->PySem.bindL ko bs m x=m x:=by
 induction bs with
 | nil=>exact fun U U=>rfl
 | cons p r ih=>
  intro m h;refine (ih _ fun q=>h (.tail _ q)).trans ?_
  split
  ·exact if_neg fun q:x=p.1=>h (q▸ .head _)
  ·rfl
theorem lF {ko:Str->Option NameKind} {x:Str} {v:Value} (hk:ko x=some .local) (bs:List (Str×Value)):∀(m:Str->Option Value),(bs.map (·.1)).Nodup->(x,v)∈bs->PySem.bindL ko bs m x=some v:=by
 induction bs with
 | nil=>exact fun U U h=>fh h
 | cons p r ih=>
  intro m nd h;have nd:=List.nodup_cons.mp nd;refine (au.mp h).elim (fun q=> ?_) (ih _ nd.2);subst q;exact (xe r _ nd.1).trans ((congrFun (if_pos hk) x).trans (if_pos rfl))
theorem xk {ko:Str->Option NameKind} {x:Str} (bs:List (Str×Value)):∀(m:Str->Option Value),x∉bs.map (·.1)->PySem.bindC ko bs m x=m x:=by
 induction bs with
 | nil=>exact fun U U=>rfl
 | cons p r ih=>
  intro m h;refine (ih _ fun q=>h (.tail _ q)).trans ?_
  split
  ·rfl
  ·exact if_neg fun q:x=p.1=>h (q▸ .head _)
theorem Ag {ko:Str->Option NameKind} {x:Str} {v:Value} (hk:ko x≠some .local) (bs:List (Str×Value)):∀(m:Str->Option Value),(bs.map (·.1)).Nodup->(x,v)∈bs->PySem.bindC ko bs m x=some v:=by
 induction bs with
 | nil=>exact fun U U h=>fh h
 | cons p r ih=>
  intro m nd h;have nd:=List.nodup_cons.mp nd;refine (au.mp h).elim (fun q=> ?_) (ih _ nd.2);subst q;exact (xk r _ nd.1).trans ((congrFun (if_neg hk) x).trans (if_pos rfl))
noncomputable def lY (ps:List Nat) (ds:List V):bv:=dJ ps ds fun U=>none
theorem wn {G:Wd} {n:Nat} {d:V} {ps:List Nat}:∀{vs:List Value} {ds:List V} {H:bv},ps.Nodup->VRs G ds vs->ps.length=ds.length->dJ ps ds H n=some d->(n∈ps/\∃v,(nm n,v)∈(ps.map nm).zip vs/\VR G d v)\/H n=some d:=by
 induction ps with
 | nil=>exact fun U U U h=> .inr h
 | cons p ps ih=>
  intro vs ds H nd vr hl h
  cases ds with
  | nil=>exact absurd hl (Nat.succ_ne_zero _)
  | cons d0 ds=>
   cases vs with
   | nil=>exact vr.elim
   | cons v vs=>
    refine (ih (List.nodup_cons.mp nd).2 vr.2 (Nat.succ.inj hl) h).elim (fun q=> .inl ⟨.tail _ q.1,q.2.imp fun U q=>⟨.tail _ q.1,q.2⟩⟩) fun q=> ?_
    by_cases e:n=p
    ·rw [e,bv.set_same] at q;exact .inl ⟨e▸ .head _,v,e▸ .head _,bW q▸vr.1⟩
    ·rw [bv.set_ne _ _ e] at q;exact .inr q
noncomputable def flV:Fl->V
 | .ret v=>v
 | _=> .none
noncomputable def CX:Flow->Value
 | .ret v=>v
 | _=> .none
theorem yr {G:Wd} {fl:Fl} {f:Flow} (h:FlR G fl f):VR G (flV fl) (CX f):=by
 cases fl with
 | ret d=>refine bu h fun v y1 r=> ?_;subst y1;exact r
 | _=>rw [show f=_ from h];rfl
noncomputable def cQ (Q:KV):KF:=fun fl U Y=>xA Q (flV fl) Y
section
variable {T:cK} {C:Cx} {H:bv} {Y:be} {h:Heap} {e:Env} {fd:FuncData} {a:Addr} {A:Around} {lv:Nat}
noncomputable def jj (l:List Env) (e:Env):Cx:=⟨e,true,e::l⟩
structure Ab (A:Around) (l:List Env) (lv:Nat):Prop where
 handled:A.handled=none
 frames:A.frames=some l
 depth:A.depth+5*lv<=900
 units:A.units+100*lv<=9000
theorem Ac.ab (h:Ac T A C lv):Ab A C.envs lv:=⟨h.handled,h.frames,h.depth,h.units⟩
variable {l:List Env}
noncomputable abbrev Fi (s:Shared) (e:Env) (ps:List Nat) (vs:List Value) (IK:Shared):Prop:=InCallC s e.locals (PySem.bindL e.kindOf ((ps.map nm).zip vs) fun U=>none) e.cells (PySem.bindC e.kindOf ((ps.map nm).zip vs) fun U=>none) IK
theorem oU (nd:(fd.scope.names.map (·.1)).Nodup) (n:Nat):((cellsFrom n fd.scope.names []).map (·.1)).Nodup:=jR _ _ _ nd List.nodup_nil (fun U h=>(fh h))
theorem kZ (nd:(fd.scope.names.map (·.1)).Nodup) (n:Nat) {x:Str} (h:fd.scope.names.lookup x=some .cell):∃c,(cellsFrom n fd.scope.names []).lookup x=some c:=dU (lQ fd.scope.names n [] x (.inl (mem_of_lookup h))) fun c hc=>⟨c,il (oU nd n) hc⟩
theorem FnB.binds {ps:List Nat} {vs:List Value} (F:FnB T a ps fd) (hlen:vs.length=ps.length) (m:Nat):∀y∈(ps.map nm).zip vs,fd.scope.names.lookup y.1=some .local\/(fd.scope.names.lookup y.1=some .cell/\((cellsFrom m fd.scope.names []).lookup y.1).isSome=true):=fun y hy=>by
 have hy1:y.1∈((ps.map nm).zip vs).map (·.1):=aN.mpr ⟨y,hy,rfl⟩;rw [List.map_fst_zip (by rw [ah];lia)] at hy1;refine bu (aN.mp hy1) fun n hn e=> ?_;rw [<-e];rcases (F.par n hn).2 with h | h
 ·exact .inl h
 ·refine dU (kZ F.nd m h) fun c hc=> ?_;exact .inr ⟨h,by rw [hc];rfl⟩
theorem uW {ps:List Nat} {vs:List Value} {s IK:Shared} (hA:Ab A l (lv+2)) (F:FnB T a ps fd) (I:Fi s (callEnvC fd s.heap.objs.size a) ps vs IK) (st:St T Y s.heap):Ac T (A.deeper (callEnvC fd s.heap.objs.size a)) (jj l (callEnvC fd s.heap.objs.size a)) (lv+1):=by
 have lo:=T.size st.top
 exact ⟨F.kind,F.glob,F.blt,fun U=>I.apart,fun U x hx=>by obtain ⟨c,hc⟩:=kZ F.nd (s.heap.objs.size+1) hx;exact by rw [show (jj l (callEnvC fd s.heap.objs.size a)).env.cells.lookup x=some c from hc];rfl,fun U=>rfl,fun U=>⟨_,rfl⟩,lo,fun x c hc=>aj lo (a6 (I.above x c hc)),hA.handled,
  Around.frames_deeper hA.frames,by have:=hA.depth;show A.depth+1+_<=_;lia,by have:=hA.units;show A.units+3+_<=_;lia⟩
theorem vP {ps:List Nat} {vs:List Value} {ds:List V} {s IK:Shared} (st:St T Y s.heap) (fr':fY T Y s.heap l) (F:FnB T a ps fd) (I:Fi s (callEnvC fd s.heap.objs.size a) ps vs IK) (hl:ps.length=ds.length) (vr:VRs (G Y s.heap) ds vs):Rl T (jj l (callEnvC fd s.heap.objs.size a)) (lY ps ds) Y IK.heap:=by
 have hk:dS s.heap IK.heap:=I.toInCall.keep;have le:=d9 (Y:=Y) hk;have hlen:vs.length=ds.length:=vr.length
 have znd:(((ps.map nm).zip vs).map (·.1)).Nodup:=by
  rw [List.map_fst_zip (by rw [ah];lia)];exact List.Pairwise.map nm (fun a b (q:a≠b/\a<nmL.length/\b<nmL.length) r=>q.1 (lD q.2.1 q.2.2 r)) ((List.Pairwise.and_mem.mp F.pnd).imp fun z=>lL z fun h1 h2 h3=>⟨h3,(F.par _ h1).1,(F.par _ h2).1⟩)
 have par:∀{n d},lY ps ds n=some d->n∈ps/\∃v,(nm n,v)∈(ps.map nm).zip vs/\VR (G Y s.heap) d v:=fun q=>(wn F.pnd vr hl q).elim id fun q=>bZ q;have fr:=fun {b:Addr} (hb:s.heap.objs.size<=b)=>st.free (bB hb);refine ⟨st.grow hk,⟨_,I.toInCall.ns,fun n d q=> ?_⟩,fun n d q hkd=> ?_,fun x c hc=>⟨fr (a6 (I.above x c hc)),_,I.cell x c (il (oU F.nd _) hc)⟩,fr (av _),fun e he=> ?_⟩
 ·refine cr fun hn=> ?_;obtain ⟨h1,v,h2,h3⟩:=par q;exact hn (⟨(F.par n h1).1,fun hkd=>⟨v,lF hkd _ _ znd h2,h3.mono le⟩⟩)
 ·obtain ⟨h1,v,h2,h3⟩:=par q;obtain ⟨c,hc⟩:=kZ F.nd (s.heap.objs.size+1) hkd;refine ⟨c,v,hc, ?_,h3.mono le⟩;have:=I.cell _ _ hc;rw [Ag (fun q=>by rw [show (callEnvC fd s.heap.objs.size a).kindOf (nm n)=some .cell from hkd] at q;(replace q:=bW q;cases q)) _ _ znd h2] at this;exact this
 ·rcases au.mp he with rfl | he
  ·exact ov (I.toInCall.ns) fun o es ep e1 e2 U=>⟨fun q=>ScopeKind.noConfusion (F.kind.symm.trans q),_,o,rfl,(T.size st.top),fr (av _),e1,es,ep,e2⟩
  ·refine cr fun hn=> ?_;obtain ⟨f1,L,o,f2,f3,f4,f5,f6⟩:=fr' e he;exact hn ⟨f1,L,o,f2,f3,f4,hk _ _ f5,f6⟩
theorem hH.new {ps:List Nat} {vs:List Value} {s IK:Shared} (I:Fi s (callEnvC fd s.heap.objs.size a) ps vs IK) {b:Addr} (h:hH (jj l (callEnvC fd s.heap.objs.size a)) b):s.heap.get? b=none:=by
 rcases h with rfl | ⟨U,x,hx⟩
 ·exact bB (av _)
 ·exact bB (a6 (I.above x b hx))
noncomputable def Xc.back {C':Cx} {HY HZ:Heap} {e:Value} {d:V} (x:Xc T C' HZ Y e d h) (R:Rl T C H Y h) (le:∀b,HZ.get? b=none->HY.get? b=none):Xc T C HY Y e d h:=
 ⟨H,x.a,x.dx,x.oe,x.od,x.vs,x.v,x.t,x.n,x.fl,R,x.he,x.ga,x.ca,x.da,x.di,x.sz,le _ x.new,x.out,x.gd,x.dd,x.cd,le _ x.dnew,x.dout,x.val,x.tb.base le,x.alo⟩
theorem nB {TB:eT} {Kf:Frag} {Γ:dW} {nf:Nat} (KO:cc T TB Kf) (KR:ju T) (hnf:nf<=56) (CK:∀i,i<nf->fF T Γ (lv+1) i) {ps:List Nat} {b:List DS} (F:yH T nf a ps b fd) {s:Shared} {Q X:KV} {R:Result->Shared->Prop} {vs:List Value} {ds:List V} (hA:Ab A l (lv+2)) (st:St T Y s.heap) (fr:fY T Y s.heap l) (vr:VRs (G Y s.heap) ds vs) (hl:ps.length=ds.length) (q:exDs TB Γ b (lY ps ds) Y (cQ Q) X) (k:Kv T Y s Q (fun v s'=>R (.ok (.ret v)) s')) (kx:∀e d Y' h' tk,To T Nl Y s.heap Y' h'->(∀{C H},Rl T C H Y' h'->XR T C s.heap Y' e d h')->X d Y'->R (.error e) (put s h' tk)):codeAny (model T.prog T.w) A (.call (.ref a) ⟨vs,[]⟩) R s:=by
 have tp:=st.top;refine Eb (F.there _ tp) fun o f1 f2 f3 f4=> ?_;have hlen:vs.length=ps.length:=vr.length.trans hl.symm;refine iJ (by have:=hA.depth;delta recursionLimit;lia) f1 f2 f4 f3 F.body (F.bind s tp vs hlen) F.clo (F.toFnB.binds hlen _) (fun IK I=> ?_) F.cor F.gen F.kind
 ·have I:Fi s (callEnvC fd s.heap.objs.size a) ps vs IK:=I;have hA':=uW hA F.toFnB I st;refine cr fun hn=> ?_;obtain ⟨HZ,IQ,HL⟩:=I.toInCall.same;refine hn ?_;have IV:=To.grow (L:=Nl) st I.toInCall.keep;have down:∀{Y' h'},To T (hH (jj l (callEnvC fd s.heap.objs.size a))) Y IK.heap Y' h'->To T Nl Y s.heap Y' h':=fun t=>(IV.up.trans t).drop fun b o e w=>bS e (hH.new I w);refine xss KO KR hnf CK b rfl hA' F.ok (vP st fr F.toFnB I hl vr) q (fun fl f H' Y' h' tk t R' fr' q'=> ?_) (fun e d Y' h' tk t x hx=> ?_)
  ·refine eJ q' fun v' σ'' z zv q''=> ?_;rw [HL];have res:=k (CX f) v' σ'' h' tk ((down t).trans (To.freeze t.st z)) (zv.vr R'.st z (yr fr')) q''
   cases f<;>exact res
  ·refine dU x fun x U=>(gv fun Q1z E1z hQ1z hE1z=> ?_);refine ae (iG rfl hA' x t (fun H0 Jb Hi IZ=> ?_));refine eO (s:=put IK H0 tk) Jb (by rw [Hi];exact fun q=>gq q) IZ (fun H1 Jc Hj I0=> ?_);have I2:=down I0;rw [HL];exact hQ1z _ _ (kx e d Y' H1 tk I2 (fun R=>⟨Jc.back R fun b=>IV.new, .inr (.inl Hj)⟩) hx)
theorem Kx.call {s:Shared} {X:KV} {E:Value->Shared->Prop} (kx:Kx T C Y s X E) (R:Rl T C H Y s.heap):∀e d Y' h' tk,To T Nl Y s.heap Y' h'->(∀{C H},Rl T C H Y' h'->XR T C s.heap Y' e d h')->X d Y'->E e (put s h' tk):=fun e d Y' h' tk t x q=>kx e d Y' h' tk t.up (x (R.to0 t)) q
theorem BI {TB:eT} {Kf:Frag} {Γ:dW} {nf:Nat} (KO:cc T TB Kf) (KR:ju T) (hnf:nf<=56) (CK:∀i,i<nf->fF T Γ (lv+1) i) {i:Nat} {ps:List Nat} {b:List DS} (F:yH T nf (bX i) ps b fd) {P:List V->be->KV->KV->Prop} (hΓ:∀{ds:List V} {Y:be} {Q X:KV},P ds Y Q X->ps.length=ds.length/\exDs TB Γ b (lY ps ds) Y (cQ Q) X):eI T P (lv+2) i:=fun hA R vr q k kx=>by
 obtain ⟨q1,q2⟩:=hΓ q;exact wpAny_call (nB KO KR hnf CK F hA.ab R.st R.fr vr q1 q2 k (kx.call R))
theorem eI.low {P:List V->be->KV->KV->Prop} {i:Nat} (h:eI T P lv i):eI T P (lv+1) i:=fun hA R vr q k kx=>h hA.low R vr q k kx
end
end Mine
end
section
namespace Mine
open PySem PySem.W PyProof.Rows PySem.Calls PySem.SeqAt Builtin
noncomputable def n5:List Value:=[.ref 32, .type "Exception", .type "BaseException", .type "object"]
noncomputable def gS:Obj:=excClassObj "BadInfo" "BadInfo" 45 44 [.ref 32] n5 true [] [] false none none (some (.ref 36)) none (some (.str "BadInfo" 226)) (some (.str "BadInfo" 234)) (some (.bool true)) "Exception.__new__"
noncomputable def pc:List Stmt:=[.Assign [.Attribute (.Name "self" ⟨9,8,9,12⟩) "told" ⟨9,8,9,17⟩] (.Name "told" ⟨9,20,9,24⟩) ⟨9,8,9,24⟩]
structure tT (T:cK) (K:Frag) (fd:FuncData):Prop extends FnB T 29 [70,62] fd where
 obj:K.lookup 45=some gS
 set:findIn K (.ref 45) "__setattr__" =some (some (.builtin "object.__setattr__"))
 init:findIn K (.ref 45) "__init__" =some (some (.ref 29))
 fn:typeIn K (.ref 29)=some (.type "function")
 told:takerIn K 45 "told" =some none
 call:specialIn K (.ref 45) "__call__" =some (some (.builtin "type.__call__"))
 typ:instIn K (.ref 45) (.type "type")=some true
 body:fd.body= .stmts pc
 l1:fd.scope.names.lookup (nm 70)=some .local
 l2:fd.scope.names.lookup (nm 62)=some .local
section
variable {prog:Program} {w:World} {A:Around} {R:Result->Shared->Prop} {h:Heap} {g:Array GenState} {d:Drawn} {t:Nat} {os:OsState}
noncomputable abbrev Cg (h:Heap) (rest:List Value):Heap:=(h.push {cls:= .type "tuple",data:= .seq rest.toArray}).push {cls:= .ref 45,data:= .fields #[.ref h.objs.size, .none, .none, .none, .bool false, .none]}
theorem DF {rest:List Value} (hC:h.get? 45=some gS) (hq:R (.ok (.ret (.ref (h.objs.size+1)))) ⟨Cg h rest,g,d,t,os⟩) (hrest:rest.length<=sizeLine):codeAny (model prog w) A (.call (.builtin "Exception.__new__") ⟨.ref 45::rest,[]⟩) R ⟨h,g,d,t,os⟩:=by
 have Fn:=PySem.F.excBase_Exception;unfold gS at hC;have hcont:(Value.ref 45::n5).contains (.type "Exception")=true:=by decide+kernel
 have hcA:(Value.ref 45::n5).contains (.type "AttributeError")=false:=by decide+kernel
 have hends:=Fn.ends;refine codeAny_call_builtin_code (Code.quiet_builtin _ Fn.quiet) ?_;rw [checkBuiltinCall,Fn.newKind,Fn.newSplit,Fn.newRow]
 repeat (first | refine wpAny_loadPart_at hC ?_ | (refine wpAny_isSubtype_exc hC ?_;rw [hcont]) | refine wpAny_staticBase_exc hC ?_ | refine wpAny_madeBy_exc hC ?_ | rfl | wp_step)
 refine codeAny_builtinAt Fn.entry (PySem.wpAt_bind ?_);refine PySem.wpAt_bind (PySem.wpAt_stack fun p below=>PySem.wpAt_of_wpAny ?_)
 wp_walk
 refine PySem.wpAt_of_wpAny ?_;rw [Fn.owner]
 repeat (first | with_reducible refine wpAny_madeHere_exc Fn.canon hC ?_ | with_reducible refine wpAny_loadPart_at hC ?_ | (with_reducible refine wpAny_isSubtype_exc hC ?_;first | rw [hcont] | rw [hcA] | rw [(show (Value.ref 45::n5).contains (.type "NameError")=false by decide+kernel)]) | wp_step)
 show R _ _;rw [Heap.size_push];exact hq
end
end Mine
end
section
namespace Mine
open PySem PySem.W PyProof.Rows PySem.Calls PySem.SeqAt Builtin Builtin.ObjectAttr
section
variable {prog:Program} {w:World} {A:Around} {s:Shared} {K:Frag} {x:Addr} {v:Value}
noncomputable abbrev fT (w:World) (t:Tok) (v:Value):DictEntry:=⟨PyData.keyHash w.params "told", .str "told" t,v⟩
theorem yg {E:Value->Shared->Prop} {Q:Unit->Shared->Prop} (X:K.In s.heap) (ho:K.lookup 45=some gS) (hs:findIn K (.ref 45) "__setattr__" =some (some (.builtin "object.__setattr__"))) (ht:takerIn K 45 "told" =some none) {vs:Array Value} (hx:s.heap.get? x=some {cls:= .ref 45,data:= .fields vs})
  (k:∀h' tk n t,(∀b o,b≠x->s.heap.get? b=some o->h'.get? b=some o)->h'.get? x=some {cls:= .ref 45,dict:=some s.heap.objs.size,data:= .fields vs}->
   h'.get? s.heap.objs.size=some {cls:= .type "dict",data:= .dict #[fT w t v] n}->Q () {s with heap:=h',toks:=tk}):
  wpAny (model prog w) A (setAttr (.ref x) "told" v) Q E s:=by
 have I:InstAt s.heap x {cls:= .ref 45,data:= .fields vs} 45 none:=⟨hx,rfl,rfl,trivial⟩;refine set_plain X I hs ?_;have SF:=PySem.F.store_Exception;refine cr fun hn=> ?_;obtain ⟨cd,hc,hm,hd⟩:∃cd,clsIn K 45=some cd/\cd.mro= .ref 45::n5/\cd.hasDict=true:=⟨_,by unfold clsIn;refine bi ho ?_;rfl,rfl,rfl⟩;refine hn ?_;refine codeAny_call_builtin SF.slot.plain SF.entry (@check_slot (model prog w) _ _ {s with toks:=s.toks+1} "object.__setattr__" "object" "__setattr__" (.ref x) [.str "told" s.toks,v] [] _ SF.kind SF.split (I.type.andThen (looks_mroIn X (by unfold mroIn;refine bi hc ?_;rw [Option.bind_some,hm];rfl))) (SF.args _ _ _) ?_);refine gv fun Q1z E1z hQ1z hE1z=>(bu (aK.mp ht) fun attr ha hr=> ?_)
 have L3:Looks (model prog w) s.heap (storeTaker? attr) none:=by
  cases attr with
  | none=>exact .now
  | some a=>
   refine bu (aL.mp hr) fun b hb hbb=>((looks_takesIn X hb).andThen ?_)
   cases b<;>first | exact .now | exact gq hbb
 have here:=fun {α:Type} {m:Sem α} {a:α} (L:Looks (model prog w) s.heap m a) {Q:α->Shared->Prop} {E:Value->Shared->Prop} {A:Around} (q:Q a {s with toks:=s.toks+1})=>L.here (A:=A) (E:=E) (s:={s with toks:=s.toks+1}) q;rw [osa_eq,refuse_eq];refine ae (ae (here I.type (ae (here (show Looks (model prog w) s.heap (mroOf (.ref 45)) cd.mro from (looks_clsIn X hc).andThen .now) ?_))));refine bi hm ?_;rw [n5,refuseLoop_ref,refuseLoop_ref,SF.passes];refine am (ae (here I.type (ae (here (looks_findIn X ha) (ae (here L3 ?_))))));refine ae (am (ae (ae (wpAny_loadPart hx (ae (here (looks_clsIn X hc) ?_))))));refine bi hd ?_;have HU:(s.heap.push {cls:= .type "dict",data:= .dict #[]}).get? x=some {cls:= .ref 45,data:= .fields vs}:=aW _ hx;have hxs:x≠s.heap.objs.size:=Nat.ne_of_lt (Heap.lt_size hx);refine ae (wpAny_alloc (ae (wpAny_update HU (am (ae ?_)))));refine am (ae ?_)
 have hD:((s.heap.push {cls:= .type "dict",data:= .dict #[]}).update x fun o=>{cls:=o.cls,dict:=some s.heap.objs.size,data:=o.data,slots:=o.slots}).get? s.heap.objs.size=some {cls:= .type "dict",data:= .dict #[]}:=
  (Heap.get?_update_ne _ _ _ _ hxs.symm).trans (Heap.get?_push_at rfl rfl)
 refine ae (ae (wpAny_askSetting (am (ae (wpAny_mkText (ae (wpAny_loadPart hD ?_)))))))
 have D':∀tk,(((s.heap.push {cls:= .type "dict",data:= .dict #[]}).update x fun o=>{cls:=o.cls,dict:=some s.heap.objs.size,data:=o.data,slots:=o.slots}).update s.heap.objs.size (Obj.putName "told" (PyData.keyHash w.params "told") (.str "told" tk) v)).get? s.heap.objs.size=
   some {cls:= .type "dict",data:= .dict #[fT w tk v] 1}:=fun tk=>by
  have e:Obj.putName "told" (PyData.keyHash w.params "told") (.str "told" tk) v {cls:= .type "dict",data:= .dict #[]}={cls:= .type "dict",data:= .dict #[fT w tk v] 1}:=by refine bi Obj.putName_eq ?_;simp [Obj.putNameByArray]
  refine bi (Heap.get?_update_self _ hD (by rw [e];rfl)) ?_;refine bi e ?_;rfl
 refine wpAny_updatePart hD (ae (wpAny_lookBehind (D' _) (by exact pastItsLine_dict (show (1:Nat)<=sizeLine+1 by decide)) ?_));refine am (hQ1z _ _ ?_);refine k _ _ _ _ (fun b o hb e=> ?_) ?_ (D' _)
 ·exact (Heap.get?_update_ne _ _ _ _ (Nat.ne_of_lt (Heap.lt_size e))).trans ((Heap.get?_update_ne _ _ _ _ hb).trans (aW _ e))
 ·exact (Heap.get?_update_ne _ _ _ _ hxs).trans (Heap.get?_update_self _ HU rfl)
end
theorem mC (c:Addr) (rest:List Value):(Code.builtin "type.__call__" ⟨.ref c::rest,[]⟩).weight=1:=by kernel_rfl
theorem Bl (c:Addr) (rest:List Value):(Code.builtin "type.__call__" ⟨.ref c::rest,[]⟩).envs=[]:=by kernel_rfl
theorem y5 (c:Addr) (rest:List Value):(Code.builtin "type.__call__" ⟨.ref c::rest,[]⟩).cUnits=1:=by kernel_rfl
theorem Ac.made {T:cK} {A:Around} {C:Cx} {lv:Nat} (h:Ac T A C (lv+1)) (c:Addr) (rest:List Value):Ac T (A.under (.builtin "type.__call__" ⟨.ref c::rest,[]⟩)) C lv:=
 {h with frames:=by delta Around.under;rw [Bl];exact h.frames,depth:=by delta Around.under;dsimp only;rw [mC];have:=h.depth;lia,units:=by delta Around.under;dsimp only;rw [y5];have:=h.units;lia}
section
variable {T:cK} {prog:Program} {w:World} {A:Around} {K:Frag} {fd:FuncData} {R:Result->Shared->Prop} {s:Shared} {v:Value}
theorem B2 {x:Addr} {vs:Array Value} (X:K.In s.heap) (B:tT T K fd) (tp:T.top s.heap) (hd:A.depth<1000) (hx:s.heap.get? x=some {cls:= .ref 45,data:= .fields vs})
  (k:∀h' tk dx n t,(∀b o,b≠x->s.heap.get? b=some o->h'.get? b=some o)->h'.get? x=some {cls:= .ref 45,dict:=some dx,data:= .fields vs}->
   s.heap.get? dx=none->h'.get? dx=some {cls:= .type "dict",data:= .dict #[fT w t v] n}->R (.ok (.ret .none)) {s with heap:=h',toks:=tk}):
  codeAny (model prog w) A (.call (.ref 29) ⟨[.ref x,v],[]⟩) R s:=by
 refine Eb (B.there _ tp) fun o f1 f2 f3 f4=> ?_;have l1:(callEnvC fd s.heap.objs.size 29).kindOf "self" =some .local:=B.l1;have l2:(callEnvC fd s.heap.objs.size 29).kindOf "told" =some .local:=B.l2;refine iJ (by delta recursionLimit;assumption) f1 f2 f4 f3 B.body (B.bind s tp [.ref x,v] rfl) B.clo (B.toFnB.binds rfl _) (fun IK I=> ?_) B.cor B.gen B.kind
 ·have I:InCallC s (callEnvC fd s.heap.objs.size 29).locals (PySem.bindL (callEnvC fd s.heap.objs.size 29).kindOf [(("self" :PySem.Str),Value.ref x),(("told" :PySem.Str),v)] fun U=>none) (callEnvC fd s.heap.objs.size 29).cells (PySem.bindC (callEnvC fd s.heap.objs.size 29).kindOf [(("self" :PySem.Str),Value.ref x),(("told" :PySem.Str),v)] fun U=>none) IK:=I;have kp:=I.toInCall.keep;have HU:=kp _ _ hx;refine oo (I.toInCall.same) fun HZ IQ HL=> ?_;have nd:(([(("self" :PySem.Str),Value.ref x),(("told" :PySem.Str),v)]:List (PySem.Str×Value)).map (·.1)).Nodup:=by simp only [aR,List.map_nil];decide+kernel
  refine wpAny_execs_cons (wpAny_Assign_stores ?_ rfl rfl);refine NameLC I B.kind l2 (lF l2 _ _ nd (.tail _ (.head _))) ?_ (by decide+kernel);refine ae (aH (NameLC I B.kind l1 (lF l1 _ _ nd (.head _)) ?_ (by decide+kernel)));refine ae (wpAny_standAt (ae (aH ?_)));rw [HL] at HU kp ⊢;refine yg (fun a o e=>kp _ _ (X a o e)) B.obj B.set B.told HU (fun h' tk n t h1 h2 h3=>wpAny_release (wpAny_execs_nil ?_));refine k h' tk _ n t (fun b o hb e=>h1 b o hb (kp b o e)) h2 ?_ h3
  cases e:s.heap.get? HZ.objs.size with
  | none=>rfl
  | some o=>exact absurd (Heap.lt_size (kp _ _ e)) (Nat.lt_irrefl _)
theorem Br (X:K.In s.heap) (B:tT T K fd) (tp:T.top s.heap) (hd:A.depth<900) (k:∀h' tk x tx dx n t,(∀b o,s.heap.get? b=some o->h'.get? b=some o)->s.heap.objs.size<=x->s.heap.get? dx=none->dx≠x->h'.get? x=some {cls:= .ref 45,dict:=some dx,data:= .fields #[.ref tx, .none, .none, .none, .bool false, .none]}->
   h'.get? dx=some {cls:= .type "dict",data:= .dict #[fT w t v] n}->R (.ok (.ret (.ref x))) {s with heap:=h',toks:=tk}):
  codeAny (model prog w) A (.call (.ref 45) ⟨[v],[]⟩) R s:=by
 obtain ⟨h,g,d,t,os⟩:=s;have hC:h.get? 45=some gS:=X _ _ B.obj;have made:Looks (model prog w) h (Bind.madeBy (.ref 45)) (some "Exception.__new__"):=fun A Q E s k q=>wpAny_madeBy_exc (k _ _ hC) q;have self:Looks (model prog w) h (isSubtype (.ref 45) (.ref 45)) true:=fun A Q E s k q=>wpAny_isSubtype_exc (k _ _ hC) q;have hi:Looks (model prog w) h (typeLookup (.ref 45) "__init__") (some (.ref 29)):=looks_findIn X B.init;refine codeAny_of_tree (nd_load hC ?_);show wpAny _ _ (callAny.viaDunder (.ref 45) _) _ _ _;refine ae ((looks_specialIn X B.call).at ?_);refine ae (am (ae (am ?_)));refine am (a:=Fin.again (.call (.builtin "type.__call__") ⟨[.ref 45,v],[]⟩)) (And.intro rfl ?_);refine codeAny_call_builtin_at (Code.quiet_builtin _ (by decide+kernel)) entry_typeCall (check_slot tc_kind tc_split (looks_instIn X B.typ) (tc_args _ _ _) ?_);have hm:Looks (model prog w) h (mroOf (.ref 45)) (.ref 45::n5):=((Looks.ld (part:=none) hC).andThen .now).andThen .now
 repeat (first | rfl | with_reducible refine wpAny_call ?_ | lk)
 refine DF hC ?_ (by simp [sizeLine]);have kp:∀b o,h.get? b=some o->(Cg h [v]).get? b=some o:=fun b o e=>aW _ (aW _ e);have hx:(Cg h [v]).get? (h.objs.size+1)=some {cls:= .ref 45,data:= .fields #[.ref h.objs.size, .none, .none, .none, .bool false, .none]}:=by heap_get
 have t1:Looks (model prog w) (Cg h [v]) (typeOf (.ref (h.objs.size+1))) (.ref 45):=(Looks.ld hx).andThen .now;have s1:=self.keeps kp;have i1:=hi.keeps kp;have b1:=((fun self=>bind_fn X self B.fn:∀self,Looks (model prog w) h (bindSpecial (.ref 29) self) (.ref 29,[self])) (.ref (h.objs.size+1))).keeps kp
 repeat (first | with_reducible refine wpAny_call ?_ | lk)
 refine B2 (fun a o e=>kp _ _ (X a o e)) B (T.keep tp fun a o U e=>kp a o e) ?_ hx (fun h' tk dx n t' k1 k2 k3 k4=> ?_)
 ·show A.depth+_<_;rw [mC];exact az ‹_› (ad rfl)
 ·have hxn:h.get? (h.objs.size+1)=none:=Heap.get?_none_of_le (Nat.le_succ _);refine am (am ?_);refine k h' tk _ _ dx n t' (fun b o e=>k1 b o (fun q=>by rw [q,hxn] at e;exact bZ e) (kp _ _ e)) (Nat.le_succ _) ?_ (fun q=>by rw [q,hx] at k3;exact gq k3:dx≠h.objs.size+1) k2 k4
  cases e:h.get? dx with
  | none=>rfl
  | some o=>rw [kp _ _ e] at k3;exact gq k3
end
section
variable {T:cK} {TB:eT} {Kf:Frag} {fd:FuncData}
theorem raises (KO:cc T TB Kf) (B:tT T Kf fd):ju T where
 bad:=fun {A C H Y s K E v d lv} hf hA R vr k=>by
  have tp:=R.st.top;refine wpAny_call (Br (KO.inn _ tp) B tp (by have:=hA.depth;lia) (fun h' tk x tx dx n t k1 k2 k3 k4 k5 k6=> ?_));have IW:=To.grow (L:=Nl) R.st k1;have fx:=bB k2;exact k (.ref x) h' tk ⟨H,x,dx,_,_,_,v,t,n,none,R.to0 IW,rfl,k5,rfl,rfl,rfl,rfl,fx,R.st.free fx,k6,rfl,rfl,k3,R.st.free k3,vr.mono IW.gle,rfl,aj (T.size tp) k2⟩ rfl IW
 thr:=fun {A C Y Jn s HY L Q E e d} hh x hfl t k=>by
  have X:=KO.inn _ x.rel.st.top;have hC45:s.heap.get? 45=some gS:=X _ _ B.obj;have d0:=x.tb;rw [hfl] at d0;have d0:x.vs[1]? =some .none:=d0;have e1:=x.ga;have kk:=k s.heap s.toks x hfl t;rw [x.he] at kk ⊢;obtain ⟨h,g,dr,tk,os⟩:=s;have c:=x.ca;have dd:=x.da;generalize x.oe=oe at e1 c dd;generalize x.vs=vs at d0 dd;generalize x.a=a at e1 kk ⊢;obtain ⟨oc,odd,oda,osl⟩:=oe;dsimp only at c dd;subst c dd;unfold gS at hC45
  repeat (first | (with_reducible refine wpAny_field e1 rfl d0 ?_) | with_reducible refine wpAny_loadPart_at e1 ?_ | with_reducible refine wpAny_loadPart_at hC45 ?_ | (with_reducible refine wpAny_isSubtype_exc hC45 ?_;rw [(show (Value.ref 45::n5).contains (.type "BaseException")=true by decide+kernel)]) | wp_step)
  exact wpAny_raiseNew_none hh kk
end
structure jm (T:cK) (TB:eT) (Kf:Frag) (fd29:FuncData):Prop where
 K:cc T TB Kf
 bad:tT T Kf fd29
 makes:∀c,i8 c=true->makesIn Kf c=true
section
variable {T:cK} {TB:eT} {Kf:Frag} {fd29:FuncData} {Γ:dW} {lv nf:Nat}
theorem jm.R (W:jm T TB Kf fd29):ju T:=raises W.K W.bad
theorem yb (W:jm T TB Kf fd29) (hnf:nf<=56) (CK:∀i,i<nf->fF T Γ (lv+1) i) {i:Nat} {f:Addr} {ps:List Nat} {b:List DS} {fd:FuncData} (F:yH T nf f ps b fd) (hc:i8 (bX i)=true) (hi:findIn Kf (.ref (bX i)) "__init__" =some (some (.ref f))) (hf:typeIn Kf (.ref f)=some (.type "function")) {P:List V->be->KV->KV->Prop} (hΓ:∀{ds:List V} {Y:be} {Q X:KV},P ds Y Q X->ps.length=ds.length+1/\∀a dx,Y a=none->Y dx=none->a≠dx->exDs TB Γ b (lY ps (.ref a::ds)) ((Y.set dx (.idict [])).set a (.inst (bX i) dx)) (cQ fun v Y'=>v= .none/\Q (.ref a) Y') X):eI T P (lv+3) i:=fun {A C H Y s Q X K E vs ds} hA R vr q k kx=>by
 obtain ⟨q1,q2⟩:=hΓ q;have XK:=W.K.inn _ R.st.top;refine wpAny_call ?_;obtain ⟨h,g,dr,t,os⟩:=s;refine make_core (makes_of XK (W.makes _ hc)) (looks_findIn XK hi) (fun self=>bind_fn XK self hf) (.inl rfl) ?_;have t1:=To.alloc (L:=Nl) (d:= .idict []) R.st (bA h emptyDict) (av _) (aF _ rfl) ⟨[],0,rfl,rfl⟩;have t2:=To.alloc (L:=Nl) (d:= .inst (bX i) h.objs.size) t1.st (bA _ (instObj (bX i) h.objs.size)) (av _) (aF _ rfl) ⟨rfl,hc⟩;rw [(Heap.size_push ..)] at t2;have tt:=t1.trans t2;refine nB (s:=⟨(h.push emptyDict).push (instObj (bX i) h.objs.size),g,dr,t,os⟩) (ds:= .ref (h.objs.size+1)::ds) W.K W.R hnf CK F (hA.made _ _).ab tt.st (R.to0 tt).fr ⟨rfl,vr.mono tt.gle⟩ q1 (q2 _ _ (R.st.free (bB (Nat.le_succ _))) (R.st.free (bB (av _))) (Nat.succ_ne_self _)) (fun v d Y' h' tk t' vr' q'=> ?_) ((kx.after0 tt).call (R.to0 tt));obtain ⟨rfl,q'⟩:=q';subst vr';exact ⟨rfl,k _ (.ref _) _ h' tk (tt.trans t') rfl q'⟩
end
section
variable {prog:Program} {w:World} {A:Around} {E:Value->Shared->Prop} {s:Shared} {K:Frag} {x:Addr} {ox:Obj} {od:Option Obj} {name:PySem.Str} {Q:Value->Shared->Prop}
theorem BW {v:Value} (X:K.In s.heap) (I:InstAt s.heap x ox 45 od) (ho:K.lookup 45=some gS) (hga:findIn K (.ref 45) "__getattribute__" =some (some (.builtin "BaseException.__getattribute__"))) (hgt:findIn K (.ref 45) "__getattr__" =some none) (hf:findObj K 45 od name=some (.value v)) (hh:handedIn v=true) (h:Q v {s with toks:=s.toks+1}):wpAny (model prog w) A (getAttr (.ref x) name true) Q E s:=by
 obtain ⟨hp,g,d,t,os⟩:=s;have L0:=I.type (M:=model prog w);have hC:hp.get? 45=some gS:=X _ _ ho;refine ae (wpAny_mkText (aH (ae (L0.at (ae ((looks_findIn (M:=model prog w) X hga).at ?_))))));have hx2:(onTheHeap (Value.ref 45) && Value.builtin "BaseException.__getattribute__" ==Value.builtin "object.__getattribute__")=false:=by decide+kernel
 dsimp only;refine ae ((looks_hook X (by rw [if_pos (show onTheHeap (Value.ref 45)=true from rfl)];exact hgt)).at (ae (wpAny_attempt (aH ?_))));delta callGetattribute boundAndCalled;refine gv fun Q1z E1z hQ1z hE1z=>(ae (am (wpAny_call (codeAny_call_builtin (PySem.F.attr_Exception.ga).plain PySem.F.entry_bexc_ga ?_))));refine @check_slot (model prog w) _ _ ⟨hp,g,d,t+1,os⟩ "BaseException.__getattribute__" "BaseException" "__getattribute__" (.ref x) [.str name t] [] _ (by decide+kernel) (by decide+kernel) (L0.andThen (fun A Q E s k q=>wpAny_isSubtype_exc (k _ _ hC) (by rw [(show (Value.ref 45::n5).contains (.type "BaseException")=true by decide+kernel)];exact q))) (PySem.F.args_bexc_ga _ _) ?_;refine ae (am (ae (am (a:=name) (ae (L0.at (ae ((looks_find X I hf).at ?_)))))));refine am (hQ1z _ _ ?_);show wpAny _ _ (handedOut v) _ _ _;exact AC (handedOut_of hh) (am h)
end
noncomputable def j6:List DS:=[.expr (.call (.user 35) [.nm false 3 ⟨371,21,371,27⟩] ⟨371,8,371,20⟩ ⟨371,8,371,28⟩) ⟨371,8,371,28⟩]
noncomputable def ug:List Stmt:=[.Try (DS.toSs j6) [.ExceptHandler (some (.Name "BadInfo" ⟨372,11,372,18⟩)) (some "fault") [.Return (some (.Attribute (.Name "fault" ⟨373,15,373,20⟩) "told" ⟨373,15,373,25⟩)) ⟨373,8,373,25⟩] ⟨372,4,373,25⟩] [] [] ⟨370,4,373,25⟩,
 .Return (some (.Constant .none 0 ⟨374,11,374,15⟩)) ⟨374,4,374,15⟩]
structure Aj (T:cK) (K:Frag) (fd:FuncData):Prop extends FnB T 426 [3] fd where
 body:fd.body= .stmts ug
 l3:fd.scope.names.lookup (nm 3)=some .local
 lf:fd.scope.names.lookup ("fault" :PySem.Str)=some .local
 lb:fd.scope.names.lookup ("BadInfo" :PySem.Str)=some .globalImplicit
 ok:okSs 50 (fun x=>fd.scope.names.lookup x) j6=true
 get:findIn K (.ref 45) "__getattribute__" =some (some (.builtin "BaseException.__getattribute__"))
 gat:findIn K (.ref 45) "__getattr__" =some none
 dict:hasDictIn K 45=true
 attr:mF K 45 62=true
section
variable {T:cK} {TB:eT} {Kf:Frag} {fd29 fd:FuncData} {Γ:dW} {lv nf:Nat}
theorem Ar (W:jm T TB Kf fd29) (CK:∀i,i<50->fF T Γ (lv+1) i) (F:Aj T Kf fd) {P:List V->be->KV->KV->Prop} (hΓ:∀{ds:List V} {Y:be} {Q X:KV},P ds Y Q X->∃x,ds=[x]/\Γ 35 [x] Y (fun U Y'=>Q .none Y') Q):eI T P (lv+2) 50:=fun {A C H Y s Q X K E vs ds} hA Re vr q k kx=>by
 refine cr fun hn=>(bu (hΓ q) fun dv y201 q0=> ?_);subst y201;obtain ⟨v,rfl,vr1⟩:=wt vr;have tp:=Re.st.top;refine Eb (F.there _ tp) fun o f1 f2 f3 f4=> ?_;refine hn (wpAny_call (iJ (by have:=hA.depth;delta recursionLimit;lia) f1 f2 f4 f3 F.body (F.bind s tp [v] rfl) F.clo (F.toFnB.binds rfl _) (fun IK I=> ?_) F.cor F.gen F.kind));have I:Fi s (callEnvC fd s.heap.objs.size 426) [3] [v] IK:=I;have hA':=uW hA.ab F.toFnB I Re.st;obtain ⟨HZ,IQ,rfl⟩:=I.toInCall.same;have down:∀{Y' h'},To T (hH (jj C.envs (callEnvC fd s.heap.objs.size 426))) Y HZ Y' h'->To T Nl Y s.heap Y' h':=fun t=>((To.grow (L:=Nl) Re.st I.toInCall.keep).up.trans t).drop fun b o e w=>bS e (hH.new I w);have envp:=jB hA';refine gv fun GZ GW hQ U=>wpAny_execs_cons (wpAny_Try_except ?_);refine xss W.K W.R (by decide) CK j6 rfl hA' F.ok (vP Re.st Re.fr F.toFnB I rfl vr) (Q:=fun fl U Y'=>fl= .next/\Q .none Y') (X:=Q) ?_ (fun fl f H' Y' h' tk t R' fr q'=> ?_) (fun e d Y' h' tk t x hx=> ?_)
 ·show oO Γ (.user 35) [dv] Y (fun U Jo=>Fl.next= .next/\Q .none Jo) Q;have:(fun (_:V) (Jo:be)=>Fl.next=Fl.next/\Q .none Jo)=fun U Jo=>Q .none Jo:=funext fun U=>funext fun Jo=>propext ⟨fun h=>h.2,fun h=>⟨rfl,h⟩⟩;rw [this];exact q0
 ·obtain ⟨rfl,q'⟩:=q';rw [show f= .next from fr];exact wpAny_execs_nil (wpAny_execs_cons (wpAny_Return_some (wpAny_Constant_none (hQ _ _ (k .none .none Y' h' tk (down t) rfl q')))))
 ·refine dU x fun x U=>(iG rfl hA' x t (fun H0 Jb Hi IZ=> ?_));refine eO (s:=put s H0 tk) Jb (by rw [Hi];exact fun q=>gq q) IZ (fun H1 Jc Hj I0=> ?_);refine gv fun Q2z E2z hQ2z hE2z=> ?_;refine wpAny_handleBy_cons (GF fun G1 hR=>codeAny_handlers_test ?_) (by rw [Jc.he];intro q;contradiction);have IU:=Jc.rel.st.top;refine Name_function_global F.kind F.lb (loadGlobal_global (by show Heap.Ns H1 fd.globals T.gl;rw [F.glob];exact W.K.gns _ IU) W.K.bad ?_) (by decide+kernel);have hC45:H1.get? 45=some gS:=(W.K.inn _ IU) _ _ W.bad.obj;rw [(Jc.he)];refine wpAny_excMatches_sub_self hC45 Jc.ga Jc.ca (by decide+kernel) (hR _ _ (GF fun G2 Hr=>codeAny_handlers_suite_as ?_));generalize notedBy _ _ _ _=GX;refine eO (s:=put s H1 tk) Jc (by rw [Hj];exact fun q=>gq q) I0 (fun H2 Jd Hk I2=> ?_);refine cr fun hn=>(bu (Jd.rel.loc) fun Il HH U=> ?_);refine hn (wpAny_storeName_local F.lf HH (fun H3 HI HP=> ?_) envp);have L0:HZ.get? (callEnvC fd s.heap.objs.size 426).locals≠none:=by refine e31 (I.toInCall.ns) fun o U U e U=> ?_;rw [e];exact fun q=>gq q
  have Ii:=iS HP hA'.llo ⟨_,HH⟩ Jd.rel.own;have e6':=(HP.2 _ (fun q=>L0 (q▸Jd.dnew):Jd.dx≠(callEnvC fd s.heap.objs.size 426).locals)).trans Jd.gd;refine wpAny_execs_cons (wpAny_Return_some ?_);refine gv fun Q1z E1z hQ1z hE1z=>(ae (wpAny_Name (wpAny_loadName_local (v:=e) F.kind F.lf HI (if_pos rfl) ?_) (by decide+kernel)));refine bu (rs F.attr) fun attr ha hn=> ?_;rw [Jd.he];refine ae (wpAny_standAt (ae (aH (BW (W.K.inn _ (Ii.st Jd.rel.st).top) (⟨((HP.2 _ (fun q=>L0 (q▸Jd.new):Jd.a≠(callEnvC fd s.heap.objs.size 426).locals)).trans Jd.ga),Jd.ca,by delta notCls;rw [Jd.da],by rw [Jd.di];exact e6'⟩:InstAt H3 Jd.a Jd.oe 45 (some Jd.od)) W.bad.obj F.get F.gat (iq F.dict ha hn ?_) (yV Jd.val) ?_))))
  ·delta lookIn;rw [Jd.dd];rfl
  refine ae (wpAny_letTemporaryGo (am ?_));refine hQ1z _ _ (Hr _ _ ?_);refine wpAny_nameGoes F.lf HI envp (fun H4 Im HJ HQ=> ?_);have Ij:=iS (T:=T) HQ hA'.llo ⟨_,HI⟩ Jd.rel.own;have new:∀a,a=(callEnvC fd s.heap.objs.size 426).locals->s.heap.get? a=none:=fun a w=>w▸bB (av _);exact hQ2z _ _ (hQ _ _<| k Jd.v d Y' H4 _ (Ij.to (Ii.to (down I2) new) new) ((Jd.val.mono Ii.gle).mono Ij.gle) hx)
end
end Mine
end
section
namespace Mine
open PySem
noncomputable abbrev zP (a b c:Nat):Pos:=⟨a,b,a,c⟩
noncomputable abbrev zN (i a b c:Nat):DE:= .nm false i ⟨a,b,a,c⟩
noncomputable abbrev zI (i:Int) (a b c:Nat):DE:= .lit (.int i) ⟨a,b,a,c⟩
noncomputable abbrev zT (i a b c:Nat):TT:= .n false i ⟨a,b,a,c⟩
noncomputable def zj (p q:Pos):Pos:=⟨p.line,p.col,q.endLine,q.endCol⟩
noncomputable abbrev zB (m:Bool) (o:Operator) (l r:DE):DE:= .bin m o l r (zj l.toE.pos r.toE.pos)
noncomputable abbrev zC (o:CmpOp) (l r:DE):DE:= .cmp o l r (zj l.toE.pos r.toE.pos)
noncomputable abbrev zF (t b o:DE):DE:= .ife t b o (zj b.toE.pos o.toE.pos)
noncomputable abbrev zS (o i:DE):DE:= .sub o i ⟨o.toE.pos.line,o.toE.pos.col,i.toE.pos.endLine,i.toE.pos.endCol+1⟩
noncomputable abbrev zG (o:DE) (n c:Nat):DE:= .attr o n ⟨o.toE.pos.line,o.toE.pos.col,o.toE.pos.line,c⟩
noncomputable abbrev zV (f:Fn) (l:List DE) (a b c d:Nat):DE:= .call f l ⟨a,b,a,c⟩ ⟨a,b,a,d⟩
noncomputable abbrev zM (m:Mt) (o:DE) (l:List DE) (c d:Nat):DE:= .meth m o l ⟨o.toE.pos.line,o.toE.pos.col,o.toE.pos.line,c⟩ ⟨o.toE.pos.line,o.toE.pos.col,o.toE.pos.line,d⟩
noncomputable abbrev zA (t:TT) (e:DE):DS:= .asg t e (zj t.toE.pos e.toE.pos)
noncomputable abbrev zQ (l:List (Str×NameKind)):Scope:=⟨.function,(".0", .local)::l,false,false,[]⟩
noncomputable abbrev zE (e:DE):DS:= .expr e e.toE.pos
noncomputable abbrev zR (e:DE):DS:= .ret e ⟨e.toE.pos.line,e.toE.pos.col - 7,e.toE.pos.endLine,e.toE.pos.endCol⟩
noncomputable def b0:List DS:=(zA (zT 1 13 4 8) (zF (zC .GtE (zN 0 13 21 27) (zI 0 13 31 32)) (zN 0 13 11 17) (.un true (zN 0 13 39 45) (zP 13 38 45))))::(zA (zT 2 14 4 9) (.lst true [zB false .Add (zI 48 14 13 15) (zB false .Mod (zN 1 14 18 22) (zI 10 14 25 27))] (zP 14 12 28)))::(zA (zT 1 15 4 8) (zB false .FloorDiv (zN 1 15 11 15) (zI 10 15 19 21)))::(.while (zC .Gt (zN 1 16 10 14) (zI 0 16 17 18)) [(zE (zM .append (zN 2 17 8 13) [zB false .Add (zI 48 17 21 23) (zB false .Mod (zN 1 17 26 30) (zI 10 17 33 35))] 20 36)),(zA (zT 1 18 8 12) (zB false .FloorDiv (zN 1 18 15 19) (zI 10 18 23 25)))] ⟨16,4,18,25⟩)::[(.ite (zC .Lt (zN 0 19 7 13) (zI 0 19 16 17)) [(zE (zM .append (zN 2 20 8 13) [zI 45 20 21 23] 20 24))] [] ⟨19,4,20,24⟩),(zR (zV .bytes [.slc false (zN 2 21 17 22) .none .none (some (.un true (zI 1 21 26 27) (zP 21 25 27))) (zP 21 23 27) (zP 21 17 28)] 21 11 16 29))]
noncomputable def pa0:List Nat:=[0]
noncomputable def b1:List DS:=(.ite (zC .Eq (zV .len [zN 3 23 11 17] 23 7 10 18) (zI 0 23 22 23)) [(zR (.lit .none (zP 24 15 19)))] [] ⟨23,4,24,19⟩)::(zA (zT 0 25 4 10) (zI 0 25 13 14))::(.for (zT 4 26 8 13) .plain [zN 3 26 17 23] [] [(.ite (.un false (.btw (zI 48 27 15 17) (zN 4 27 21 26) (zI 57 27 30 32) (zP 27 15 32)) (zP 27 11 32)) [(zR (.lit .none (zP 28 19 23)))] [] ⟨27,8,28,23⟩),(zA (zT 0 29 8 14) (zB false .Sub (zB false .Add (zB false .Mult (zI 10 29 17 19) (zN 0 29 22 28)) (zN 4 29 31 36)) (zI 48 29 39 41)))] ⟨26,4,29,41⟩)::[(zR (zN 0 30 11 17))]
noncomputable def pa1:List Nat:=[3]
noncomputable def b2:List DS:=[(zA (.t [zT 7 39 4 9,zT 8 39 11 15,zT 9 39 17 21,zT 10 39 23 28] (zP 39 4 28)) (.tup [zS (zN 5 39 32 35) (zI 0 39 36 37),zS (zN 5 39 40 43) (zI 1 39 44 45),zS (zN 5 39 48 51) (zI 2 39 52 53),zS (zN 5 39 56 59) (zI 3 39 60 61)] (zP 39 31 63))),(.ite (zN 6 40 7 15) [(zA (zT 7 41 8 13) (zB false .BitAnd (zN 7 41 16 21) (.glob 3 (zP 41 24 38)))),(.ite (zC .Eq (zN 7 42 11 16) (zI 0 42 20 21)) [(zA (zT 8 43 12 16) (.un true (zI 1 43 20 21) (zP 43 19 21)))] [] ⟨42,8,43,21⟩)] [] ⟨40,4,43,21⟩),(.ite (zC .Eq (zB false .BitAnd (zN 7 44 7 12) (.glob 2 (zP 44 15 25))) (zI 0 44 29 30)) [(zA (zT 10 45 8 13) (.un true (zI 1 45 17 18) (zP 45 16 18)))] [] ⟨44,4,45,18⟩),(zR (.tup [zN 7 46 12 17,zN 8 46 19 23,zN 9 46 25 29,zN 10 46 31 36,zI 0 46 38 39] (zP 46 11 40)))]
noncomputable def pa2:List Nat:=[5,6]
noncomputable def b3:List DS:=[(zA (.t [zT 12 48 4 9,zT 13 48 11 16,zT 5 48 18 21,zT 14 48 23 33] (zP 48 4 33)) (zN 11 48 36 40)),(.ite (zC .Eq (zN 13 49 7 12) (zI 0 49 16 17)) [(zR (.tup [.tup [] (zP 50 16 18),zI 0 50 20 21, .glob 1 (zP 50 23 29)] (zP 50 15 30)))] [] ⟨49,4,50,30⟩),(zA (zT 6 51 4 12) (zC .In (zN 12 51 15 20) (.tup [.tup [] (zP 51 25 27), .tup [.glob 0 (zP 51 30 35)] (zP 51 29 37)] (zP 51 24 38)))),(zR (.tup [zF (zN 6 52 18 26) (.tup [] (zP 52 12 14)) (zN 12 52 32 37),zN 13 52 39 44,zV (.user 2) [zN 5 52 58 61,zN 6 52 63 71] 52 46 57 72] (zP 52 11 73)))]
noncomputable def pa3:List Nat:=[11]
noncomputable def b4:List DS:=[(zR (zC .Eq (zN 11 54 11 15) (.tup [.tup [] (zP 54 20 22),zI 1 54 24 25, .glob 1 (zP 54 27 33)] (zP 54 19 34))))]
noncomputable def pa4:List Nat:=[11]
noncomputable def b5:List DS:=[(.asgAttr (zN 70 58 8 12) 31 (zN 31 58 20 24) (zP 58 8 17) (zP 58 8 24)),(.asgAttr (zN 70 59 8 12) 32 (zN 32 59 23 30) (zP 59 8 20) (zP 59 8 30)),(.asgAttr (zN 70 60 8 12) 15 (zN 15 60 21 26) (zP 60 8 18) (zP 60 8 26)),(.asgAttr (zN 70 61 8 12) 34 (zN 34 61 21 26) (zP 61 8 18) (zP 61 8 26)),(.asgAttr (zN 70 62 8 12) 35 (zN 35 62 21 26) (zP 62 8 18) (zP 62 8 26)),(.asgAttr (zN 70 63 8 12) 71 (zN 71 63 22 28) (zP 63 8 19) (zP 63 8 28)),(.asgAttr (zN 70 64 8 12) 72 (zN 72 64 24 32) (zP 64 8 21) (zP 64 8 32))]
noncomputable def pa5:List Nat:=[70,31,32,15,34,35,71,72]
noncomputable def b6:List DS:=[(zR (zF (zC .Eq (zS (zG (zN 70 67 31 35) 34 41) (zN 19 67 42 45)) (.lit (.str [115,105,110,103,108,101]) (zP 67 50 58))) (zG (zN 70 67 15 19) 32 27) (zB false .FloorDiv (zG (zN 70 67 64 68) 32 76) (zI 2 67 80 81))))]
noncomputable def pa6:List Nat:=[70,19]
noncomputable def b7:List DS:=[(zR (.slc false (zS (zG (zN 70 70 15 19) 15 25) (zN 19 70 26 29)) .none (some (zM (.user 6) (zN 70 70 32 36) [zN 19 70 46 49] 45 50)) .none (zP 70 31 50) (zP 70 15 51)))]
noncomputable def pa7:List Nat:=[70,19]
noncomputable def b8:List DS:=[(zR (.tup [zS (zG (zN 70 73 16 20) 34 26) (zN 19 73 27 30),zV .tuple [zM (.user 7) (zN 70 73 39 43) [zN 19 73 54 57] 53 58] 73 33 38 59] (zP 73 15 60)))]
noncomputable def pa8:List Nat:=[70,19]
noncomputable def CM:DS:=(zR (zV .all [.comp false (zC .Eq (zM (.user 8) (.nm true 70 (zP 80 20 24)) [zN 19 80 35 38] 34 39) (zM (.user 8) (.nm true 18 (zP 80 43 48)) [zN 19 80 59 62] 58 63)) (zT 19 80 68 71) .plain [zV .range [zG (.nm true 70 (zP 80 81 85)) 31 90] 80 75 80 91] [] [] (zQ [("row", .local),("other", .free),("self", .free)]) (zP 80 19 92)] 80 15 18 93))
noncomputable def b9:List DS:=[(.ite (zC .NotEq (.tup [zG (.nm true 70 (zP 76 12 16)) 31 21,zG (.nm true 70 (zP 76 23 27)) 32 35,zG (.nm true 70 (zP 76 37 41)) 72 50] (zP 76 11 51)) (.tup [zG (.nm true 18 (zP 76 56 61)) 31 66,zG (.nm true 18 (zP 76 68 73)) 32 81,zG (.nm true 18 (zP 76 83 88)) 72 97] (zP 76 55 98))) [(zR (.lit (.bool false) (zP 77 19 24)))] [] ⟨76,8,77,24⟩),(.ite (.bop true [zG (.nm true 70 (zP 78 11 15)) 72 24,zC .NotEq (zG (.nm true 70 (zP 78 29 33)) 71 40) (zG (.nm true 18 (zP 78 44 49)) 71 56)] (zP 78 11 56)) [(zR (.lit (.bool false) (zP 79 19 24)))] [] ⟨78,8,79,24⟩),CM]
noncomputable def pa9:List Nat:=[70,18]
noncomputable def b10:List DS:=[(zR (.bop true [zM (.user 9) (zN 70 83 15 19) [zN 18 83 27 32] 26 33,zC .Eq (zG (zN 70 83 38 42) 71 49) (zG (zN 18 83 53 58) 71 65),zC .Eq (zG (zN 70 83 71 75) 35 81) (zG (zN 18 83 85 90) 35 96)] (zP 83 15 97)))]
noncomputable def pa10:List Nat:=[70,18]
noncomputable def b11:List DS:=(zA (zT 15 86 8 13) (zM (.user 7) (zN 70 86 16 20) [zN 19 86 31 34] 30 35))::(zA (zT 46 87 8 12) (zV .len [zN 15 87 19 24] 87 15 18 25))::(.while (.bop true [zC .Gt (zN 46 88 14 18) (zI 0 88 21 22),zV (.user 4) [zS (zN 15 88 39 44) (zB false .Sub (zN 46 88 45 49) (zI 1 88 52 53))] 88 27 38 55] (zP 88 14 55)) [(zA (zT 46 89 12 16) (zB false .Sub (zN 46 89 19 23) (zI 1 89 26 27)))] ⟨88,8,89,27⟩)::[(zR (zN 46 90 15 19))]
noncomputable def pa11:List Nat:=[70,19]
noncomputable def b12:List DS:=[(zR (zF (.bop true [zC .Gt (zN 16 92 25 31) (zI 0 92 34 35),zC .Eq (zS (zS (zN 15 92 40 45) (zN 16 92 46 52)) (zI 1 92 54 55)) (zI 0 92 60 61)] (zP 92 25 61)) (zB false .Sub (zN 16 92 11 17) (zI 1 92 20 21)) (zN 16 92 67 73)))]
noncomputable def pa12:List Nat:=[15,16]
noncomputable def b13:List DS:=[(zR (zF (.bop true [zC .Eq (zS (zS (zN 15 94 25 30) (zN 16 94 31 37)) (zI 1 94 39 40)) (zI 2 94 45 46),zC .Lt (zB false .Add (zN 16 94 51 57) (zI 1 94 60 61)) (zV .len [zN 15 94 68 73] 94 64 67 74)] (zP 94 25 74)) (zB false .Add (zN 16 94 11 17) (zI 1 94 20 21)) (zN 16 94 80 86)))]
noncomputable def pa13:List Nat:=[15,16]
noncomputable def y7:DS:=(.ite (zC .Eq (zS (zN 20 99 11 15) (zN 16 99 16 22)) (zS (zN 21 99 27 30) (zN 16 99 31 37))) [(zA (zT 16 100 12 18) (zB false .Add (zN 16 100 21 27) (zI 1 100 30 31))),(.cont (zP 101 12 20))] [] ⟨99,8,101,20⟩)
noncomputable def sI:DS:=(zA (zT 22 102 8 12) (zV .min [zV (.user 12) [zN 20 102 30 34,zN 16 102 36 42] 102 19 29 43,zV (.user 12) [zN 21 102 56 59,zN 16 102 61 67] 102 45 55 68] 102 15 18 69))
noncomputable def vU:DS:=(zA (zT 23 103 8 13) (zV .max [zV (.user 13) [zN 20 103 32 36,zN 16 103 38 44] 103 20 31 45,zV (.user 13) [zN 21 103 59 62,zN 16 103 64 70] 103 47 58 71] 103 16 19 72))
noncomputable def v7:DS:=(zE (zM .append (zN 2 107 12 17) [.tup [zN 22 107 26 30,zN 23 107 32 37] (zP 107 25 38)] 24 39))
noncomputable def sG:DS:=(.ite (.bop true [zC .NotEq (zN 2 104 11 16) (.lst false [] (zP 104 20 22)),zC .LtE (zN 22 104 27 31) (zB false .Add (zS (zS (zN 2 104 35 40) (.un true (zI 1 104 42 43) (zP 104 41 43))) (zI 1 104 45 46)) (zI 1 104 50 51))] (zP 104 11 51)) [(.asgSub (zN 2 105 12 17) (.un true (zI 1 105 19 20) (zP 105 18 20)) (.tup [zS (zS (zN 2 105 25 30) (.un true (zI 1 105 32 33) (zP 105 31 33))) (zI 0 105 35 36),zN 23 105 39 44] (zP 105 24 45)) (zP 105 12 21) (zP 105 12 45))] [v7] ⟨104,8,107,39⟩)
noncomputable def u8:DS:=(zA (zT 16 108 8 14) (zB false .Add (zN 23 108 17 22) (zI 1 108 25 26)))
noncomputable def zx:DS:=(.while (zC .Lt (zN 16 98 10 16) (zV .len [zN 21 98 23 26] 98 19 22 27)) [y7,sI,vU,sG,u8] ⟨98,4,108,26⟩)
noncomputable def CR:List DS:=[(zR (zN 2 109 11 16))]
noncomputable def b14:List DS:=(zA (.t [zT 20 96 4 8,zT 21 96 10 13] (zP 96 4 13)) (.tup [zM (.user 7) (zN 17 96 17 20) [zN 19 96 31 34] 30 35,zM (.user 7) (zN 18 96 37 42) [zN 19 96 53 56] 52 57] (zP 96 16 58)))::(zA (.t [zT 2 97 4 9,zT 16 97 11 17] (zP 97 4 17)) (.tup [.lst true [] (zP 97 21 23),zI 0 97 25 26] (zP 97 20 27)))::zx::CR
noncomputable def pa14:List Nat:=[17,18,19]
noncomputable def sJ:DS:=(zE (zM .append (zN 2 114 12 17) [.tup [.nm true 19 (zP 114 26 29),zI 0 114 31 32,zB false .Sub (zM (.user 6) (zN 18 114 34 39) [.nm true 19 (zP 114 49 52)] 48 53) (zI 1 114 56 57)] (zP 114 25 58)] 24 59))
noncomputable def vZ:DS:=(zE (zM .extend (zN 2 116 12 17) [.comp false (.tup [.nm true 19 (zP 116 27 30),zN 22 116 32 36,zN 23 116 38 43] (zP 116 26 44)) (.t [zT 22 116 49 53,zT 23 116 55 60] (zP 116 49 60)) .plain [zV (.user 14) [zN 17 116 79 82,zN 18 116 84 89, .nm true 19 (zP 116 91 94)] 116 64 78 95] [] [] (zQ [("left", .local),("right", .local),("row", .free)]) (zP 116 25 96)] 24 97))
noncomputable def Ct:List DS:=[(.ite (zC .NotEq (zS (zG (zN 17 113 11 14) 34 20) (.nm true 19 (zP 113 21 24))) (zS (zG (zN 18 113 29 34) 34 40) (.nm true 19 (zP 113 41 44)))) [sJ] [vZ] ⟨113,8,116,97⟩)]
noncomputable def b15:List DS:=(zA (zT 2 111 4 9) (.lst true [] (zP 111 12 14)))::(.for (.n true 19 (zP 112 8 11)) .plain [zV .range [zG (zN 17 112 21 24) 31 29] 112 15 20 30] [] Ct ⟨112,4,116,97⟩)::[(zR (zN 2 117 11 16))]
noncomputable def pa15:List Nat:=[17,18]
noncomputable def b16:List DS:=[(.asgAttr (zN 70 121 8 12) 65 (.dict (zP 121 23 25)) (zP 121 8 20) (zP 121 8 25))]
noncomputable def pa16:List Nat:=[70]
noncomputable def u6:DS:=(zR (zS (zG (zN 70 127 15 19) 65 27) (zN 29 127 28 33)))
noncomputable def b17:List DS:=[(zA (zT 29 124 8 13) (zM (.user 8) (zN 24 124 16 23) [zN 19 124 34 37] 33 38)),(.ite (zC .NotIn (zN 29 125 11 16) (zG (zN 70 125 24 28) 65 36)) [(.asgSub (zG (zN 70 126 12 16) 65 24) (zN 29 126 25 30) (zV .len [zG (zN 70 126 38 42) 65 50] 126 34 37 51) (zP 126 12 31) (zP 126 12 51))] [] ⟨125,8,126,51⟩),u6]
noncomputable def pa17:List Nat:=[70,24,19]
noncomputable def C4:DE:=(zM (.user 17) (.nm true 70 (zP 130 16 20)) [.nm true 24 (zP 130 31 38),zN 19 130 40 43] 30 44)
noncomputable def b18:List DS:=[(zR (.comp false C4 (zT 19 130 49 52) .plain [zV .range [zG (.nm true 24 (zP 130 62 69)) 31 74] 130 56 61 75] [] [] (zQ [("row", .local),("picture", .free),("self", .free)]) (zP 130 15 76)))]
noncomputable def pa18:List Nat:=[70,24]
noncomputable def yS:List DS:=[(.ite (zC .Gt (zS (zN 11 136 15 19) (zI 1 136 20 21)) (zI 0 136 25 26)) [(zE (zM .extend (zN 12 137 16 21) [zF (zC .NotEq (zS (zN 11 137 40 44) (zI 0 137 45 46)) (.tup [] (zP 137 51 53))) (zS (zN 11 137 29 33) (zI 0 137 34 35)) (zB false .Mult (.lst false [.glob 0 (zP 137 60 65)] (zP 137 59 66)) (zS (zN 11 137 69 73) (zI 1 137 74 75)))] 28 77))] [] ⟨136,12,137,77⟩)]
noncomputable def CL:List DS:=[(zE (zM .pop (zN 12 139 12 17) [] 21 23))]
noncomputable def u5:DS:=(.while (.bop true [zC .NotEq (zN 12 138 14 19) (.lst false [] (zP 138 23 25)),zC .Eq (zS (zN 12 138 30 35) (.un true (zI 1 138 37 38) (zP 138 36 38))) (.glob 0 (zP 138 43 48))] (zP 138 14 48)) CL ⟨138,8,139,23⟩)
noncomputable def s8:DS:=(zE (zM .append (zN 2 140 8 13) [zN 12 140 21 26] 20 27))
noncomputable def FV:List DS:=u5::[s8]
noncomputable def Cm:List DS:=(zA (zT 12 134 8 13) (.lst true [] (zP 134 16 18)))::(.for (zT 11 135 12 16) .plain [.slc false (zM (.user 7) (zN 24 135 20 27) [zN 19 135 38 41] 37 42) .none (some (zM (.user 11) (zN 24 135 44 51) [zN 19 135 57 60] 56 61)) .none (zP 135 43 61) (zP 135 20 62)] [] yS ⟨135,8,137,77⟩)::FV
noncomputable def b19:List DS:=(zA (zT 2 132 4 9) (.lst true [] (zP 132 12 14)))::(.for (zT 19 133 8 11) .plain [zV .range [zG (zN 24 133 21 28) 31 33] 133 15 20 34] [] Cm ⟨133,4,140,27⟩)::[(zR (zN 2 141 11 16))]
noncomputable def pa19:List Nat:=[24]
noncomputable def b20:List DS:=(zA (zT 2 143 4 9) (.lit (.bytes []) (zP 143 12 15)))::(.while (.bop false [zC .Gt (zN 0 144 10 16) (zI 0 144 19 20),zC .Eq (zN 2 144 24 29) (.lit (.bytes []) (zP 144 33 36))] (zP 144 10 36)) [(zA (zT 2 145 8 13) (zB false .Add (.slc false (.glob 4 (zP 145 16 27)) (some (zB false .Mod (zN 0 145 28 34) (zI 16 145 37 39))) (some (zB false .Add (zB false .Mod (zN 0 145 40 46) (zI 16 145 49 51)) (zI 1 145 54 55))) .none (zP 145 28 55) (zP 145 16 56)) (zN 2 145 59 64))),(zA (zT 0 146 8 14) (zB false .FloorDiv (zN 0 146 17 23) (zI 16 146 27 29)))] ⟨144,4,146,29⟩)::[(zR (zN 2 147 11 16))]
noncomputable def pa20:List Nat:=[0]
noncomputable def b21:List DS:=(zA (zT 2 149 4 9) (zI 0 149 12 13))::(.for (zT 4 150 8 13) .plain [zN 3 150 17 23] [] [(.ite (zC .NotIn (zN 4 151 11 16) (.glob 4 (zP 151 24 35))) [(zR (.lit .none (zP 152 19 23)))] [] ⟨151,8,152,23⟩),(zA (zT 2 153 8 13) (zB false .Add (zB false .Mult (zN 2 153 16 21) (zI 16 153 24 26)) (zM .index (.glob 4 (zP 153 29 40)) [zN 4 153 47 52] 46 53)))] ⟨150,4,153,53⟩)::[(zR (zF (.bop true [zC .NotEq (zN 3 154 20 26) (.lit (.bytes []) (zP 154 30 33)),zC .Eq (zV (.user 20) [zN 2 154 50 55] 154 38 49 56) (zN 3 154 60 66)] (zP 154 20 66)) (zN 2 154 11 16) (.lit .none (zP 154 72 76))))]
noncomputable def pa21:List Nat:=[3]
noncomputable def b22:List DS:=[(zR (zF (zC .Lt (zN 0 156 19 25) (zI 0 156 28 29)) (.lit (.bytes [45]) (zP 156 11 15)) (zV (.user 0) [zN 0 156 50 56] 156 35 49 57)))]
noncomputable def pa22:List Nat:=[0]
noncomputable def b23:List DS:=[(zA (zT 2 158 4 9) (zV (.user 1) [zN 3 158 22 28] 158 12 21 29)),(zR (zF (.bop true [zC .IsNot (zN 2 159 20 25) (.lit .none (zP 159 33 37)),zC .Eq (zV (.user 0) [zN 2 159 57 62] 159 42 56 63) (zN 3 159 67 73)] (zP 159 20 73)) (zN 2 159 11 16) (.lit .none (zP 159 79 83))))]
noncomputable def pa23:List Nat:=[3]
noncomputable def b24:List DS:=[(zR (zF (zC .Eq (zN 3 161 17 23) (.lit (.bytes [45]) (zP 161 27 31))) (.un true (zI 1 161 12 13) (zP 161 11 13)) (zV (.user 23) [zN 3 161 52 58] 161 37 51 59)))]
noncomputable def pa24:List Nat:=[3]
noncomputable def u7:DS:=(zR (zF (zC .Eq (zS (zN 11 164 27 31) (zI 1 164 32 33)) (zI 2 164 38 39)) (zB false .Add (.lit (.bytes [58]) (zP 164 11 15)) (zN 25 164 18 23)) (zN 25 164 45 50)))
noncomputable def b25:List DS:=[(zA (zT 25 163 4 9) (zF (zC .NotEq (zS (zN 11 163 66 70) (zI 0 163 71 72)) (.tup [] (zP 163 77 79))) (zM .join (.lit (.bytes [43]) (zP 163 12 16)) [.comp false (zV (.user 20) [zN 26 163 35 39] 163 23 34 40) (zT 26 163 45 49) .plain [zS (zN 11 163 53 57) (zI 0 163 58 59)] [] [] (zQ [("code", .local),("picture_hex", .globalImplicit)]) (zP 163 22 61)] 21 62) (.lit (.bytes [95]) (zP 163 85 89)))),u7]
noncomputable def pa25:List Nat:=[11]
noncomputable def tU:DS:=(zA (zT 2 167 4 9) (.lst true [zB false .Add (zB false .Add (.lit (.bytes [108,105,110,101,32]) (zP 167 13 21)) (.szw (zS (zG (zN 24 167 35 42) 34 48) (zN 19 167 49 52)) (zP 167 24 34) (zP 167 24 54))) (zN 27 167 57 64)] (zP 167 12 65)))
noncomputable def tA:DS:=(zA (.t [zT 5 168 4 7,zT 28 168 9 14] (zP 168 4 14)) (.tup [.lit .none (zP 168 18 22), .lst true [] (zP 168 24 26)] (zP 168 17 27)))
noncomputable def og:DS:=(zA (zT 5 172 16 19) (zS (zN 11 172 22 26) (zI 2 172 27 28)))
noncomputable def nN:DS:=(zA (zT 28 173 16 21) (zB true .Add (.lst false [.lit (.bytes [114,117,110]) (zP 173 25 31)] (zP 173 24 32)) (.comp false (zV (.user 22) [zN 0 173 58 64] 173 36 57 65) (zT 0 173 70 76) .plain [.slc false (zN 5 173 80 83) .none (some (zI 4 173 85 86)) .none (zP 173 84 86) (zP 173 80 87)] [] [] (zQ [("number", .local),("picture_signed_octets", .globalImplicit)]) (zP 173 35 88))))
noncomputable def n8:DS:=(zE (zM .append (zN 2 174 16 21) [.lit (.bytes []) (zP 174 29 32)] 28 33))
noncomputable def jY:DS:=(zE (zM .append (zN 28 175 12 17) [zV (.user 25) [zN 11 175 35 39] 175 25 34 40] 24 41))
noncomputable def j0:DS:=(.asgSub (zN 2 176 12 17) (.un true (zI 1 176 19 20) (zP 176 18 20)) (zM .join (.lit (.bytes [32]) (zP 176 24 28)) [zN 28 176 34 39] 33 40) (zP 176 12 21) (zP 176 12 40))
noncomputable def CE:List DS:=[(.ite (zC .Gt (zS (zN 11 170 11 15) (zI 1 170 16 17)) (zI 0 170 21 22)) [(.ite (.bop false [zC .Is (zN 5 171 15 18) (.lit .none (zP 171 22 26)),zC .NotEq (zS (zN 11 171 30 34) (zI 2 171 35 36)) (zN 5 171 41 44)] (zP 171 15 44)) [og,nN,n8] [] ⟨171,12,174,33⟩),jY,j0] [] ⟨170,8,176,40⟩)]
noncomputable def vp:DS:=(.for (zT 11 169 8 12) .plain [zS (zG (zN 24 169 16 23) 15 29) (zN 19 169 30 33)] [] CE ⟨169,4,176,40⟩)
noncomputable def Cw:List DS:=[(zR (zN 2 177 11 16))]
noncomputable def b26:List DS:=(zA (zT 27 166 4 11) (zF (zS (zG (zN 24 166 24 31) 35 37) (zN 19 166 38 41)) (.lit (.bytes [32,111,110]) (zP 166 14 20)) (.lit (.bytes [32,101,110,100,115]) (zP 166 48 56))))::tU::tA::vp::Cw
noncomputable def EU:List Nat:=[24,19]
noncomputable def ut:DS:=(zE (zM .append (zN 2 182 4 9) [zM .join (.lit (.bytes [32]) (zP 182 17 21)) [.lst false [.lit (.bytes [99,117,114,115,111,114]) (zP 182 28 37),zV (.user 0) [zN 19 182 54 57] 182 39 53 58,zV (.user 0) [zN 16 182 75 81] 182 60 74 82,zN 29 182 84 89] (zP 182 27 90)] 26 91] 16 92))
noncomputable def vz:DS:=(.for (zT 0 183 8 14) .plain [zV .range [zG (zN 24 183 24 31) 31 36] 183 18 23 37] [] [(zE (zM .extend (zN 2 184 8 13) [zV (.user 26) [zN 24 184 40 47,zN 0 184 49 55] 184 21 39 56] 20 57))] ⟨183,4,184,57⟩)
noncomputable def CW:List DS:=[(zR (zM .join (.lit (.bytes [10]) (zP 185 11 16)) [zN 2 185 22 27] 21 28))]
noncomputable def b27:List DS:=(zA (.t [zT 19 179 4 7,zT 16 179 9 15] (zP 179 4 15)) (zG (zN 24 179 18 25) 71 32))::(zA (zT 2 180 4 9) (.lst true [zM .join (.lit (.bytes [32]) (zP 180 13 17)) [.lst false [.lit (.bytes [112,105,99,116,117,114,101]) (zP 180 24 34),zV (.user 0) [zG (zN 24 180 51 58) 31 63] 180 36 50 64,zV (.user 0) [zG (zN 24 180 81 88) 32 96] 180 66 80 97] (zP 180 23 98)] 22 99] (zP 180 12 100)))::(zA (zT 29 181 4 9) (zF (zG (zN 24 181 24 31) 72 40) (.lit (.bytes [115,104,111,119,110]) (zP 181 12 20)) (.lit (.bytes [104,105,100,100,101,110]) (zP 181 46 55))))::ut::vz::CW
noncomputable def GR:List Nat:=[24]
noncomputable def b28:List DS:=[(.asgAttr (zN 70 189 8 12) 31 (zM .split (zN 3 189 20 26) [.lit (.bytes [10]) (zP 189 33 38)] 32 39) (zP 189 8 17) (zP 189 8 39)),(.asgAttr (zN 70 190 8 12) 50 (zI 0 190 18 19) (zP 190 8 15) (zP 190 8 19))]
noncomputable def pa28:List Nat:=[70,3]
noncomputable def b29:List DS:=[(.asgAttr (zN 70 193 8 12) 50 (zB false .Add (zG (zN 70 193 18 22) 50 25) (zI 1 193 28 29)) (zP 193 8 15) (zP 193 8 29)),(zR (zF (zC .LtE (zG (zN 70 194 53 57) 50 60) (zV .len [zG (zN 70 194 68 72) 31 77] 194 64 67 78)) (zM .split (zS (zG (zN 70 194 15 19) 31 24) (zB false .Sub (zG (zN 70 194 25 29) 50 32) (zI 1 194 35 36))) [.lit (.bytes [32]) (zP 194 44 48)] 43 49) (.lst false [] (zP 194 84 86))))]
noncomputable def pa29:List Nat:=[70]
noncomputable def b30:List DS:=[(zR (zF (zC .Lt (zG (zN 70 197 52 56) 50 59) (zV .len [zG (zN 70 197 66 70) 31 75] 197 62 65 76)) (zS (zM .split (zS (zG (zN 70 197 15 19) 31 24) (zG (zN 70 197 25 29) 50 32)) [.lit (.bytes [32]) (zP 197 40 44)] 39 45) (zI 0 197 46 47)) (.lit (.bytes []) (zP 197 82 85))))]
noncomputable def pa30:List Nat:=[70]
noncomputable def b31:List DS:=[(.ite (.un false (zN 73 200 15 22) (zP 200 11 22)) [(.raise (zG (zN 70 201 26 30) 50 33) (zP 201 18 25) (zP 201 18 34) (zP 201 12 34))] [] ⟨200,8,201,34⟩)]
noncomputable def pa31:List Nat:=[70,73]
noncomputable def b32:List DS:=[(zA (zT 28 204 8 13) (zM (.user 29) (zN 70 204 16 20) [] 26 28)),(zE (zM (.user 31) (zN 70 205 8 12) [.bop true [zC .GtE (zV .len [zN 28 205 22 27] 205 18 21 28) (zI 3 205 32 33),zC .Eq (zS (zN 28 205 38 43) (zI 0 205 44 45)) (zN 56 205 50 54)] (zP 205 18 54)] 17 55)),(zA (.t [zT 17 206 8 11,zT 18 206 13 18] (zP 206 8 18)) (.tup [zV (.user 23) [zS (zN 28 206 37 42) (zI 1 206 43 44)] 206 22 36 46,zV (.user 23) [zS (zN 28 206 63 68) (zI 2 206 69 70)] 206 48 62 72] (zP 206 21 73))),(zE (zM (.user 31) (zN 70 207 8 12) [.bop true [zC .IsNot (zN 17 207 18 21) (.lit .none (zP 207 29 33)),zC .IsNot (zN 18 207 38 43) (.lit .none (zP 207 51 55))] (zP 207 18 55)] 17 56)),(zR (.tup [zN 17 208 16 19,zN 18 208 21 26, .slc false (zN 28 208 28 33) (some (zI 3 208 34 35)) .none .none (zP 208 34 36) (zP 208 28 37)] (zP 208 15 38)))]
noncomputable def pa32:List Nat:=[70,56]
noncomputable def sX:DS:=(zA (zT 28 221 8 13) (zM (.user 29) (zN 70 221 16 20) [] 26 28))
noncomputable def sv:DS:=(zA (zT 65 222 8 15) (.comp false (zV (.user 24) [zN 56 222 41 45] 222 19 40 46) (zT 56 222 51 55) .plain [.slc false (zN 28 222 59 64) (some (zI 1 222 65 66)) (some (zI 5 222 67 68)) .none (zP 222 65 68) (zP 222 59 69)] [] [] (zQ [("word", .local),("picture_signed_number", .globalImplicit)]) (zP 222 18 70)))
noncomputable def vF:DS:=(zE (zM (.user 31) (zN 70 223 8 12) [.bop true [zC .Gt (zV .len [zN 28 223 22 27] 223 18 21 28) (zI 5 223 31 32),zC .NotIn (.lit .none (zP 223 37 41)) (zN 65 223 49 56)] (zP 223 18 56)] 17 57))
noncomputable def vV:DS:=(zA (zT 5 224 8 11) (.tup [zS (zN 65 224 15 22) (zI 0 224 23 24),zS (zN 65 224 27 34) (zI 1 224 35 36),zS (zN 65 224 39 46) (zI 2 224 47 48),zS (zN 65 224 51 58) (zI 3 224 59 60),zI 0 224 63 64] (zP 224 14 65)))
noncomputable def vE:DS:=(zE (zM (.user 31) (zN 70 225 8 12) [.bop true [zC .NotEq (zN 5 225 18 21) (zN 55 225 25 30),zC .GtE (zS (zN 5 225 35 38) (zI 0 225 39 40)) (zI 0 225 45 46)] (zP 225 18 46)] 17 47))
noncomputable def uO:DS:=(zA (zT 51 227 12 19) (zC .Eq (.slc false (zN 56 227 22 26) .none (some (zI 1 227 28 29)) .none (zP 227 27 29) (zP 227 22 30)) (.lit (.bytes [58]) (zP 227 34 38))))
noncomputable def tw:DS:=(zA (zT 25 228 12 17) (zF (zN 51 228 32 39) (.slc false (zN 56 228 20 24) (some (zI 1 228 25 26)) .none .none (zP 228 25 27) (zP 228 20 28)) (zN 56 228 45 49)))
noncomputable def uE:DS:=(zA (zT 12 229 12 17) (zF (zC .Eq (zN 25 229 26 31) (.lit (.bytes [95]) (zP 229 35 39))) (.tup [] (zP 229 20 22)) (zV .tuple [.comp false (zV (.user 21) [zN 74 229 71 75] 229 52 70 76) (zT 74 229 81 85) .plain [zM .split (zN 25 229 89 94) [.lit (.bytes [43]) (zP 229 101 105)] 100 106] [] [] (zQ [("part", .local),("picture_hex_number", .globalImplicit)]) (zP 229 51 107)] 229 45 50 108)))
noncomputable def uQ:DS:=(zE (zM (.user 31) (zN 70 230 12 16) [zC .NotIn (.lit .none (zP 230 22 26)) (zN 12 230 34 39)] 21 40))
noncomputable def vJ:DS:=(zA (zT 11 231 12 16) (.tup [zN 12 231 20 25,zF (zN 51 231 32 39) (zI 2 231 27 28) (zI 1 231 45 46),zN 5 231 48 51] (zP 231 19 52)))
noncomputable def mX:DS:=(zE (zM (.user 31) (zN 70 232 12 16) [zC .Eq (zV (.user 3) [zB false .Add (zN 11 232 33 37) (.tup [.lit (.bool false) (zP 232 41 46)] (zP 232 40 48))] 232 22 32 49) (zN 11 232 53 57)] 21 58))
noncomputable def tR:DS:=(zE (zM .append (zN 15 233 12 17) [zN 11 233 25 29] 24 30))
noncomputable def vG:DS:=(.ite (zN 51 234 15 22) [(zE (zM .append (zN 15 235 16 21) [.tup [.tup [] (zP 235 30 32),zI 0 235 34 35, .glob 1 (zP 235 37 43)] (zP 235 29 44)] 28 45))] [] ⟨234,12,235,45⟩)
noncomputable def uG:List DS:=[uO,tw,uE,uQ,vJ,mX,tR,vG]
noncomputable def b33:List DS:=sX::sv::vF::vV::vE::(.for (zT 56 226 12 16) .plain [.slc false (zN 28 226 20 25) (some (zI 5 226 26 27)) .none .none (zP 226 26 28) (zP 226 20 29)] [] uG ⟨226,8,235,45⟩)::[(zR (zN 5 236 15 18))]
noncomputable def pa33:List Nat:=[70,15,55]
noncomputable def r3:DS:=(zA (.n true 28 (zP 211 8 13)) (zM (.user 29) (zN 70 211 16 20) [] 26 28))
noncomputable def CP:DE:=(zN 56 212 17 21)
noncomputable def Af:List DE:=[(.cmp .Eq (.slc false (.nm true 28 ⟨212,48,212,53⟩) (some (.lit (.int 1) ⟨212,54,212,55⟩)) (some (.lit (.int 2) ⟨212,56,212,57⟩)) .none ⟨212,54,212,57⟩ ⟨212,48,212,58⟩) (.lst false [(.szw (.nm false 56 ⟨212,74,212,78⟩) ⟨212,63,212,73⟩ ⟨212,63,212,79⟩)] ⟨212,62,212,80⟩) ⟨212,48,212,80⟩)]
noncomputable def v8:DS:=(zA (zT 34 212 8 13) (.comp false CP (zT 56 212 26 30) .szw [] [zP 212 34 44] Af (zQ [("word", .local),("SIZE_WORDS", .globalImplicit),("words", .free)]) (zP 212 16 81)))
noncomputable def mG:DS:=(zE (zM (.user 31) (zN 70 213 8 12) [.bop true [zC .Eq (zV .len [.nm true 28 (zP 213 22 27)] 213 18 21 28) (zI 3 213 32 33),zC .Eq (zS (.nm true 28 (zP 213 38 43)) (zI 0 213 44 45)) (.lit (.bytes [108,105,110,101]) (zP 213 50 57)),zC .NotEq (zN 34 213 63 68) (.lst false [] (zP 213 72 74)),zC .In (zS (.nm true 28 (zP 213 81 86)) (zI 2 213 87 88)) (.tup [.lit (.bytes [111,110]) (zP 213 94 99), .lit (.bytes [101,110,100,115]) (zP 213 101 108)] (zP 213 93 109))] (zP 213 18 110)] 17 111))
noncomputable def uy:DS:=(zA (.t [zT 15 214 8 13,zT 5 214 15 18] (zP 214 8 18)) (.tup [.lst true [] (zP 214 22 24), .lit .none (zP 214 26 30)] (zP 214 21 31)))
noncomputable def Co:List DS:=[(zA (zT 5 216 12 15) (zM (.user 33) (zN 70 216 18 22) [zN 15 216 27 32,zN 5 216 34 37] 26 38))]
noncomputable def vO:DS:=(zE (zM (.user 31) (zN 70 217 8 12) [zC .Eq (zV .len [zN 15 217 22 27] 217 18 21 28) (zN 32 217 32 39)] 17 40))
noncomputable def v6:DS:=(zR (.tup [zN 15 218 16 21,zS (zN 34 218 23 28) (zI 0 218 29 30),zC .Eq (zS (.nm true 28 (zP 218 33 38)) (zI 2 218 39 40)) (.lit (.bytes [111,110]) (zP 218 45 50))] (zP 218 15 51)))
noncomputable def Cz:List DS:=[vO,v6]
noncomputable def b34:List DS:=r3::v8::mG::uy::(.while (zC .Eq (zM (.user 30) (zN 70 215 14 18) [] 28 30) (.lit (.bytes [114,117,110]) (zP 215 34 40))) Co ⟨215,8,216,38⟩)::Cz
noncomputable def pa34:List Nat:=[70,32]
noncomputable def tm:DS:=(zA (zT 30 238 4 10) (zV (.user 28) [zN 3 238 27 33] 238 13 26 34))
noncomputable def sK:DS:=(zA (.t [zT 31 239 4 8,zT 32 239 10 17,zT 33 239 19 23] (zP 239 4 23)) (zM (.user 32) (zN 30 239 26 32) [.lit (.bytes [112,105,99,116,117,114,101]) (zP 239 39 49)] 38 50))
noncomputable def sM:DS:=(zE (zM (.user 31) (zN 30 240 4 10) [.bop true [zC .Gt (zN 31 240 16 20) (zI 0 240 23 24),zC .Gt (zN 32 240 29 36) (zI 0 240 39 40),zC .Eq (zN 33 240 46 50) (.lst false [] (zP 240 54 56))] (zP 240 16 57)] 15 58))
noncomputable def uX:DS:=(zA (.t [zT 19 241 4 7,zT 16 241 9 15,zT 33 241 17 21] (zP 241 4 21)) (zM (.user 32) (zN 30 241 24 30) [.lit (.bytes [99,117,114,115,111,114]) (zP 241 37 46)] 36 47))
noncomputable def uV:DS:=(zE (zM (.user 31) (zN 30 242 4 10) [.bop true [zC .Lt (zN 19 242 16 19) (zN 31 242 22 26),zC .Lt (zN 16 242 31 37) (zN 32 242 40 47),zC .In (zN 33 242 53 57) (.tup [.lst false [.lit (.bytes [115,104,111,119,110]) (zP 242 63 71)] (zP 242 62 72), .lst false [.lit (.bytes [104,105,100,100,101,110]) (zP 242 75 84)] (zP 242 74 85)] (zP 242 61 86))] (zP 242 16 87)] 15 88))
noncomputable def ue:DS:=(zA (.t [zT 15 243 4 9,zT 34 243 11 16,zT 35 243 18 23] (zP 243 4 23)) (.tup [.lst true [] (zP 243 27 29), .lst true [] (zP 243 31 33), .lst true [] (zP 243 35 37)] (zP 243 26 38)))
noncomputable def nO:DS:=(zA (.t [zT 2 245 8 13,zT 36 245 15 19,zT 27 245 21 28] (zP 245 8 28)) (zM (.user 34) (zN 30 245 31 37) [zN 32 245 43 50] 42 51))
noncomputable def tB:DS:=(zE (zM .append (zN 15 246 8 13) [zN 2 246 21 26] 20 27))
noncomputable def sZ:DS:=(zE (zM .append (zN 34 247 8 13) [zN 36 247 21 25] 20 26))
noncomputable def ul:DS:=(zE (zM .append (zN 35 248 8 13) [zN 27 248 21 28] 20 29))
noncomputable def uZ:DS:=(.for (zT 0 244 8 14) .plain [zV .range [zN 31 244 24 28] 244 18 23 29] [] [nO,tB,sZ,ul] ⟨244,4,248,29⟩)
noncomputable def uJ:DS:=(.ite (zC .Lt (zG (zN 30 249 7 13) 50 16) (zV .len [zG (zN 30 249 23 29) 31 34] 249 19 22 35)) [(.raise (zB false .Add (zG (zN 30 250 22 28) 50 31) (zI 1 250 34 35)) (zP 250 14 21) (zP 250 14 36) (zP 250 8 36))] [] ⟨249,4,250,36⟩)
noncomputable def vM:DS:=(zR (zV (.user 5) [zN 31 251 19 23,zN 32 251 25 32,zN 15 251 34 39,zN 34 251 41 46,zN 35 251 48 53, .tup [zN 19 251 56 59,zN 16 251 61 67] (zP 251 55 68),zC .Eq (zN 33 251 70 74) (.lst false [.lit (.bytes [115,104,111,119,110]) (zP 251 79 87)] (zP 251 78 88))] 251 11 18 89))
noncomputable def Cn:List DS:=[uJ,vM]
noncomputable def b35:List DS:=tm::sK::sM::uX::uV::ue::uZ::Cn
noncomputable def pa35:List Nat:=[3]
noncomputable def b36:List DS:=[(zR (.tup [.tup [] (zP 255 12 14),zI 1 255 16 17, .glob 5 (zP 255 19 30)] (zP 255 11 31)))]
noncomputable def pa36:List Nat:=[]
noncomputable def b37:List DS:=[(zR (zB false .Add (zB false .Add (zB false .Add (zI 32 259 11 13) (zI 128 259 16 19)) (zI 256 259 22 25)) (zB false .Mult (zI 7 259 28 29) (zI 512 259 32 35))))]
noncomputable def pa37:List Nat:=[]
noncomputable def Cj:DE:=(zB false .Mod (zN 11 261 21 25) (zB false .Pow (zI 10 261 28 30) (zI 30 261 34 36)))
noncomputable def tQ:DS:=(zA (.t [zT 15 261 4 9,zT 38 261 11 16] (zP 261 4 16)) (.tup [.comp false Cj (zT 11 261 41 45) .plain [.slc false (zN 37 261 49 55) .none (some (zI 20 261 57 59)) .none (zP 261 56 59) (zP 261 49 60)] [] [] (zQ [("cell", .local)]) (zP 261 20 61),zI 1009 261 63 67] (zP 261 19 68)))
noncomputable def uv:DS:=(.for (zT 11 262 8 12) .plain [zN 15 262 16 21] [] [(zA (zT 38 263 8 13) (.bin false .Mod (zB false .Add (zB false .Add (zB false .Mult (zN 38 263 17 22) (zI 48271 263 25 30)) (zB false .Mod (zN 11 263 33 37) (zI 2147483629 263 40 50))) (zI 100 263 53 56)) (zI 2147483587 263 60 70) (zP 263 16 70)))] ⟨262,4,263,70⟩)
noncomputable def uh:DS:=(zR (.lst true [.slc true (zN 15 264 12 17) .none .none (some (.un true (zI 1 264 21 22) (zP 264 20 22))) (zP 264 18 22) (zP 264 12 23),zN 38 264 25 30,zI 0 264 32 33] (zP 264 11 34)))
noncomputable def b38:List DS:=tQ::uv::[uh]
noncomputable def pa38:List Nat:=[37]
noncomputable def sD:DS:=(.asgSub (zN 39 266 4 8) (zI 2 266 9 10) (zB false .Add (zS (zN 39 266 14 18) (zI 2 266 19 20)) (zI 1 266 24 25)) (zP 266 4 11) (zP 266 4 25))
noncomputable def m4:DS:=(.ite (.bop true [zC .NotEq (zS (zN 39 267 7 11) (zI 0 267 12 13)) (.lst false [] (zP 267 18 20)),zC .GtE (zS (zS (zN 39 267 25 29) (zI 0 267 30 31)) (.un true (zI 1 267 34 35) (zP 267 33 35))) (zI 1000 267 40 44)] (zP 267 7 44)) [(zA (zT 11 268 8 12) (zM .pop (zS (zN 39 268 15 19) (zI 0 268 20 21)) [] 26 28)),(zE (zM .append (zS (zN 39 269 8 12) (zI 0 269 13 14)) [zB false .FloorDiv (zN 11 269 23 27) (zN 40 269 31 36)] 22 37)),(zR (zB false .Mod (zN 11 270 15 19) (zN 40 270 22 27)))] [] ⟨267,4,270,27⟩)
noncomputable def uM:DS:=(zA (zT 41 271 4 10) (zB false .Add (zS (zN 39 271 13 17) (zI 1 271 18 19)) (zB false .Mult (zI 10007 271 23 28) (zS (zN 39 271 31 35) (zI 2 271 36 37)))))
noncomputable def nq:DS:=(.ite (zC .NotEq (zS (zN 39 272 7 11) (zI 0 272 12 13)) (.lst false [] (zP 272 18 20))) [(zA (zT 41 273 8 14) (zB false .Add (zN 41 273 17 23) (zM .pop (zS (zN 39 273 26 30) (zI 0 273 31 32)) [] 37 39)))] [] ⟨272,4,273,39⟩)
noncomputable def n9:DS:=(.asgSub (zN 39 274 4 8) (zI 1 274 9 10) (.bin false .Mod (zB false .Add (zB false .Mult (zB false .Mod (zN 41 274 15 21) (zI 2147483629 274 24 34)) (zI 40692 274 37 42)) (zI 10009 274 45 50)) (zI 2147483647 274 54 64) (zP 274 14 64)) (zP 274 4 11) (zP 274 4 64))
noncomputable def nS:DS:=(zR (zB false .Mod (zB false .FloorDiv (zS (zN 39 275 11 15) (zI 1 275 16 17)) (zI 64 275 22 24)) (zN 40 275 27 32)))
noncomputable def b39:List DS:=[sD,m4,uM,nq,n9,nS]
noncomputable def pa39:List Nat:=[39,40]
noncomputable def u4:DS:=(zA (.t [zT 7 277 4 9,zT 8 277 11 15] (zP 277 4 15)) (.tup [zS (.glob 7 (zP 277 19 29)) (zV (.user 39) [zN 39 277 40 44,zI 8 277 46 47] 277 30 39 48),zS (.tup [.un true (zI 1 277 53 54) (zP 277 52 54),zI 1 277 56 57,zB false .Add (zI 16777216 277 59 67) (zI 66051 277 70 75)] (zP 277 51 76)) (zV (.user 39) [zN 39 277 87 91,zI 3 277 93 94] 277 77 86 95)] (zP 277 18 97)))
noncomputable def ud:DS:=(zA (.t [zT 9 278 4 8,zT 10 278 10 15] (zP 278 4 15)) (.tup [zS (.tup [.un true (zI 1 278 21 22) (zP 278 20 22),zI 4 278 24 25,zI 200 278 27 30] (zP 278 19 31)) (zV (.user 39) [zN 39 278 42 46,zI 3 278 48 49] 278 32 41 50),zS (.tup [.un true (zI 1 278 55 56) (zP 278 54 56),zI 2 278 58 59] (zP 278 53 60)) (zV (.user 39) [zN 39 278 71 75,zI 2 278 77 78] 278 61 70 79)] (zP 278 18 81)))
noncomputable def sB:DS:=(zA (zT 7 280 8 13) (zB false .BitAnd (zN 7 280 16 21) (zV (.user 37) [] 280 24 33 35)))
noncomputable def vH:DS:=(zA (zT 8 281 8 12) (zF (zC .Gt (zN 7 281 23 28) (zI 0 281 31 32)) (zN 8 281 15 19) (.un true (zI 1 281 39 40) (zP 281 38 40))))
noncomputable def u9:DS:=(.ite (zN 42 279 7 15) [sB,vH] [] ⟨279,4,281,40⟩)
noncomputable def mU:DS:=(zR (.tup [zN 7 282 12 17,zN 8 282 19 23,zN 9 282 25 29,zF (zC .GtE (zN 7 282 40 45) (zI 512 282 49 52)) (zN 10 282 31 36) (.un true (zI 1 282 59 60) (zP 282 58 60)),zI 0 282 62 63] (zP 282 11 64)))
noncomputable def b40:List DS:=[u4,ud,u9,mU]
noncomputable def pa40:List Nat:=[39,42]
noncomputable def rX:DS:=(zA (zT 43 286 8 12) (zV (.user 39) [zN 39 286 25 29,zI 5 286 31 32] 286 15 24 33))
noncomputable def nU:DS:=(.ite (zC .Eq (zN 43 287 11 15) (zI 0 287 19 20)) [(zE (zM .append (zN 2 288 12 17) [zV (.user 36) [] 288 25 34 36] 24 37)),(.cont (zP 289 12 20))] [] ⟨287,8,289,20⟩)
noncomputable def nK:DS:=(zA (zT 25 290 8 13) (zF (zC .Eq (zN 43 290 22 26) (zI 1 290 30 31)) (.tup [] (zP 290 16 18)) (.tup [zB false .Add (zI 97 290 38 40) (zV (.user 39) [zN 39 290 53 57,zI 3 290 59 60] 290 43 52 61)] (zP 290 37 63))))
noncomputable def tM:DS:=(zA (zT 5 291 8 11) (zV (.user 40) [zN 39 291 23 27,zC .Eq (zN 43 291 29 33) (zI 1 291 37 38)] 291 14 22 39))
noncomputable def tu:DS:=(zE (zM .extend (zN 2 293 12 17) [.lst false [.tup [.tup [zB false .Add (zI 19871 293 28 33) (zS (zN 25 293 36 41) (zI 0 293 42 43))] (zP 293 27 46),zI 2 293 48 49,zN 5 293 51 54] (zP 293 26 55), .tup [.tup [] (zP 293 58 60),zI 0 293 62 63, .glob 5 (zP 293 65 76)] (zP 293 57 77)] (zP 293 25 78)] 24 79))
noncomputable def uT:DS:=(zE (zM .append (zN 2 295 12 17) [.tup [.bin false .Add (zN 25 295 26 31) (zF (zC .Eq (zN 43 295 45 49) (zI 3 295 53 54)) (.tup [zI 769 295 36 39] (zP 295 35 41)) (.tup [] (zP 295 60 62))) (zP 295 26 63),zI 1 295 65 66,zN 5 295 68 71] (zP 295 25 72)] 24 73))
noncomputable def mY:DS:=(.ite (.bop true [zC .Eq (zN 43 292 11 15) (zI 4 292 19 20),zC .Eq (zN 36 292 25 29) (.lit (.str [115,105,110,103,108,101]) (zP 292 33 41)),zC .Lt (zB false .Add (zV .len [zN 2 292 51 56] 292 47 50 57) (zI 1 292 60 61)) (zN 32 292 64 71)] (zP 292 11 72)) [tu] [uT] ⟨292,8,295,73⟩)
noncomputable def CJ:List DS:=[rX,nU,nK,tM,mY]
noncomputable def b41:List DS:=(zA (zT 2 284 4 9) (.lst true [] (zP 284 12 14)))::(.while (zC .Lt (zV .len [zN 2 285 14 19] 285 10 13 20) (zN 32 285 23 30)) CJ ⟨285,4,295,73⟩)::[(zR (zN 2 296 11 16))]
noncomputable def pa41:List Nat:=[39,32,36]
noncomputable def sW:DS:=(zA (.t [zT 46 298 4 8,zT 32 298 10 17,zT 47 298 19 24] (zP 298 4 24)) (.tup [zB false .Add (zI 1 298 28 29) (zV (.user 39) [zN 39 298 42 46,zI 3 298 48 49] 298 32 41 50),zB false .Add (zI 2 298 52 53) (zV (.user 39) [zN 39 298 66 70,zI 5 298 72 73] 298 56 65 74), .lst true [] (zP 298 76 78)] (zP 298 27 79)))
noncomputable def r8:DS:=(zA (zT 36 300 8 12) (zS (.glob 6 (zP 300 15 25)) (zV (.user 39) [zN 39 300 36 40,zI 6 300 42 43] 300 26 35 44)))
noncomputable def v4:DS:=(zA (zT 27 301 8 15) (zC .Eq (zV (.user 39) [zN 39 301 28 32,zI 2 301 34 35] 301 18 27 36) (zI 1 301 40 41)))
noncomputable def tG:DS:=(zE (zM .append (zN 47 302 8 13) [.lst false [zV (.user 41) [zN 39 302 32 36,zN 32 302 38 45,zN 36 302 47 51] 302 22 31 52,zN 36 302 54 58,zN 27 302 60 67] (zP 302 21 68)] 20 69))
noncomputable def wb:DS:=(zA (zT 45 303 4 9) (.tup [zV (.user 39) [zN 39 303 23 27,zN 46 303 29 33] 303 13 22 34,zV (.user 39) [zN 39 303 46 50,zN 32 303 52 59] 303 36 45 60] (zP 303 12 61)))
noncomputable def tY:DS:=(zR (.lst false [zN 47 304 12 17,zN 45 304 19 24,zC .Gt (zV (.user 39) [zN 39 304 36 40,zI 3 304 42 43] 304 26 35 44) (zI 0 304 47 48)] (zP 304 11 49)))
noncomputable def b42:List DS:=sW::(.for (zT 44 299 8 12) .plain [zV .range [zN 46 299 22 26] 299 16 21 27] [] [r8,v4,tG] ⟨299,4,302,69⟩)::[wb,tY]
noncomputable def pa42:List Nat:=[39]
noncomputable def Cy:DE:=(.lst true [zV (.list true) [zS (zN 52 306 36 40) (zI 0 306 41 42)] 306 31 35 44,zS (zN 52 306 46 50) (zI 1 306 51 52),zS (zN 52 306 55 59) (zI 2 306 60 61)] (zP 306 30 63))
noncomputable def uY:DS:=(zA (.t [zT 47 306 4 9,zT 45 306 11 16,zT 49 306 18 25] (zP 306 4 25)) (.tup [.comp false Cy (zT 52 306 68 72) .plain [zS (zN 48 306 76 81) (zI 0 306 82 83)] [] [] (zQ [("line", .local),("list", .globalImplicit)]) (zP 306 29 85),zS (zN 48 306 87 92) (zI 1 306 93 94),zS (zN 48 306 97 102) (zI 2 306 103 104)] (zP 306 28 106)))
noncomputable def u3:DS:=(zA (.t [zT 52 308 8 12,zT 53 308 14 17] (zP 308 8 17)) (.tup [zS (zN 47 308 21 26) (zV (.user 39) [zN 39 308 37 41,zV .len [zN 47 308 47 52] 308 43 46 53] 308 27 36 54),zV (.user 39) [zN 39 308 67 71,zI 6 308 73 74] 308 57 66 75] (zP 308 20 76)))
noncomputable def sP:DS:=(zA (zT 15 309 8 13) (zS (zN 52 309 16 20) (zI 0 309 21 22)))
noncomputable def tC:DS:=(zA (zT 50 310 8 10) (zV (.user 39) [zN 39 310 23 27,zV .len [zN 15 310 33 38] 310 29 32 39] 310 13 22 40))
noncomputable def tO:DS:=(zA (zT 51 311 8 15) (zC .NotEq (.comp false (zI 1 311 19 20) (zT 11 311 25 29) .plain [zN 15 311 33 38] [] [(.cmp .NotEq (.sub (.nm false 11 ⟨311,42,311,46⟩) (.lit (.int 1) ⟨311,47,311,48⟩) ⟨311,42,311,49⟩) (.lit (.int 1) ⟨311,53,311,54⟩) ⟨311,42,311,54⟩)] (zQ [("cell", .local)]) (zP 311 18 55)) (.lst false [] (zP 311 59 61))))
noncomputable def mT:DS:=(.asgSub (zN 15 313 12 17) (zN 50 313 18 20) (.tup [.tup [zB false .Add (zI 97 313 26 28) (zV (.user 39) [zN 39 313 41 45,zI 3 313 47 48] 313 31 40 49)] (zP 313 25 51),zI 1 313 53 54, .glob 5 (zP 313 56 67)] (zP 313 24 68)) (zP 313 12 21) (zP 313 12 68))
noncomputable def ng:DS:=(.asgSub (zN 15 315 12 17) (zN 50 315 18 20) (.tup [zS (zS (zN 15 315 25 30) (zN 50 315 31 33)) (zI 0 315 35 36),zS (zS (zN 15 315 39 44) (zN 50 315 45 47)) (zI 1 315 49 50), .tup [zI 1 315 54 55, .un true (zI 1 315 58 59) (zP 315 57 59),zI 4 315 61 62, .un true (zI 1 315 65 66) (zP 315 64 66),zI 0 315 68 69] (zP 315 53 70)] (zP 315 24 71)) (zP 315 12 21) (zP 315 12 71))
noncomputable def nI:DS:=(.asgSlc (zN 15 317 12 17) (zN 50 317 18 20) (zB false .Add (zN 50 317 21 23) (zI 2 317 26 27)) (.lst false [.tup [.tup [zI 19968 317 34 39] (zP 317 33 41),zI 2 317 43 44, .glob 5 (zP 317 46 57)] (zP 317 32 58), .tup [.tup [] (zP 317 61 63),zI 0 317 65 66, .glob 5 (zP 317 68 79)] (zP 317 60 80)] (zP 317 31 81)) (zP 317 18 27) (zP 317 12 28) (zP 317 12 81))
noncomputable def oa:DS:=(.asgSub (zN 52 319 12 16) (zI 1 319 17 18) (zS (.glob 6 (zP 319 22 32)) (zV (.user 39) [zN 39 319 43 47,zI 6 319 49 50] 319 33 42 51)) (zP 319 12 19) (zP 319 12 52))
noncomputable def mL:DS:=(.asgSub (zN 52 321 12 16) (zI 2 321 17 18) (.un false (zS (zN 52 321 26 30) (zI 2 321 31 32)) (zP 321 22 33)) (zP 321 12 19) (zP 321 12 33))
noncomputable def m5:DS:=(zA (.t [zT 45 323 12 17,zT 49 323 19 26] (zP 323 12 26)) (.tup [.tup [zV (.user 39) [zN 39 323 41 45,zV .len [zN 47 323 51 56] 323 47 50 57] 323 31 40 58,zN 50 323 60 62] (zP 323 30 63),zC .Eq (zV (.user 39) [zN 39 323 75 79,zI 2 323 81 82] 323 65 74 83) (zI 0 323 87 88)] (zP 323 29 89)))
noncomputable def oj:DS:=(.ite (zC .Eq (zN 53 320 13 16) (zI 4 320 20 21)) [mL] [(.ite (zC .Eq (zN 53 322 13 16) (zI 5 322 20 21)) [m5] [] ⟨322,8,323,89⟩)] ⟨320,8,323,89⟩)
noncomputable def nt:DS:=(.ite (.bop true [zC .Eq (zN 53 318 13 16) (zI 3 318 20 21), .un false (zN 51 318 31 38) (zP 318 27 38)] (zP 318 13 39)) [oa] [oj] ⟨318,8,323,89⟩)
noncomputable def nu:DS:=(.ite (.bop true [zC .Eq (zN 53 316 13 16) (zI 2 316 20 21),zC .Eq (zS (zN 52 316 26 30) (zI 1 316 31 32)) (.lit (.str [115,105,110,103,108,101]) (zP 316 37 45)),zC .Eq (.comp false (zS (zN 11 316 52 56) (zI 1 316 57 58)) (zT 11 316 64 68) .plain [.slc false (zN 15 316 72 77) (some (zN 50 316 78 80)) (some (zB false .Add (zN 50 316 81 83) (zI 2 316 86 87))) .none (zP 316 78 87) (zP 316 72 88)] [] [] (zQ [("cell", .local)]) (zP 316 51 89)) (.lst false [zI 1 316 94 95,zI 1 316 97 98] (zP 316 93 99))] (zP 316 13 100)) [nI] [nt] ⟨316,8,323,89⟩)
noncomputable def oh:DS:=(.ite (.bop true [zC .Eq (zN 53 314 13 16) (zI 1 314 20 21),zC .NotEq (zS (zS (zN 15 314 26 31) (zN 50 314 32 34)) (zI 0 314 36 37)) (.tup [] (zP 314 42 44))] (zP 314 13 44)) [ng] [nu] ⟨314,8,323,89⟩)
noncomputable def sN:DS:=(.ite (.bop true [zC .Eq (zN 53 312 11 14) (zI 0 312 18 19),zC .Eq (zS (zS (zN 15 312 24 29) (zN 50 312 30 32)) (zI 1 312 34 35)) (zI 1 312 40 41)] (zP 312 11 41)) [mT] [oh] ⟨312,8,323,89⟩)
noncomputable def yw:List DS:=[u3,sP,tC,tO,sN]
noncomputable def tL:DS:=(.for (zT 44 307 8 12) .plain [zV .range [zV (.user 39) [zN 39 307 32 36,zI 4 307 38 39] 307 22 31 40] 307 16 21 41] [] yw ⟨307,4,323,89⟩)
noncomputable def tF:DS:=(zR (.lst false [zN 47 324 12 17,zN 45 324 19 24,zN 49 324 26 33] (zP 324 11 34)))
noncomputable def CV:List DS:=[tF]
noncomputable def b43:List DS:=uY::tL::CV
noncomputable def pa43:List Nat:=[39,48]
noncomputable def sf:DS:=(zA (.t [zT 47 326 4 9,zT 45 326 11 16,zT 49 326 18 25] (zP 326 4 25)) (zN 48 326 28 33))
noncomputable def rY:DS:=(zA (zT 31 327 4 8) (.comp false (zV (.list false) [zS (zN 52 327 17 21) (zI 0 327 22 23)] 327 12 16 25) (zT 52 327 30 34) .plain [zN 47 327 38 43] [] [] (zQ [("line", .local),("list", .globalImplicit)]) (zP 327 11 44)))
noncomputable def s6:DS:=(zR (zV (.user 5) [zV .len [zN 47 328 23 28] 328 19 22 29,zV .len [zS (zN 31 328 35 39) (zI 0 328 40 41)] 328 31 34 43,zN 31 328 45 49, .comp false (zS (zN 52 328 52 56) (zI 1 328 57 58)) (zT 52 328 64 68) .plain [zN 47 328 72 77] [] [] (zQ [("line", .local)]) (zP 328 51 78), .comp false (zS (zN 52 328 81 85) (zI 2 328 86 87)) (zT 52 328 93 97) .plain [zN 47 328 101 106] [] [] (zQ [("line", .local)]) (zP 328 80 107),zN 45 328 109 114,zN 49 328 116 123] 328 11 18 124))
noncomputable def b44:List DS:=[sf,rY,s6]
noncomputable def pa44:List Nat:=[48]
noncomputable def b45:List DS:=[(zR (zF (zC .Eq (zN 54 330 18 23) (.un true (zI 1 330 28 29) (zP 330 27 29))) (.lit (.str [45]) (zP 330 11 14)) (zV .str [zN 54 330 39 44] 330 35 38 45)))]
noncomputable def pa45:List Nat:=[54]
noncomputable def b46:List DS:=(zA (zT 2 332 4 9) (.lit (.str []) (zP 332 12 14)))::(.while (zC .Gt (zN 0 333 10 16) (zI 0 333 19 20)) [(zA (zT 2 334 8 13) (zB false .Add (zS (.lit (.str [48,49,50,51,52,53,54,55,56,57,97,98,99,100,101,102]) (zP 334 16 34)) (zB false .Mod (zN 0 334 35 41) (zI 16 334 44 46))) (zN 2 334 50 55))),(zA (zT 0 335 8 14) (zB false .FloorDiv (zN 0 335 17 23) (zI 16 335 27 29)))] ⟨333,4,335,29⟩)::[(zR (zN 2 336 11 16))]
noncomputable def pa46:List Nat:=[0]
noncomputable def uS:DS:=(zA (zT 2 338 4 9) (.lst true [zB false .Add (zB false .Add (zB false .Add (.lit (.str [112,105,99,116,117,114,101,32]) (zP 338 13 23)) (zV .str [zN 31 338 30 34] 338 26 29 35)) (.lit (.str [32]) (zP 338 38 41))) (zV .str [zN 32 338 48 55] 338 44 47 56),zB false .Add (zB false .Add (zB false .Add (.lit (.str [99,117,114,115,111,114,32]) (zP 338 58 67)) (zV .str [zS (zN 45 338 74 79) (zI 0 338 80 81)] 338 70 73 83)) (.lit (.str [32]) (zP 338 86 89))) (zV .str [zS (zN 45 338 96 101) (zI 1 338 102 103)] 338 92 95 105)] (zP 338 12 106)))
noncomputable def ub:DS:=(.asgSub (zN 2 339 4 9) (zI 1 339 10 11) (.bin false .Add (zS (zN 2 339 15 20) (zI 1 339 21 22)) (zF (zN 49 339 39 46) (.lit (.str [32,115,104,111,119,110]) (zP 339 27 35)) (.lit (.str [32,104,105,100,100,101,110]) (zP 339 52 61))) (zP 339 15 62)) (zP 339 4 12) (zP 339 4 62))
noncomputable def ui:DS:=(zE (zM .append (zN 2 341 8 13) [.bin false .Add (zB false .Add (.lit (.str [108,105,110,101,32]) (zP 341 21 28)) (zS (zN 34 341 31 36) (zN 19 341 37 40))) (zF (zS (zN 35 341 54 59) (zN 19 341 60 63)) (.lit (.str [32,111,110]) (zP 341 45 50)) (.lit (.str [32,101,110,100,115]) (zP 341 70 77))) (zP 341 21 78)] 20 79))
noncomputable def nk:DS:=(zE (zM .append (zN 2 347 16 21) [zB false .Add (.lit (.str [114,117,110,32]) (zP 347 29 35)) (zM .join (.lit (.str [32]) (zP 347 38 41)) [.lst false [zV .str [zS (zN 5 347 52 55) (zI 0 347 56 57)] 347 48 51 59,zV (.user 45) [zS (zN 5 347 73 76) (zI 1 347 77 78)] 347 61 72 80,zV (.user 45) [zS (zN 5 347 94 97) (zI 2 347 98 99)] 347 82 93 101,zV (.user 45) [zS (zN 5 347 115 118) (zI 3 347 119 120)] 347 103 114 122] (zP 347 47 123)] 46 124)] 28 125))
noncomputable def nP:DS:=(zA (zT 55 348 16 21) (zN 5 348 24 27))
noncomputable def j5:DS:=(zA (zT 56 349 12 16) (zF (zC .Gt (zV .len [zN 25 349 71 76] 349 67 70 77) (zI 0 349 80 81)) (zM .join (.lit (.str [43]) (zP 349 19 22)) [.comp false (zV (.user 46) [zN 57 349 38 42] 349 29 37 43) (zT 57 349 48 52) .plain [zN 25 349 56 61] [] [] (zQ [("sign", .local),("_law_hex", .globalImplicit)]) (zP 349 28 62)] 27 63) (.lit (.str [95]) (zP 349 87 90))))
noncomputable def jc:DS:=(.asgSub (zN 2 350 12 17) (.un true (zI 1 350 19 20) (zP 350 18 20)) (zB false .Add (.bin false .Add (zB false .Add (zS (zN 2 350 24 29) (.un true (zI 1 350 31 32) (zP 350 30 32))) (.lit (.str [32]) (zP 350 36 39))) (zF (zC .Eq (zN 13 350 50 55) (zI 2 350 59 60)) (.lit (.str [58]) (zP 350 43 46)) (.lit (.str []) (zP 350 66 68))) (zP 350 24 69)) (zN 56 350 72 76)) (zP 350 12 21) (zP 350 12 76))
noncomputable def CZ:List DS:=[(.ite (zC .Eq (zN 13 344 15 20) (zI 0 344 24 25)) [(.cont (zP 345 16 24))] [] ⟨344,12,345,24⟩),(.ite (zC .NotEq (zN 5 346 15 18) (zN 55 346 22 27)) [nk,nP] [] ⟨346,12,348,27⟩),j5,jc]
noncomputable def b47:List DS:=uS::ub::(.for (zT 19 340 8 11) .plain [zV .range [zN 31 340 21 25] 340 15 20 26] [] [ui,(zA (zT 55 342 8 13) (.lit .none (zP 342 16 20))),(.for (.t [zT 25 343 12 17,zT 13 343 19 24,zT 5 343 26 29] (zP 343 12 29)) .plain [zS (zN 15 343 33 38) (zN 19 343 39 42)] [] CZ ⟨343,8,350,76⟩)] ⟨340,4,350,76⟩)::[(zR (zN 2 351 11 16))]
noncomputable def pa47:List Nat:=[31,32,15,34,35,45,49]
noncomputable def b48:List DS:=[(zR (zV .bytes [.comp false (zV .ord [zN 57 353 22 26] 353 18 21 27) (zT 57 353 32 36) .plain [zM .join (.lit (.str [10]) (zP 353 40 44)) [zN 31 353 50 54] 49 55] [] [] (zQ [("sign", .local),("ord", .globalImplicit)]) (zP 353 17 56)] 353 11 16 57))]
noncomputable def pa48:List Nat:=[31]
noncomputable def tc:DS:=(zA (.n true 53 (zP 355 4 7)) (zV (.user 39) [zN 39 355 20 24,zI 8 355 26 27] 355 10 19 28))
noncomputable def tI:DS:=(zA (zT 58 356 4 9) (.comp false (zN 50 356 13 15) (zT 50 356 20 22) .plain [zV .range [zV .len [.nm true 31 (zP 356 36 40)] 356 32 35 41] 356 26 31 42] [] [(.cmp .Eq (.slc false (.sub (.nm true 31 ⟨356,46,356,50⟩) (.nm false 50 ⟨356,51,356,53⟩) ⟨356,46,356,54⟩) .none (some (.lit (.int 4) ⟨356,56,356,57⟩)) .none ⟨356,55,356,57⟩ ⟨356,46,356,58⟩) (.ife (.cmp .In (.nm true 53 ⟨356,73,356,76⟩) (.tup [(.lit (.int 2) ⟨356,81,356,82⟩),(.lit (.int 5) ⟨356,84,356,85⟩)] ⟨356,80,356,86⟩) ⟨356,73,356,86⟩) (.lit (.str [108,105,110,101]) ⟨356,63,356,69⟩) (.lit (.str [114,117,110,32]) ⟨356,92,356,98⟩) ⟨356,63,356,98⟩) ⟨356,46,356,99⟩)] (zQ [("at", .local),("rows", .free),("way", .free)]) (zP 356 12 100)))
noncomputable def u1:DS:=(zA (zT 50 357 4 6) (zS (zN 58 357 9 14) (zV (.user 39) [zN 39 357 25 29,zV .len [zN 58 357 35 40] 357 31 34 41] 357 15 24 42)))
noncomputable def ny:DS:=(zR (.tup [zB false .Add (zB false .Add (.slc false (.nm true 31 (zP 359 16 20)) .none (some (.nm true 53 (zP 359 22 25))) .none (zP 359 21 25) (zP 359 16 26)) (.lst false [zB false .Add (zS (.nm true 31 (zP 359 30 34)) (.nm true 53 (zP 359 35 38))) (.lit (.str [32,49]) (zP 359 42 46))] (zP 359 29 47))) (.slc false (.nm true 31 (zP 359 50 54)) (some (zB false .Add (.nm true 53 (zP 359 55 58)) (zI 1 359 61 62))) .none .none (zP 359 55 63) (zP 359 50 64)),zB false .Add (.nm true 53 (zP 359 66 69)) (zI 1 359 72 73)] (zP 359 15 74)))
noncomputable def tj:DS:=(.ite (zC .Lt (.nm true 53 (zP 358 7 10)) (zI 2 358 13 14)) [ny] [] ⟨358,4,359,74⟩)
noncomputable def u0:DS:=(zR (.tup [zB false .Add (zB false .Add (.slc false (.nm true 31 (zP 361 16 20)) .none (some (zN 50 361 22 24)) .none (zP 361 21 24) (zP 361 16 25)) (.lst false [.bin false .Add (zS (.nm true 31 (zP 361 29 33)) (zN 50 361 34 36)) (zF (zC .Eq (.nm true 53 (zP 361 50 53)) (zI 2 361 57 58)) (.lit (.str [32,111,110]) (zP 361 41 46)) (.lit (.str [32,50,48]) (zP 361 64 69))) (zP 361 29 70)] (zP 361 28 71))) (.slc false (.nm true 31 (zP 361 74 78)) (some (zB false .Add (zN 50 361 79 81) (zI 1 361 84 85))) .none .none (zP 361 79 86) (zP 361 74 87)),zB false .Add (zN 50 361 89 91) (zI 1 361 94 95)] (zP 361 15 96)))
noncomputable def tZ:DS:=(.ite (.bop false [zC .Eq (.nm true 53 (zP 360 7 10)) (zI 2 360 14 15),zC .Eq (.nm true 53 (zP 360 19 22)) (zI 3 360 26 27)] (zP 360 7 27)) [u0] [] ⟨360,4,361,96⟩)
noncomputable def vo:DS:=(zR (.tup [zB false .Add (.slc false (.nm true 31 (zP 363 16 20)) .none (some (zB false .Add (zN 50 363 22 24) (zI 1 363 27 28))) .none (zP 363 21 28) (zP 363 16 29)) (.slc false (.nm true 31 (zP 363 32 36)) (some (zN 50 363 37 39)) .none .none (zP 363 37 40) (zP 363 32 41)),zB false .Add (zN 50 363 43 45) (zI 2 363 48 49)] (zP 363 15 50)))
noncomputable def s9:DS:=(.ite (zC .Eq (.nm true 53 (zP 362 7 10)) (zI 4 362 14 15)) [vo] [] ⟨362,4,363,50⟩)
noncomputable def vf:DS:=(zR (.tup [.slc false (.nm true 31 (zP 365 16 20)) .none (some (zN 50 365 22 24)) .none (zP 365 21 24) (zP 365 16 25),zB false .Add (zN 50 365 27 29) (zI 1 365 32 33)] (zP 365 15 34)))
noncomputable def uU:DS:=(.ite (zC .Eq (.nm true 53 (zP 364 7 10)) (zI 5 364 14 15)) [vf] [] ⟨364,4,365,34⟩)
noncomputable def sQ:DS:=(zR (.tup [zB false .Add (.nm true 31 (zP 367 16 20)) (.lst false [zS (.nm true 31 (zP 367 24 28)) (zV (.user 39) [zN 39 367 39 43,zV .len [.nm true 31 (zP 367 49 53)] 367 45 48 54] 367 29 38 55)] (zP 367 23 57)),zB false .Add (zV .len [.nm true 31 (zP 367 63 67)] 367 59 62 68) (zI 1 367 71 72)] (zP 367 15 73)))
noncomputable def s5:DS:=(.ite (zC .Eq (.nm true 53 (zP 366 7 10)) (zI 6 366 14 15)) [sQ] [] ⟨366,4,367,73⟩)
noncomputable def nW:DS:=(zR (.tup [zB false .Add (zB false .Add (.slc false (.nm true 31 (zP 368 12 16)) .none (some (zN 50 368 18 20)) .none (zP 368 17 20) (zP 368 12 21)) (.lst false [zB false .Add (.lit (.str [114,117,110,32,48]) (zP 368 25 32)) (.slc false (zS (.nm true 31 (zP 368 35 39)) (zN 50 368 40 42)) (some (zI 4 368 44 45)) .none .none (zP 368 44 46) (zP 368 35 47))] (zP 368 24 48))) (.slc false (.nm true 31 (zP 368 51 55)) (some (zB false .Add (zN 50 368 56 58) (zI 1 368 61 62))) .none .none (zP 368 56 63) (zP 368 51 64)),zB false .Add (zN 50 368 66 68) (zI 1 368 71 72)] (zP 368 11 73)))
noncomputable def b49:List DS:=[tc,tI,u1,tj,tZ,s9,uU,s5,nW]
noncomputable def pa49:List Nat:=[39,31]
noncomputable def b51:List DS:=[(zR (zF (zC .Eq (zS (zN 52 376 22 26) (zI 1 376 27 28)) (.lit (.str [115,105,110,103,108,101]) (zP 376 33 41))) (zS (zN 52 376 11 15) (zI 0 376 16 17)) (.slc false (zS (zN 52 376 47 51) (zI 0 376 52 53)) .none (some (zB false .FloorDiv (zV .len [zS (zN 52 376 60 64) (zI 0 376 65 66)] 376 56 59 68) (zI 2 376 72 73))) .none (zP 376 55 73) (zP 376 47 74))))]
noncomputable def pa51:List Nat:=[52]
noncomputable def uP:DS:=(zA (.n true 2 (zP 378 4 9)) (.comp true (zC .NotEq (zN 20 378 13 17) (zN 21 378 21 24)) (.t [zT 20 378 29 33,zT 21 378 35 38] (zP 378 29 38)) .zip [zN 17 378 46 49,zN 18 378 51 56] [zP 378 42 45,zP 378 42 57] [] (zQ [("near", .local),("far", .local)]) (zP 378 12 58)))
noncomputable def mK:DS:=(.asgSub (.nm true 2 (zP 382 16 21)) (zN 60 382 22 23) (.bop false [zS (.nm true 2 (zP 382 27 32)) (zB false .Sub (zN 60 382 33 34) (zI 1 382 37 38)),zS (.nm true 2 (zP 382 43 48)) (zN 60 382 49 50)] (zP 382 27 51)) (zP 382 16 24) (zP 382 16 51))
noncomputable def mQ:DS:=(.asgSub (.nm true 2 (zP 383 16 21)) (zB false .Sub (zN 60 383 22 23) (zI 1 383 26 27)) (zS (.nm true 2 (zP 383 31 36)) (zN 60 383 37 38)) (zP 383 16 28) (zP 383 16 39))
noncomputable def Cp:List DS:=[(.ite (.bop false [zC .Eq (zS (zS (zN 17 381 15 18) (zN 60 381 19 20)) (zI 1 381 22 23)) (zI 0 381 28 29),zC .Eq (zS (zS (zN 18 381 33 38) (zN 60 381 39 40)) (zI 1 381 42 43)) (zI 0 381 48 49)] (zP 381 15 49)) [mK,mQ] [] ⟨381,12,383,39⟩)]
noncomputable def Cv:List DS:=[(.for (zT 60 380 12 13) .plain [zV .range [zI 1 380 23 24,zV .len [.nm true 2 (zP 380 30 35)] 380 26 29 36] 380 17 22 37] [] Cp ⟨380,8,383,39⟩)]
noncomputable def uA:DS:=(zR (.comp false (zN 60 384 12 13) (zT 60 384 18 19) .plain [zV .range [zV .len [.nm true 2 (zP 384 33 38)] 384 29 32 39] 384 23 28 40] [] [(.sub (.nm true 2 ⟨384,44,384,49⟩) (.nm false 60 ⟨384,50,384,51⟩) ⟨384,44,384,52⟩)] (zQ [("k", .local),("found", .free)]) (zP 384 11 53)))
noncomputable def b52:List DS:=uP::(.for (zT 44 379 8 12) .plain [zV .range [zV .len [.nm true 2 (zP 379 26 31)] 379 22 25 32] 379 16 21 33] [] Cv ⟨379,4,383,39⟩)::[uA]
noncomputable def pa52:List Nat:=[17,18]
noncomputable def tH:DS:=(.ite (zC .NotEq (zS (zN 20 388 11 15) (zI 1 388 16 17)) (zS (zN 21 388 22 25) (zI 1 388 26 27))) [(zE (zM .append (zN 2 389 12 17) [.tup [zN 19 389 26 29,zI 0 389 31 32,zB false .Sub (zV .len [zV (.user 51) [zN 21 389 49 52] 389 38 48 53] 389 34 37 54) (zI 1 389 57 58)] (zP 389 25 59)] 24 60)),(.cont (zP 390 12 20))] [] ⟨388,8,390,20⟩)
noncomputable def su:DS:=(zE (zM .append (zN 2 395 16 21) [.tup [zN 19 395 30 33,zN 60 395 35 36,zN 60 395 38 39] (zP 395 29 40)] 28 41))
noncomputable def CD:List DS:=[(.ite (.bop true [zC .NotEq (zN 2 392 15 20) (.lst false [] (zP 392 24 26)),zC .Eq (zS (zS (zN 2 392 31 36) (.un true (zI 1 392 38 39) (zP 392 37 39))) (zI 0 392 41 42)) (zN 19 392 47 50),zC .Eq (zS (zS (zN 2 392 56 61) (.un true (zI 1 392 63 64) (zP 392 62 64))) (zI 2 392 66 67)) (zB false .Sub (zN 60 392 72 73) (zI 1 392 76 77))] (zP 392 15 78)) [(.asgSub (zN 2 393 16 21) (.un true (zI 1 393 23 24) (zP 393 22 24)) (.tup [zN 19 393 29 32,zS (zS (zN 2 393 34 39) (.un true (zI 1 393 41 42) (zP 393 40 42))) (zI 1 393 44 45),zN 60 393 48 49] (zP 393 28 50)) (zP 393 16 25) (zP 393 16 50))] [su] ⟨392,12,395,41⟩)]
noncomputable def tf:DS:=(.for (zT 60 391 12 13) .plain [zV (.user 52) [zV (.user 51) [zN 20 391 38 42] 391 27 37 43,zV (.user 51) [zN 21 391 56 59] 391 45 55 60] 391 17 26 61] [] CD ⟨391,8,395,41⟩)
noncomputable def b53:List DS:=(zA (zT 2 386 4 9) (.lst true [] (zP 386 12 14)))::(.for (.t [zT 19 387 8 11, .t [zT 20 387 14 18,zT 21 387 20 23] (zP 387 13 24)] (zP 387 8 24)) .enumzip [zS (zN 17 387 42 45) (zI 0 387 46 47),zS (zN 18 387 50 55) (zI 0 387 56 57)] [zP 387 28 37,zP 387 28 60,zP 387 38 41,zP 387 38 59] [tH,tf] ⟨387,4,395,41⟩)::[(zR (zN 2 396 11 16))]
noncomputable def pa53:List Nat:=[17,18]
noncomputable def uf:DS:=(zA (.t [.n true 29 (zP 399 8 13),zT 12 399 15 20] (zP 399 8 20)) (.tup [zV (.user 51) [zN 52 399 35 39] 399 24 34 40, .lst true [] (zP 399 42 44)] (zP 399 23 45)))
noncomputable def v9:DS:=(zA (zT 58 400 8 13) (.comp false (zN 50 400 17 19) (zT 50 400 24 26) .plain [zV .range [zV .len [.nm true 29 (zP 400 40 45)] 400 36 39 46] 400 30 35 47] [] [(.cmp .NotEq (.sub (.nm true 29 ⟨400,51,400,56⟩) (.nm false 50 ⟨400,57,400,59⟩) ⟨400,51,400,60⟩) (.call (.user 36) [] ⟨400,64,400,73⟩ ⟨400,64,400,75⟩) ⟨400,51,400,75⟩)] (zQ [("at", .local),("_law_bare", .globalImplicit),("shown", .free)]) (zP 400 16 76)))
noncomputable def uo:DS:=(.ite (.bop false [zC .NotEq (zM (.user 6) (zN 24 401 11 18) [zN 19 401 28 31] 27 32) (zV .len [.nm true 29 (zP 401 40 45)] 401 36 39 46), .cmp .NotEq (zM (.user 11) (zN 24 401 50 57) [zN 19 401 63 66] 62 67) (zF (zC .NotEq (zN 58 401 89 94) (.lst false [] (zP 401 98 100))) (zB false .Add (zS (zN 58 401 72 77) (.un true (zI 1 401 79 80) (zP 401 78 80))) (zI 1 401 84 85)) (zI 0 401 106 107)) (zP 401 50 108)] (zP 401 11 108)) [(zR (.lit (.bool false) (zP 402 19 24)))] [] ⟨401,8,402,24⟩)
noncomputable def CT:List DS:=[(zE (zM .extend (zN 12 404 12 17) [.ife (zC .Gt (zN 13 404 67 72) (zI 0 404 75 76)) (zF (zC .Eq (zN 25 404 34 39) (.tup [] (zP 404 43 45))) (.lst false [zI 32 404 27 29] (zP 404 26 30)) (zV (.list false) [zN 25 404 56 61] 404 51 55 62)) (.lst false [] (zP 404 82 84)) (zP 404 25 84)] 24 85))]
noncomputable def tV:DS:=(.for (.t [zT 25 403 12 17,zT 13 403 19 24,zT 5 403 26 29] (zP 403 12 29)) .plain [.nm true 29 (zP 403 33 38)] [] CT ⟨403,8,404,85⟩)
noncomputable def C3:List DS:=[(zE (zM .pop (zN 12 406 12 17) [] 21 23))]
noncomputable def si:DS:=(.while (zC .Eq (.slc false (zN 12 405 14 19) (some (.un true (zI 1 405 21 22) (zP 405 20 22))) .none .none (zP 405 20 23) (zP 405 14 24)) (.lst false [zI 32 405 29 31] (zP 405 28 32))) C3 ⟨405,8,406,23⟩)
noncomputable def vX:DS:=(.ite (zC .NotEq (zV (.list false) [zS (zV (.user 19) [zN 24 407 26 33] 407 16 25 34) (zN 19 407 35 38)] 407 11 15 40) (zN 12 407 44 49)) [(zR (.lit (.bool false) (zP 408 19 24)))] [] ⟨407,8,408,24⟩)
noncomputable def GB:List DS:=si::[vX]
noncomputable def EW:List DS:=uf::v9::uo::tV::GB
noncomputable def b54:List DS:=(.for (.t [zT 19 398 8 11,zT 52 398 13 17] (zP 398 8 17)) .enum [zS (zN 48 398 31 36) (zI 0 398 37 38)] [zP 398 21 30,zP 398 21 40] EW ⟨398,4,408,24⟩)::[(zR (.lit (.bool true) (zP 409 11 15)))]
noncomputable def pa54:List Nat:=[48,24]
noncomputable def vA:DS:=(zA (zT 39 411 4 8) (zV (.user 38) [zN 37 411 21 27] 411 11 20 28))
noncomputable def sS:DS:=(zA (zT 17 412 4 7) (zV (.user 42) [zN 39 412 21 25] 412 10 20 26))
noncomputable def uj:DS:=(zA (zT 18 413 4 9) (zV (.user 43) [zN 39 413 24 28,zN 17 413 30 33] 413 12 23 34))
noncomputable def ux:DS:=(zA (.t [zT 20 414 4 8,zT 21 414 10 13] (zP 414 4 13)) (.tup [zV (.user 44) [zN 17 414 30 33] 414 17 29 34,zV (.user 44) [zN 18 414 49 54] 414 36 48 55] (zP 414 16 56)))
noncomputable def tq:DS:=(zA (.t [zT 15 415 4 9,zT 34 415 11 16,zT 35 415 18 23] (zP 415 4 23)) (.tup [.comp false (zS (zN 52 415 28 32) (zI 0 415 33 34)) (zT 52 415 40 44) .plain [zS (zN 17 415 48 51) (zI 0 415 52 53)] [] [] (zQ [("line", .local)]) (zP 415 27 55), .comp false (zS (zN 52 415 58 62) (zI 1 415 63 64)) (zT 52 415 70 74) .plain [zS (zN 17 415 78 81) (zI 0 415 82 83)] [] [] (zQ [("line", .local)]) (zP 415 57 85), .comp false (zS (zN 52 415 88 92) (zI 2 415 93 94)) (zT 52 415 100 104) .plain [zS (zN 17 415 108 111) (zI 0 415 112 113)] [] [] (zQ [("line", .local)]) (zP 415 87 115)] (zP 415 26 116)))
noncomputable def vQ:DS:=(zA (zT 31 416 4 8) (zV (.user 47) [zV .len [zS (zN 17 416 25 28) (zI 0 416 29 30)] 416 21 24 32,zV .len [zS (zN 15 416 38 43) (zI 0 416 44 45)] 416 34 37 47,zN 15 416 49 54,zN 34 416 56 61,zN 35 416 63 68,zS (zN 17 416 70 73) (zI 1 416 74 75),zS (zN 17 416 78 81) (zI 2 416 82 83)] 416 11 20 85))
noncomputable def tN:DS:=(.ite (.bop false [zC .NotEq (zV (.user 27) [zN 20 417 22 26] 417 7 21 27) (zV (.user 48) [zN 31 417 43 47] 417 31 42 48), .un false (zV (.user 54) [zN 17 417 69 72,zN 20 417 74 78] 417 56 68 79) (zP 417 52 79)] (zP 417 7 79)) [(zR (.lit (.bool false) (zP 418 15 20)))] [] ⟨417,4,418,20⟩)
noncomputable def rZ:DS:=(zA (zT 61 419 4 9) (zV (.user 35) [zV (.user 48) [zN 31 419 37 41] 419 25 36 42] 419 12 24 43))
noncomputable def s7:DS:=(zA (zT 62 420 4 8) (zV (.user 47) [zG (zN 61 420 21 26) 31 31,zG (zN 61 420 33 38) 32 46,zG (zN 61 420 48 53) 15 59,zG (zN 61 420 61 66) 34 72,zG (zN 61 420 74 79) 35 85,zG (zN 61 420 87 92) 71 99,zG (zN 61 420 101 106) 72 115] 420 11 20 116))
noncomputable def r9:DS:=(.ite (.bop false [zC .NotEq (zN 62 421 7 11) (zN 31 421 15 19), .un false (zM (.user 10) (zN 61 421 27 32) [zN 20 421 46 50] 45 51) (zP 421 23 51),zC .NotEq (zV (.user 27) [zN 61 421 70 75] 421 55 69 76) (zV (.user 48) [zN 31 421 92 96] 421 80 91 97)] (zP 421 7 97)) [(zR (.lit (.bool false) (zP 422 15 20)))] [] ⟨421,4,422,20⟩)
noncomputable def uH:DS:=(zA (.t [zT 68 423 4 8,zT 0 423 10 16] (zP 423 4 16)) (zV (.user 49) [zN 39 423 29 33,zN 31 423 35 39] 423 19 28 40))
noncomputable def vg:DS:=(.ite (zC .NotEq (zV (.user 50) [zV (.user 48) [zN 68 424 32 36] 424 20 31 37] 424 7 19 38) (zN 0 424 42 48)) [(zR (.lit (.bool false) (zP 425 15 20)))] [] ⟨424,4,425,20⟩)
noncomputable def se:DS:=(.ite (zC .NotEq (.comp false (zV .tuple [zN 69 426 14 17] 426 8 13 18) (zT 69 426 23 26) .plain [zV (.user 15) [zN 20 426 38 42,zN 21 426 44 47] 426 30 37 48] [] [] (zQ [("run", .local),("tuple", .globalImplicit)]) (zP 426 7 49)) (zV (.user 53) [zN 17 426 66 69,zN 18 426 71 76] 426 53 65 77)) [(zR (.lit (.bool false) (zP 427 15 20)))] [] ⟨426,4,427,20⟩)
noncomputable def tX:DS:=(zA (zT 47 428 4 9) (.comp false (.tup [zS (zN 52 428 14 18) (zI 1 428 19 20),zV .tuple [zV (.user 51) [zN 52 428 40 44] 428 29 39 45] 428 23 28 46] (zP 428 13 47)) (zT 52 428 52 56) .plain [zB false .Add (zS (zN 17 428 60 63) (zI 0 428 64 65)) (zS (zN 18 428 69 74) (zI 0 428 75 76))] [] [] (zQ [("line", .local),("tuple", .globalImplicit),("_law_shown", .globalImplicit)]) (zP 428 12 78)))
noncomputable def sn:DS:=(zA (.n true 63 (zP 429 4 9)) (.lst true [] (zP 429 12 14)))
noncomputable def mN:DS:=(zE (zM .append (.nm true 63 (zP 432 12 17)) [zN 52 432 25 29] 24 30))
noncomputable def yn:List DS:=[(.ite (zC .NotIn (zN 52 431 11 15) (.nm true 63 (zP 431 23 28))) [mN] [] ⟨431,8,432,30⟩)]
noncomputable def uz:DS:=(.for (zT 52 430 8 12) .plain [zN 47 430 16 21] [] yn ⟨430,4,432,30⟩)
noncomputable def tE:DS:=(zA (zT 64 433 4 8) (zV (.user 16) [] 433 11 18 20))
noncomputable def sy:DS:=(zA (zT 65 434 4 11) (zB false .Add (zV (.list false) [zM (.user 18) (zN 64 434 19 23) [zN 20 434 27 31] 26 32] 434 14 18 33) (zV (.list false) [zM (.user 18) (zN 64 434 41 45) [zN 21 434 49 52] 48 53] 434 36 40 54)))
noncomputable def tK:DS:=(.ite (zC .NotEq (zN 65 435 7 14) (.comp false (zM .index (.nm true 63 (zP 435 19 24)) [zN 52 435 31 35] 30 36) (zT 52 435 41 45) .plain [zN 47 435 49 54] [] [] (zQ [("line", .local),("known", .free)]) (zP 435 18 55))) [(zR (.lit (.bool false) (zP 436 15 20)))] [] ⟨435,4,436,20⟩)
noncomputable def uC:DS:=(zA (zT 46 437 4 8) (zV .len [zS (zN 17 437 15 18) (zI 0 437 19 20)] 437 11 14 22))
noncomputable def s4:DS:=(zA (zT 66 438 4 11) (.bop true [zC .Eq (.slc false (zN 47 438 14 19) .none (some (zN 46 438 21 25)) .none (zP 438 20 25) (zP 438 14 26)) (.slc false (zN 47 438 30 35) (some (zN 46 438 36 40)) .none .none (zP 438 36 41) (zP 438 30 42)),zC .Eq (zS (zN 17 438 47 50) (zI 2 438 51 52)) (zS (zN 18 438 57 62) (zI 2 438 63 64))] (zP 438 14 65)))
noncomputable def u2:DS:=(zR (.lit (.bool false) (zP 440 15 20)))
noncomputable def sV:DS:=(.ite (.cmp .NotEq (zM (.user 9) (zN 20 439 7 11) [zN 21 439 19 22] 18 23) (.bop true [zN 66 439 28 35, .bop false [.un false (zS (zN 17 439 45 48) (zI 2 439 49 50)) (zP 439 41 51),zC .Eq (zS (zN 17 439 55 58) (zI 1 439 59 60)) (zS (zN 18 439 65 70) (zI 1 439 71 72))] (zP 439 41 73)] (zP 439 28 74)) (zP 439 7 75)) [u2] [] ⟨439,4,440,20⟩)
noncomputable def vK:DS:=(zA (zT 67 441 4 12) (.bop true [zN 66 441 15 22,zC .Eq (zS (zN 17 441 27 30) (zI 1 441 31 32)) (zS (zN 18 441 37 42) (zI 1 441 43 44)),zC .Eq (zN 35 441 51 56) (.comp false (zS (zN 52 441 61 65) (zI 2 441 66 67)) (zT 52 441 73 77) .plain [zS (zN 18 441 81 86) (zI 0 441 87 88)] [] [] (zQ [("line", .local)]) (zP 441 60 90))] (zP 441 15 91)))
noncomputable def uK:DS:=(zR (zC .Eq (zM (.user 10) (zN 20 442 11 15) [zN 21 442 29 32] 28 33) (zN 67 442 37 45)))
noncomputable def b55:List DS:=vA::sS::uj::ux::tq::vQ::tN::rZ::s7::r9::uH::vg::se::tX::sn::uz::[tE,sy,tK,uC,s4,sV,vK,uK]
noncomputable def pa55:List Nat:=[37]
end Mine
end
section
namespace Mine
open PySem PySem.W PyProof.Rows PySem.Calls
noncomputable def gvL:List V:=[.int 32, .tup [.int 0, .int (-1), .int (-1), .int (-1), .int 0], .int 3584, .int 4000, .bytes [48,49,50,51,52,53,54,55,56,57,97,98,99,100,101,102], .tup [.int 0, .int (-1), .int (-1), .int (-1), .int 0],
 .tup [.str [115,105,110,103,108,101], .str [115,105,110,103,108,101], .str [115,105,110,103,108,101], .str [119,105,100,101], .str [116,111,112], .str [98,111,116,116,111,109]], .tup [.int 0, .int 0, .int 1, .int 32, .int 128, .int 512, .int 257, .int 1568]]
noncomputable def ve (i:Nat):Addr:=cond (Nat.ble i 11) 142 (cond (Nat.ble i 18) 201 319)
noncomputable def tab:eT:=⟨fun i=>gvL.getD i .none,ve⟩
noncomputable def fnT:List (List Nat×List DS):=[(pa0,b0),(pa1,b1),(pa2,b2),(pa3,b3),(pa4,b4),(pa5,b5),(pa6,b6),(pa7,b7),(pa8,b8),(pa9,b9),(pa10,b10),(pa11,b11),(pa12,b12),(pa13,b13),(pa14,b14),(pa15,b15),(pa16,b16),(pa17,b17),(pa18,b18),(pa19,b19),(pa20,b20),(pa21,b21),(pa22,b22),(pa23,b23),(pa24,b24),(pa25,b25),(EU,b26),(GR,b27),(pa28,b28),(pa29,b29),(pa30,b30),(pa31,b31),(pa32,b32),(pa33,b33),(pa34,b34),(pa35,b35),(pa36,b36),(pa37,b37),(pa38,b38),(pa39,b39),(pa40,b40),(pa41,b41),(pa42,b42),(pa43,b43),(pa44,b44),(pa45,b45),(pa46,b46),(pa47,b47),(pa48,b48),(pa49,b49),([3],j6),(pa51,b51),(pa52,b52),(pa53,b53),(pa54,b54),(pa55,b55)]
noncomputable def wj (i:Nat):List Nat×List DS:=fnT.getD i ([],[])
noncomputable def gO (i:Nat):Bool:=Nat.beq i 5 || (Nat.beq i 16 || Nat.beq i 28)
noncomputable def xR (i:Nat):Addr:=cond (Nat.beq i 5) 99 (cond (Nat.beq i 16) 186 (cond (Nat.beq i 28) 278 (bX i)))
noncomputable def fnB (Γ:dW) (t:List Nat×List DS) (ds:List V) (Y:be) (Q X:KV):Prop:=t.1.length=ds.length/\exDs tab Γ t.2 (lY t.1 ds) Y (cQ Q) X
noncomputable def GN (Γ:dW) (i:Nat) (t:List Nat×List DS) (ds:List V) (Y:be) (Q X:KV):Prop:=t.1.length=ds.length+1/\∀a dx,Y a=none->Y dx=none->a≠dx->
 exDs tab Γ t.2 (lY t.1 (.ref a::ds)) ((Y.set dx (.idict [])).set a (.inst (bX i) dx)) (cQ fun v Y'=>v= .none/\Q (.ref a) Y') X
noncomputable def Gx (Γ:dW) (ds:List V) (Y:be) (Q:KV):Prop:=∃x,ds=[x]/\Γ 35 [x] Y (fun U Y'=>Q .none Y') Q
noncomputable def bd (Γ:dW) (i:Nat) (ds:List V) (Y:be) (Q X:KV):Prop:=
 cond (gO i) (GN Γ i (wj i) ds Y Q X) (cond (Nat.beq i 50) (Gx Γ ds Y Q) (fnB Γ (wj i) ds Y Q X))
noncomputable def Gm:Nat->dW
 | 0=>fun U U U U U=>False
 | n+1=>fun i ds Y Q X=>cond (Nat.beq i n) (bd (Gm n) n ds Y Q X) (Gm n i ds Y Q X)
noncomputable def FS (n:Nat):Nat:=n+1+(cond (Nat.blt 5 n) 1 0+(cond (Nat.blt 16 n) 1 0+cond (Nat.blt 28 n) 1 0))
section
variable {T:cK} {Kf:Frag} {fd29:FuncData}
theorem DB {n i:Nat} (h:i≠n) {ds:List V} {Y:be} {Q X:KV}:Gm (n+1) i ds Y Q X->Gm n i ds Y Q X:=by
 show cond (Nat.beq i n) _ _->_;rw [show Nat.beq i n=false from Bool.eq_false_iff.mpr fun q=>h (aQ q)];exact id
theorem Dc {n:Nat} {ds:List V} {Y:be} {Q X:KV}:Gm (n+1) n ds Y Q X->bd (Gm n) n ds Y Q X:=by
 show cond (Nat.beq n n) _ _->_;rw [Nat.beq_refl];exact id
theorem jJ {i:Nat} (h:gO i=true):i=5\/i=16\/i=28:=by
 rcases aY.mp h with h | h
 ·exact .inl (aQ h)
 ·rcases aY.mp h with h | h
  ·exact .inr (.inl (aQ h))
  ·exact .inr (.inr (aQ h))
theorem Dl:∀n,n<56->FS (n+1)=FS n+cond (gO n) 2 1:=by decide+kernel
theorem eI.mp {P P':List V->be->KV->KV->Prop} {lv i:Nat} (h:eI T P lv i) (k:∀{ds Y Q X},P' ds Y Q X->P ds Y Q X):eI T P' lv i:=fun hA R vr q=>h hA R vr (k q)
theorem DG {Γ:dW} {n:Nat} (h:gO n=true) {ds:List V} {Y:be} {Q X:KV}:bd Γ n ds Y Q X->GN Γ n (wj n) ds Y Q X:=by
 delta bd;rw [h];exact id
theorem CH {Γ:dW} {n:Nat} (h:gO n=false) {ds:List V} {Y:be} {Q X:KV}:bd Γ n ds Y Q X->cond (Nat.beq n 50) (Gx Γ ds Y Q) (fnB Γ (wj n) ds Y Q X):=by
 delta bd;rw [h];exact id
theorem C9:∀i,i<56->gO i=false->xR i=bX i:=by decide+kernel
theorem lw {P:List V->be->KV->KV->Prop} {lv i:Nat} (h:eI T P lv i):eI T P (lv+1) i:=by
 intro A C H Y s Q X K E vs ds;exact eI.low h
theorem BM (W:jm T tab Kf fd29) (hf:∀n,n<56->n≠50->∃fd,yH T n (xR n) (wj n).1 (wj n).2 fd) (hc:∀n,gO n=true->i8 (bX n)=true/\findIn Kf (.ref (bX n)) "__init__" =some (some (.ref (xR n)))/\typeIn Kf (.ref (xR n))=some (.type "function")) (ht:∃fd,Aj T Kf fd) (n:Nat):n<=56->∀i,i<n->fF T (Gm n) (FS n) i:=by
 induction n with
 | zero=>exact fun U U h=>C6 h
 | succ n ih=>
  intro hn i h;have ih:=ih (Nat.le_of_succ_le hn);have e:=Dl n hn;rcases Nat.lt_or_eq_of_le (Nat.le_of_lt_succ h) with hi | hi
  ·have a:eI T (Gm (n+1) i) (FS n) i:=eI.mp (ih i hi) (DB (Nat.ne_of_lt hi));rw [e]
   cases gO n with
   | true=>exact @lw T (Gm (n+1) i) _ i (@lw T (Gm (n+1) i) _ i a)
   | false=>exact @lw T (Gm (n+1) i) _ i a
  ·rw [hi,e];refine @eI.mp T (bd (Gm n) n) (Gm (n+1) n) _ n ?_ Dc;obtain ⟨lv,hl⟩:∃lv,FS n=lv+1:=⟨_,Nat.add_right_comm n 1 _⟩;rw [hl] at ih ⊢
   cases hk:gO n with
   | true=>exact lL (hc n hk) fun c1 c2 c3=>dU (hf n hn fun e=>cR (e▸hk:gO 50=true)) fun fd F=>yb W (a6 hn) ih F c1 c2 c3 (DG hk)
   | false=>
    by_cases q:n=50
    ·subst q;exact dU ht fun fd F=>Ar W ih F (CH hk)
    ·refine dU (hf n hn q) fun fd F=>BI W.K W.R (a6 hn) ih (C9 n hn hk▸F) fun h=> ?_;have h:=CH hk h;rw [show Nat.beq n 50=false from Bool.eq_false_iff.mpr fun r=>q (aQ r)] at h;exact h
end
end Mine
end
section
namespace Mine
open PySem PySem.W PyProof.Rows PySem.Calls PySem.SeqAt Builtin Builtin.ObjectAttr
theorem yC {α β:Type} {f g:α->Option β} {l:List α} (h:∀x∈l,f x=g x):l.filterMap f=l.filterMap g:=by
 induction l with
 | nil=>rfl
 | cons a l ih=>
  have h:=aa.mp h;rw [List.filterMap_cons,List.filterMap_cons,h.1,ih h.2]
theorem y9 {names:List Str}:∀{vals:List Value},vals.length=names.length->names.Nodup->(∀n∈names,((names.zip vals).lookup n).isSome=true)/\names.filterMap (fun n=>((names.zip vals).lookup n).map (n, ·))=names.zip vals:=by
 induction names with
 | nil=>exact fun U U=>⟨fun U=>fh,rfl⟩
 | cons n ns ih=>
  intro vals hl nd
  cases vals with
  | nil=>exact absurd hl.symm (Nat.succ_ne_zero _)
  | cons v vs=>
   have nd:=List.nodup_cons.mp nd;have h:=ih (Nat.succ.inj hl) nd.2;have e:∀m∈ns,List.lookup m ((n,v)::ns.zip vs)=(ns.zip vs).lookup m:=fun m hm=>cY fun q=>nd.1 (q▸hm);have e0:List.lookup n ((n,v)::ns.zip vs)=some v:=dB rfl;rw [List.zip_cons_cons];refine ⟨aa.mpr ⟨aB Option.isSome e0,fun m hm=>(aB Option.isSome (e m hm)).trans (h.1 m hm)⟩, ?_⟩;refine (List.filterMap_cons ..).trans ?_;rw [e0];exact aB ((n,v):: ·) ((yC fun m hm=>aB (Option.map _) (e m hm)).trans h.2)
theorem qZ {α β:Type} {b:β} {f:α->β->Sem (ForInStep β)} {l:List α} (h:∀x∈l,f x b=pure (.yield b)):forIn l b f=pure b:=by
 induction l with
 | nil=>rfl
 | cons x l ih=>
  have h:=aa.mp h;refine ak (List.forIn_cons ..) ?_;rw [h.1];exact ih h.2
theorem qu {M:Model} {A:Around} {α:Type} {c:Prop} [Decidable c] {t e:Sem α} {Q:α->Shared->Prop} {E:Value->Shared->Prop} {s:Shared} (h:¬c) (k:wpAny M A e Q E s):wpAny M A (if c then t else e) Q E s:=by refine nV h ?_;exact k
theorem x9 {s:Shared} {fd:FuncData} {vals:List Value} (h1:fd.params.posonlyargs=[]) (h3:fd.params.kwonlyargs=[]) (h4:fd.params.vararg=none) (h5:fd.params.kwarg=none) (nd:(fd.params.args.map (·.arg)).Nodup) (hl:vals.length=(fd.params.args.map (·.arg)).length) (hd:∀{M:Model} {A:Around} {Q:Option (Array Value)->Shared->Prop} {E:Value->Shared->Prop},(∀r,Q r s)->wpAny M A (seqItems? fd.defaults) Q E s):BindsTo s fd ⟨vals,[]⟩ ((fd.params.args.map (·.arg)).zip vals):=fun M A E Q hq=>by
 obtain ⟨U,U,⟨po,ar,va,ko,kd,kw,de⟩,U,U,U,U,df,kdf,U,U,U,U,U,U⟩:=fd;dsimp only at h1 h3 h4 h5 hd nd hl hq;subst h1 h3 h4 h5;obtain ⟨z1,z2⟩:=y9 hl nd
 have z1':∀n∈ar.map (·.arg),(((ar.map (·.arg)).zip vals).lookup n).isNone=false:=fun n hn=>by
  have:=z1 n hn
  cases e:((ar.map (·.arg)).zip vals).lookup n with
  | none=>rw [e] at this;exact cR this
  | some U=>rfl
 refine ae (am ?_);refine ae (hd fun r=> ?_);refine qu (fun h=>absurd (aU (ay.mp h).1) (Nat.not_lt.mpr (Nat.le_of_eq hl))) (qu (fun h=>Bool.noConfusion ((aB (fun l:List Str=> !l.isEmpty) (List.filter_eq_nil_iff.mpr fun n hn q=> ?_)).symm.trans h)) ?_)
 ·exact Bool.noConfusion ((z1' n (List.mem_of_mem_take hn)).symm.trans q)
 refine ae (wpAny_of_eq (qZ (fun x hx=>if_neg fun q=> ?_)) ?_)
 ·exact Bool.noConfusion ((z1' x.1 (List.mem_of_mem_drop (List.of_mem_zip hx).1)).symm.trans q)
 refine ae (am (qu (fun h=>Bool.noConfusion (h)) (am ?_)));show Q (List.filterMap (fun n=>((List.lookup n ((ar.map (·.arg)).zip vals))).map (n, ·)) (ar.map (·.arg)++[])) s;rw [aE,z2];exact hq
noncomputable def Dj (K:Frag) (v:Value):Bool:=match v with
 | .none=>true
 | .ref T=>match K.lookup T with | some ⟨_,_, .seq _ _,_⟩=>true | _=>false
 | _=>false
noncomputable def GI (names:List (Str×NameKind)) (ps:List Nat):Bool:=ps.all fun n=>decide (n<nmL.length) && (names.lookup (nm n)==some .local || names.lookup (nm n)==some .cell)
noncomputable def pZ (K:Frag) (ps:List Nat) (fd:FuncData):Bool:=
 ((fd.closure.isEmpty && (Nat.beq fd.globals mainGlobals && Nat.beq fd.builtins builtinsNs)) && (fd.scope.kind== .function && (!fd.scope.isCoroutine && !fd.scope.isGenerator))) &&
 (((decide (fd.scope.names.map (·.1)).Nodup && GI fd.scope.names ps) && (decide ps.Nodup && codeIn K fd.code fd.qualname)) &&
 (((fd.params.posonlyargs.isEmpty && fd.params.kwonlyargs.isEmpty) && (fd.params.vararg.isNone && fd.params.kwarg.isNone)) && (fd.params.args.map (·.arg)==ps.map nm && (decide (ps.map nm).Nodup && Dj K fd.defaults))))
noncomputable def q9 (K:Frag) (a:Addr) (ps:List Nat) (f:cO->Bool):Option (FuncBody×Bool):=match K.lookup a with
 | some ⟨U,z1, .func fd,z2⟩=>some (fd.body,pZ K ps fd && f fun x=>fd.scope.names.lookup x)
 | _=>none
section
variable {T:cK} {K:Frag} {a:Addr} {ps:List Nat} {fd:FuncData}
theorem At {s:Shared} (X:K.In s.heap) {v:Value} (h:Dj K v=true) {M:Model} {A:Around} {Q:Option (Array Value)->Shared->Prop} {E:Value->Shared->Prop} (k:∀r,Q r s):wpAny M A (seqItems? v) Q E s:=by
 delta Dj at h
 cases v with
 | none=>exact ae (am (am (k _)))
 | ref T=>
  dsimp only at h
  cases e:K.lookup T with
  | none=>rw [e] at h;exact cR h
  | some o=>
   rw [e] at h;obtain ⟨oc,od,da,sl⟩:=o
   cases da with
   | seq xs n=>exact wpAny_seqItems (X _ _ e) rfl (k _)
   | _=>cases h
 | _=>cases h
theorem qK (X:∀h,T.top h->K.In h) (L:∀h,T.top h->h.NoLimit) {oc:Value} {od:Option Addr} {sl:Array (Option Value)} (ho:K.lookup a=some ⟨oc,od, .func fd,sl⟩) (h:pZ K ps fd=true):FnB T a ps fd:=by
 have h1:=al h;have h2:=al (ar h);have h3:=ar (ar h);have hp:fd.params.args.map (·.arg)=ps.map nm:=eq_of_beq (al (ar h3));refine ⟨fun h tp=>⟨_,X h tp _ _ ho,rfl,codeRec_of (X h tp) (ar (ar h2)),L h tp⟩,List.isEmpty_iff.mp (al (al h1)),aQ (al (ar (al h1))),aQ (ar (ar (al h1))),eq_of_beq (al (ar h1)),(aZ _).mp (al (ar (ar h1))),(aZ _).mp (ar (ar (ar h1))),iC (al (al h2)),fun s tp vals hl=> ?_,fun n hn=> ?_,iC (al (ar h2))⟩
 ·have:=x9 (vals:=vals) (List.isEmpty_iff.mp (al (al (al h3)))) (List.isEmpty_iff.mp (ar (al (al h3)))) (Option.isNone_iff_eq_none.mp (al (ar (al h3)))) (Option.isNone_iff_eq_none.mp (ar (ar (al h3)))) (hp▸(iC (al (ar (ar h3))))) (by (rw [hp,ah];refine ak hl ?_;rfl)) (fun k=>At (X _ tp) (ar (ar (ar h3))) k);rw [hp] at this;exact this
 ·have:=aG.mp (ar (al h2)) n hn;exact ⟨iC (al this),(aY.mp (ar this)).imp eq_of_beq eq_of_beq⟩
theorem oY {f:cO->Bool} {b:FuncBody} (h:q9 K a ps f=some (b,true)):∃oc od fd sl,K.lookup a=some ⟨oc,od, .func fd,sl⟩/\fd.body=b/\pZ K ps fd=true/\f (fun x=>fd.scope.names.lookup x)=true:=by
 delta q9 at h
 cases e:K.lookup a with
 | none=>rw [e] at h;exact bZ h
 | some o=>
  rw [e] at h;obtain ⟨oc,od,da,sl⟩:=o
  cases da with
  | func fd=>
   have h:=Option.some.inj h;have h2:(pZ K ps fd && f fun x=>fd.scope.names.lookup x)=true:=aB Prod.snd h;exact ⟨oc,od,fd,sl,rfl,aB Prod.fst h,al h2,ar h2⟩
  | _=>cases h
noncomputable def vr0 (d:V) (v:Value):Bool:=match v with
 | .int j U=>match gA d with | some i=>decide (i=j) | none=>false
 | .str s U=>match lM d with | some l=>decide (s=⟨l.toArray⟩) && l.all fun x=>decide (x<1114112) | none=>false
 | .bytes b U=>match fv d with | some l=>decide (b=bG l) && l.all fun x=>decide (x<256) | none=>false
 | _=>false
noncomputable def D4:List V->List Value->Bool
 | [],vs=>vs.isEmpty
 | d::ds,vs=>match vs with | []=>false | v::vs=>vr0 d v && D4 ds vs
noncomputable def vr1 (K:Frag) (d:V) (v:Value):Bool:=match vW d with
 | none=>vr0 d v
 | some ds=>match v with
  | .ref a=>match K.lookup a with
   | some ⟨c,d, .seq vs U,sl⟩=>(c== .type "tuple" && (d.isNone && sl.isEmpty)) && (D4 ds vs.toList && Nat.blt a 456)
   | _=>false
  | _=>false
theorem xG {G:Wd} {d:V} {v:Value} (h:vr0 d v=true):VR G d v:=by
 cases v with
 | int j t=>
  cases d with
  | int i=>exact ⟨t,aB (Value.int · t) (iC h).symm⟩
  | _=>cases h
 | str s t=>
  cases d with
  | str l=>exact ⟨t,aB (Value.str · t) (iC (al h)),fun x hx=>iC (aG.mp (ar h) x hx)⟩
  | _=>cases h
 | bytes s t=>
  cases d with
  | bytes l=>exact ⟨t,aB (Value.bytes · t) (iC (al h)),fun x hx=>iC (aG.mp (ar h) x hx)⟩
  | _=>cases h
 | _=>cases h
theorem BD {G:Wd} {ds:List V}:∀{vs:List Value},D4 ds vs=true->VRs G ds vs:=by
 induction ds with
 | nil=>exact List.isEmpty_iff.mp
 | cons d ds ih=>
  intro vs h
  cases vs with
  | nil=>exact cR h
  | cons v vs=>exact ⟨xG (al h),ih (ar h)⟩
theorem Da {h:Heap} (X:K.In h) {d:V} {v:Value} (e:vr1 K d v=true):VR (fun a o=>h.get? a=some o/\a<456/\cN o) d v:=by
 delta vr1 at e
 cases hd:vW d with
 | none=>rw [hd] at e;exact xG e
 | some ds=>
  rw [hd] at e
  cases d with
  | tup ds'=>
   (replace hd:=bW hd;subst hd)
   cases v with
   | ref a=>
    dsimp only at e
    cases ho:K.lookup a with
    | none=>rw [ho] at e;exact cR e
    | some o=>
     rw [ho] at e;obtain ⟨c,dd,da,sl⟩:=o
     cases da with
     | seq vs n=>
      have e1:=al e;have hc:c= .type "tuple" :=eq_of_beq (al e1);have hdd:=Option.isNone_iff_eq_none.mp (al (ar e1));have hsl:=Array.isEmpty_iff.mp (ar (ar e1));subst hc hdd hsl;obtain ⟨vs⟩:=vs;exact ⟨a,vs,n,rfl,⟨X _ _ ho,ad (ar (ar e)),cA _ (.inl rfl) vs n⟩,BD (al (ar e))⟩
     | _=>cases e
   | _=>cases e
  | _=>cases hd
end
noncomputable abbrev pr:Program:=PySem.Challenge.rw_og0260_01.row.prog
noncomputable def FrH (h:Heap):Frag:=(h.objs.toList.take 456).zipIdx.filterMap fun p=>(alive p.1).map fun o=>(p.2,o)
noncomputable def re (K:Frag) (a:Addr):Bool:=match K.lookup a with
 | some ⟨U,z1, .func z2,z3⟩=>true
 | some ⟨U,z1, .cls z2,z3⟩=>specialIn K (.ref a) "__call__" ==some (some (.builtin "type.__call__"))
 | _=>false
noncomputable def mM (K:Frag):Option (Array DictEntry):=match K.lookup mainGlobals with | some ⟨_,_, .dict es _,_⟩=>some es | _=>none
noncomputable def ly (K:Frag) (x:Str):Option Value:=(mM K).bind fun es=>(es.toList.find? (·.key.isStr x)).map (·.val)
noncomputable def fnsB:List (Str×Value):=((Str.ofString "zip",Value.type "zip"):Str×Value)::(Str.ofString "enumerate",Value.type "enumerate")::([.len, .min, .max, .all, .ord, .tuple, .list true, .bytes, .str, .range]:List Fn).map fun f=>(f.name,f.val)
noncomputable def kCls (K:Frag):Bool:=[142,201,319].all fun C=>pQ K C && (makesIn K C && (List.range 75).all fun n=>mF K C n)
noncomputable def Fc (K:Frag):Bool:=(List.range 56).all fun i=> !gG i || (findIn K (.ref (ve i)) (dN i)==some (some (.ref (bX i))) && typeIn K (.ref (bX i))==some (.type "function"))
noncomputable def Gf (K:Frag):Bool:=(45::(List.range 56).map bX).all (re K)
noncomputable def FP (K:Frag):Bool:=[5,16,28].all fun i=>findIn K (.ref (bX i)) "__init__" ==some (some (.ref (xR i))) && typeIn K (.ref (xR i))==some (.type "function")
noncomputable def kBad (K:Frag):Bool:=(findIn K (.ref 45) "__setattr__" ==some (some (.builtin "object.__setattr__")) && (findIn K (.ref 45) "__init__" ==some (some (.ref 29)) && typeIn K (.ref 29)==some (.type "function"))) &&
 (((takerIn K 45 "told").any (·.isNone) && (specialIn K (.ref 45) "__call__" ==some (some (.builtin "type.__call__")) && instIn K (.ref 45) (.type "type")==some true)) &&
 ((findIn K (.ref 45) "__getattribute__" ==some (some (.builtin "BaseException.__getattribute__")) && findIn K (.ref 45) "__getattr__" ==some none) && (hasDictIn K 45 && mF K 45 62)))
noncomputable def kUfn (K:Frag):Bool:=(List.range 56).all fun i=>gG i || ly K (dN i)==some (.ref (bX i))
noncomputable def kBfn (K:Frag):Bool:=fnsB.all fun p=>ly K p.1==none && (bootBuiltins p.1==some p.2 && p.1 != "__name__")
noncomputable def GL (K:Frag):Bool:=(List.range 8).all fun g=>(ly K (lz g)).any (vr1 K (tab.gval g))
noncomputable def kSz (K:Frag):Bool:=ly K "SIZE_WORDS" ==some (.ref 63) && ly K "BadInfo" ==some (.ref 45)
noncomputable def Fh (K:Frag):Bool:=((kCls K && Fc K) && (Gf K && FP K)) && ((kBad K && kUfn K) && ((kBfn K && GL K) && (kSz K && (mM K).isSome)))
noncomputable def Ec (i:Nat):List Nat:=cond (Nat.beq i 56) [70,62] (wj i).1
noncomputable def El (i:Nat) (k:cO):Bool:=cond (Nat.beq i 56) (k (nm 70)==some .local && k (nm 62)==some .local)
 (okSs i k (wj i).2 && (!Nat.beq i 50 || (k (nm 3)==some .local && (k ("fault" :Str)==some .local && k ("BadInfo" :Str)==some .globalImplicit))))
noncomputable def ni (i:Nat):List Stmt:=cond (Nat.beq i 56) pc (cond (Nat.beq i 50) ug (DS.toSs (wj i).2))
noncomputable def zc (K:Frag) (i:Nat):Option (FuncBody×Bool):=q9 K (cond (Nat.beq i 56) 29 (xR i)) (Ec i) (El i)
noncomputable def CS (P:Params):Obj:={cls:= .type "dict",data:= .dict #[⟨PyData.keyHash P "single", .str "single" 280, .bytes (bG [115,105,110,103,108,101]) 281⟩,⟨PyData.keyHash P "wide", .str "wide" 282, .bytes (bG [119,105,100,101]) 283⟩,
  ⟨PyData.keyHash P "top", .str "top" 284, .bytes (bG [116,111,112]) 285⟩,⟨PyData.keyHash P "bottom", .str "bottom" 286, .bytes (bG [98,111,116,116,111,109]) 287⟩] 4}
noncomputable abbrev xp:=List (Option (FuncBody×Bool))×Bool×Option Obj×Option Obj
noncomputable def vk (K:Frag):xp:=((List.range 57).map (zc K),Fh K,K.lookup 45,K.lookup 63)
noncomputable def mo (P:Params):xp:=((List.range 57).map (fun i=>some (.stmts (ni i),true)),true,some gS,some (CS P))
theorem tS {h:Heap} {a:Addr} {o:Obj} (e:(FrH h).lookup a=some o):a<456/\h.get? a=some o:=by
 obtain ⟨⟨p,b⟩,hb,q⟩:=List.mem_filterMap.mp (jP e);refine bu (aL.mp q) fun o' ho q=> ?_;obtain ⟨rfl,rfl⟩:=Prod.mk.inj q;have hb:=List.mem_zipIdx_iff_getElem?.mp hb;rw [List.getElem?_take] at hb
 split at hb
 ·refine ⟨‹_›, ?_⟩;unfold Heap.get?;rw [<-Array.getElem?_toList,hb];obtain ⟨oc,od,da,sl⟩:=p
  cases da<;>exact ho
 ·exact bZ hb
structure Hd (P:Params) (K:Frag) (h:Heap):Prop where
 inn:K.In h
 low:∀a o,K.lookup a=some o->a<456
 look:vk K=mo P
theorem Hd.of {P:Params} {h:Heap} (e:vk (FrH h)=mo P):∃K,Hd P K h:=⟨_,fun U U e=>(tS e).2,fun U U e=>(tS e).1,e⟩
theorem Hd.keeps {P:Params} {K:Frag} {h h':Heap} (x:Hd P K h) (k:∀b o,h.get? b=some o->h'.get? b=some o):Hd P K h':=⟨fun a o e=>k _ _ (x.inn a o e),x.low,x.look⟩
structure yh (K:Frag) (lo:Nat) (mg mb:Str->Option Value) (h:Heap):Prop where
 K:K.In h
 g:h.Ns mainGlobals mg
 b:h.Ns builtinsNs mb
 nl:h.NoLimit
 last:∃o,h.get? lo=some o
section
variable {P:Params} {K:Frag} {HY h:Heap} {mg mb:Str->Option Value} {lo:Nat}
theorem Hd.fn (x:Hd P K HY) (i:Nat) (hi:i<57):∃oc od fd sl,K.lookup (cond (Nat.beq i 56) 29 (xR i))=some ⟨oc,od, .func fd,sl⟩/\fd.body= .stmts (ni i)/\pZ K (Ec i) fd=true/\El i (fun x=>fd.scope.names.lookup x)=true:=by
 have e:=aB (fun z:xp=>z.1[i]?) x.look;have e:((List.range 57).map (zc K))[i]? =((List.range 57).map (fun i=>(some (.stmts (ni i),true):Option (FuncBody×Bool))))[i]? :=e;rw [List.getElem?_map,List.getElem?_map,List.getElem?_range hi] at e;exact oY (Option.some.inj e)
theorem Hd.all (x:Hd P K HY):Fh K=true:=aB (fun z:xp=>z.2.1) x.look
noncomputable def rf (w:World) (x:Hd P K HY) (hlo:455<=lo) (mg mb:Str->Option Value):cK where
 prog:=pr
 w:=w
 hash:=fJ w
 gl:=mg
 bl:=mb
 lo:=lo+1
 lo1:=Nat.le_add_left 1 lo
 top:=yh K lo mg mb
 size:=fun t=>let ⟨_,e⟩:=t.last;Heap.lt_size e
 keep:=fun t k=>
  have lt:∀{a},a<456->a<lo+1:=fun q=>a8 q (aO hlo)
  ⟨fun a o e=>k _ _ (lt (x.low _ _ e)) (t.K a o e),let ⟨o,es,ep,e,r⟩:=t.g;⟨o,es,ep,k _ _ (lt (by decide)) e,r⟩,let ⟨o,es,ep,e,r⟩:=t.b;⟨o,es,ep,k _ _ (lt (by decide)) e,r⟩,t.nl.at fun o e=>k _ _ (lt (by decide)) e,let ⟨o,e⟩:=t.last;⟨o,k _ _ (Nat.lt_succ_self _) e⟩⟩
theorem wP (x:Hd P K HY) (t:yh K lo mg mb h) (n:Str):mg n=ly K n:=by
 have hs:=ar (ar (ar (ar x.all)));unfold ly
 cases e:mM K with
 | none=>rw [e] at hs;exact cR hs
 | some es=>
  unfold mM at e
  cases ho:K.lookup mainGlobals with
  | none=>rw [ho] at e;exact bZ e
  | some o=>
   rw [ho] at e;obtain ⟨oc,od,da,sl⟩:=o
   cases da with
   | dict es' ep=>
    (replace e:=bW e;subst e)
    refine wG (t.g) fun o' es2 ep' e1 e2 U e3=> ?_;rw [t.K _ _ ho] at e1;(replace e1:=bW e1;subst e1);injection e2 with e2 _;subst e2;rw [<-e3 n];unfold nsFind findBy;rw [Option.bind_some,Array.find?_toList]
   | _=>cases e
end
section
variable {w:World} {K:Frag} {HY h:Heap} {mg mb:Str->Option Value} {lo:Nat} (hlo:455<=lo)
theorem jk {C:Addr} (h:i8 C=true):C∈[142,201,319]:=by
 rcases aY.mp h with h | h
 ·rcases aY.mp h with h | h
  ·rw [eq_of_beq h];exact .head _
  ·rw [eq_of_beq h];exact .tail _ (.head _)
 ·rw [eq_of_beq h];exact .tail _ (.tail _ (.head _))
theorem mw {T:cK} {a:Addr} {A:Around} {s:Shared} {Q:Keeper->Shared->Prop} {E:Value->Shared->Prop} (X:K.In s.heap) (e:re K a=true) (q1:Q .frame s) (q2:Q .machine s):wpAny (model T.prog T.w) A (keeperOf (.ref a)) Q E s:=by
 unfold re at e
 cases ho:K.lookup a with
 | none=>rw [ho] at e;exact cR e
 | some o=>
  rw [ho] at e;refine cr fun hn=> ?_;obtain ⟨oc,od,da,sl⟩:=o;refine hn ?_
  cases da with
  | func fd=>exact ae (wpAny_load (X _ _ ho) (am q1))
  | cls cd=>
   refine ae (wpAny_load (X _ _ ho) ?_);refine ae ((looks_specialIn X (eq_of_beq e)).here ?_);exact am q2
  | _=>cases e
theorem F3 (P:Params) (prog:Program) (wd:World) (hw:wd.params=P) {hp:Heap} (e:hp.get? 63=some (CS P)):hp.DictAt (PySem.strKind prog wd) 63 (fq fun i=>281+2*i) 4:=by
 subst hw;refine ⟨_,_,e,⟨rfl,rfl,rfl⟩,rfl, ?_, ?_, ?_⟩
 ·intro e he;simp only [List.mem_toArray,au,List.not_mem_nil,or_false] at he;rcases he with rfl | rfl | rfl | rfl<;>exact ⟨_,rfl,rfl⟩
 ·exact .cons rfl rfl (.cons rfl rfl (.cons rfl rfl (.cons rfl rfl .nil)))
 ·unfold fq;decide+kernel
theorem jE {α β:Type} [BEq α] [LawfulBEq α] [BEq β] [LawfulBEq β] {a b:α} {c d:β} (h:(a==b && c==d)=true):a=b/\c=d:=⟨eq_of_beq (al h),eq_of_beq (ar h)⟩
theorem zr (f:Fn) (h:kh f=false):((f.name,f.val):Str×Value)∈fnsB:=by
 have m:∀i,fnsB[i]? =some (f.name,f.val)->(f.name,f.val)∈fnsB:=fun U=>aq
 cases f with
 | user i=>exact lN h
 | len=>exact m 2 rfl
 | min=>exact m 3 rfl
 | max=>exact m 4 rfl
 | all=>exact m 5 rfl
 | ord=>exact m 6 rfl
 | tuple=>exact m 7 rfl
 | list=>exact m 8 rfl
 | bytes=>exact m 9 rfl
 | str=>exact m 10 rfl
 | range=>exact m 11 rfl
include hlo in
theorem GG (x:Hd w.params K HY) (t:yh K lo mg mb h) (hb:∀n:Str,n≠ "__name__" ->mb n=bootBuiltins n):cc (rf w x hlo mg mb) tab K:=by
 have ha:=x.all;have h1:=al (al (al ha));have h3:=al (ar (al ha));have h9:=al (ar (ar (ar ha)));have lk:=wP x t
 have bf:∀p∈fnsB,mg p.1=none/\mb p.1=some p.2:=fun p hp=>by
  have:=aG.mp (al (al (ar (ar ha)))) p hp;exact ⟨(lk _).trans (eq_of_beq (al this)),(hb _ (bne_iff_ne.mp (ar (ar this)))).trans (eq_of_beq (al (ar this)))⟩
 refine ⟨rfl,fun h t=>t.K,fun C hc=>al (aG.mp h1 C (jk hc)),fun C hc n hn=>aG.mp (ar (ar (aG.mp h1 C (jk hc)))) n (List.mem_range.mpr hn),fun i hi hm=> ?_,⟨fun i=>281+2*i,4,fun h t=>F3 w.params pr w rfl (t.K _ _ (aB (fun z:xp=>z.2.2.2) x.look))⟩,fun h t=>t.g,fun h t=>t.b,fun h t g hg=> ?_,fun f hf=>bf _ (zr f hf),fun i hi hm=> ?_,fun i hi {A s Q E} tp q1 q2=>mw tp.K (aG.mp h3 _ (.tail _ (aN.mpr ⟨i,List.mem_range.mpr hi,rfl⟩))) q1 q2,
  fun {A s Q E} tp q1 q2=>mw tp.K (aG.mp h3 _ (.head _)) q1 q2,bf _ (.head _),bf _ (.tail _ (.head _)),(lk _).trans (eq_of_beq (al h9)),(lk _).trans (eq_of_beq (ar h9))⟩
 ·have:=aG.mp (ar (al (al ha))) i (List.mem_range.mpr hi);rw [hm] at this;exact jE this
 ·have:=aG.mp (ar (al (ar (ar ha)))) g (List.mem_range.mpr hg);obtain ⟨v,hv,hr⟩:=any_some this;exact ⟨v,(lk _).trans hv,(Da t.K hr).mono fun a o q=>⟨q.1,a8 q.2.1 (aO hlo),q.2.2⟩⟩
 ·have:=aG.mp (ar (al (ar ha))) i (List.mem_range.mpr hi);rw [hm] at this;exact (lk _).trans (eq_of_beq this)
include hlo in
theorem FH (x:Hd w.params K HY) (t:yh K lo mg mb h) (hb:∀n:Str,n≠ "__name__" ->mb n=bootBuiltins n):(∃fd,jm (rf w x hlo mg mb) tab K fd)/\(∀n,n<56->n≠50->∃fd,yH (rf w x hlo mg mb) n (xR n) (wj n).1 (wj n).2 fd)/\(∀n,gO n=true->i8 (bX n)=true/\findIn K (.ref (bX n)) "__init__" =some (some (.ref (xR n)))/\typeIn K (.ref (xR n))=some (.type "function"))/\∃fd,Aj (rf w x hlo mg mb) K fd:=by
 have ha:=x.all;have h1:=al (al (al ha));have h4:=ar (ar (al ha));have h5:=al (al (ar ha));have b1:=al h5;have b2:=al (ar h5);have b3:=ar (ar h5);have X:∀h,(rf w x hlo mg mb).top h->K.In h:=fun h t=>t.K;have L:∀h,(rf w x hlo mg mb).top h->h.NoLimit:=fun h t=>t.nl;refine ⟨?_,fun n hn h50=> ?_,fun n hc=> ?_, ?_⟩
 ·refine cr fun hn=> ?_;obtain ⟨oc,od,fd,sl,e1,e2,e3,e4⟩:=x.fn 56 (by decide);refine hn ?_
  have told:takerIn K 45 "told" =some none:=by
   obtain ⟨v,hv,hn⟩:=any_some (al b2);rw [hv,Option.isNone_iff_eq_none.mp hn]
  exact ⟨fd,GG hlo x t hb,⟨qK X L e1 e3,(aB (fun z:xp=>z.2.2.1) x.look),eq_of_beq (al b1),(jE (ar b1)).1,(jE (ar b1)).2,told,(jE (ar b2)).1,(jE (ar b2)).2,e2,(jE e4).1,(jE e4).2⟩,fun c hc=>al (ar (aG.mp h1 c (jk hc)))⟩
 ·obtain ⟨oc,od,fd,sl,e1,e2,e3,e4⟩:=x.fn n (Nat.lt_succ_of_lt hn);unfold ni at e2;unfold Ec at e3;unfold El at e4;rw [(Bool.eq_false_iff.mpr fun q=>absurd (aQ q) (Nat.ne_of_lt hn))] at e1 e2 e3 e4;rw [(Bool.eq_false_iff.mpr fun q=>h50 (aQ q))] at e2;exact ⟨fd,qK X L e1 e3,e2,al e4⟩
 ·have:=aG.mp h4 n (by rcases jJ hc with rfl | rfl | rfl;exact .head _;exact .tail _ (.head _);exact .tail _ (.tail _ (.head _)));exact ⟨by rcases jJ hc with rfl | rfl | rfl<;>decide+kernel,(jE this).1,(jE this).2⟩
 ·refine cr fun hn=> ?_;obtain ⟨oc,od,fd,sl,e1,e2,e3,e4⟩:=x.fn 50 (by decide);refine hn ?_;have e5:=ar e4;exact ⟨fd,qK X L e1 e3,e2,eq_of_beq (al e5),(jE (ar e5)).1,(jE (ar e5)).2,al e4,(jE (al b3)).1,(jE (al b3)).2,al (ar b3),ar (ar b3)⟩
end
end Mine
end
section
namespace Mine
open PySem PySem.W PyProof.Rows
section
set_option Elab.async false
set_option maxHeartbeats 0
noncomputable def DA:Env:={scope:=pr.main.scope,locals:=mainNs,globals:=mainNs,cells:=[],code:= .ref 13,frame:=some 14}
noncomputable abbrev bE:List Stmt:=behindTheImports pr
noncomputable abbrev cE:Code:= .body bE DA
noncomputable abbrev pE:Pos:=⟨0,0,0,0⟩
noncomputable abbrev Do:Option Value:=some (.ref 6)
noncomputable abbrev s0 (w:World) (os:OsState):Shared:=⟨boot_heap w.params, #[],boot_drawn,boot_toks,os⟩
noncomputable def Gp (w:World) (os:OsState):Shared:=((PySem.W.Fast.tw15667345088766844465 PySem.W.Fast.tw14364793385576792824 pr w 11 Do 12 (s0 w os) (topStub pr)).map (·.1)).getD ⟨default, #[],{},0,os⟩
noncomputable def tr (w:World) (os:OsState):BT:=((Gp w os).heap.objs.toList.zipIdx).foldl (fun t p=>t.ins p.2 p.1) .nil
noncomputable def sT (w:World) (os:OsState):SharedT:={tree:=tr w os,n:=15,life:={},gens:= #[],drawn:={},toks:=187,os:=os}
noncomputable def q:Program:=view pr [59]
noncomputable def loose:List Str:=(pr.main.scope.names.map (·.1)).filter (· != "law")
noncomputable def Xt (s:Shared):Bool:=xlAt q [] s && recOk PySem.Challenge.rw_og0260_01.row.records s
noncomputable def n4 (w:World) (s:Shared):=(staticsOk (importedModules pr.main.body) (boot_heap w.params) s.heap && namesBound pr s.heap && gensDone s && laidKept (boot_heap w.params) s.heap,openSeen q loose (importedModules pr.main.body) Xt true s,vk (FrH s.heap))
noncomputable def qY (w:World) (r:Flow×SharedT×Code×Pos):=(r.1,r.2.2.1,(topRun treeTable pr w 11 Do 2 r.2.1.abs ⟨doneF .next,cE,r.2.2.2,[topFrame pE]⟩).map (n4 w))
noncomputable def xH (w v:World) (os:OsState):=(segRunT treeTable pr v 11 Do 1 3100 (sT w os) (piecesOf bE DA cE pE [topFrame pE])).map (qY v)
theorem k0 (w:World) (os:OsState):topGo treeTable pr w 11 Do 12 (s0 w os) (topStub pr)=some (Gp w os,⟨denote treeTable cE,cE,pE,[topFrame pE]⟩):=by
 rw [PySem.W.Fast.te15667345088766844465,PySem.W.Fast.te14364793385576792824,PySem.W.Fast.te11892475500146522536]
 kernel_rfl
theorem k1 (w:World) (os:OsState):(sT w os).abs=Gp w os:=by kernel_rfl
theorem kB (w:World) (os:OsState):segRun treeTable pr w 11 Do 1 1 (Gp w os) (blockOf bE DA cE pE [topFrame pE])=some (.next,Gp w os,cE,pE):=by
 rw [PySem.W.Fast.te14374325043358763698,PySem.W.Fast.te14364793385576792824]
 kernel_rfl
theorem kT (w:World) (os:OsState):xH w (w.withFollow "special-get-raises" true) os=some (.next,cE,some (true,openGood q loose,mo w.params)):=by
 unfold xH qY n4;rw [PySem.W.Fast.te10110043849684766642,PySem.W.Fast.te14364793385576792824,PySem.W.Fast.te4187177175401517315,PySem.W.Fast.te5923862056798008813]
 kernel_rfl
theorem kF (w:World) (os:OsState):xH w (w.withFollow "special-get-raises" false) os=some (.next,cE,some (true,openGood q loose,mo w.params)):=by
 unfold xH qY n4;rw [PySem.W.Fast.te10110043849684766642,PySem.W.Fast.te14364793385576792824,PySem.W.Fast.te4187177175401517315,PySem.W.Fast.te5923862056798008813]
 kernel_rfl
theorem Eo (w:World) (os:OsState):xH w w os=some (.next,cE,some (true,openGood q loose,mo w.params)):=by
 have e:=World.withFollow_self w "special-get-raises"
 cases hb:w.params.followText "special-get-raises" <;>rw [hb] at e
 ·have:=kF w os;rw [e] at this;exact this
 ·have:=kT w os;rw [e] at this;exact this
theorem left:LeftO pr q loose Xt (fun s=>vk (FrH s.heap)) (fun w=>mo w.params) 4000:=fun w=>by
 obtain ⟨⟨h,gs,d,k,os⟩,e,e'⟩:=aL.mp (boot_open (p:=pr) (N:=4000) (by kernel_rfl) (by decide) (fun s=>by kernel_rfl) w);obtain ⟨rfl,rfl,rfl,rfl⟩:h=boot_heap w.params/\gs= #[]/\d=boot_drawn/\k=boot_toks:=by simpa using e'
 obtain ⟨⟨f,sT',c,pos⟩,h1,h2⟩:=aL.mp (Eo w os);obtain ⟨h3,h4⟩:=Prod.mk.inj h2;obtain ⟨h4,h5⟩:=Prod.mk.inj h4;obtain ⟨IK,h6,h7⟩:=aL.mp h5;obtain ⟨h7,h8⟩:=Prod.mk.inj h7;have h3:f= .next:=h3;have h4:c=cE:=h4;subst h3 h4;have a1:=segRun_of h1;rw [k1] at a1;have a2:=piece_app a1 (piece_nil h6);rw [aE] at a2;have a3:=go_top (k0 w os) (piece_block (kB w os) a2);have r:=topRun_mono (4000 - (12+(1+(3100+2)))) _ _ _ _ a3
 have t:topFrom treeTable pr w 4000 (s0 w os)=some IK:=by
  unfold topFrom;have z1:((s0 w os).heap.isNs mainGlobals && (s0 w os).gens.size==0)=true:=by kernel_rfl
  have z2:(s0 w os).heap.objs.size=11:=by kernel_rfl
  have z3:(s0 w os).heap.nsMap mainGlobals "__annotations__" =Do:=by kernel_rfl
  rw [z1,z2,z3];have r:topRun treeTable pr w 11 Do 4000 (s0 w os) (topStub pr)=some IK:=r;rw [r];show (match staticsOk (importedModules pr.main.body) (boot_heap w.params) IK.heap && namesBound pr IK.heap && gensDone IK && laidKept (boot_heap w.params) IK.heap with | true=>_ | false=>_)=_;rw [h7]
 unfold openEnds;rw [e];show (topFrom treeTable pr w 4000 (s0 w os)).map _=_;rw [t];exact aB some h8
end
end Mine
end
section
namespace Mine
open PySem PySem.W PyProof.Rows PySem.Calls
section
set_option maxHeartbeats 1000000
noncomputable def C2:Prop:=∀l:List Int,l.length<=63->fnB (Gm 55) (wj 55) [.lst (l.map V.int)] (fun U=>none) (fun v U=>v= .bool true) fun U U=>False
noncomputable abbrev rw0:=PySem.Challenge.rw_og0260_01
theorem AH (h:Heap) (n:Nat) (hn:∀b,n<=b->h.get? b=none):∀m o,h.get? m=some o->∃lo,m<=lo/\(∃o,h.get? lo=some o)/\∀b o,h.get? b=some o->b<=lo:=by
 induction n with
 | zero=>exact fun m o e=>bS e (hn m (aX _))
 | succ n ih=>
  intro m o e;have le:∀b o,h.get? b=some o->b<=n:=fun b o e=>Nat.le_of_lt_succ (Nat.lt_of_not_le fun r=>bS e (hn b r))
  cases q:h.get? n with
  | some o'=>exact ⟨n,le m o e,⟨o',q⟩,le⟩
  | none=>exact ih (fun b hb=>(Nat.eq_or_lt_of_le hb).elim (fun r=>r▸q) (hn b)) m o e
theorem Ey {d:WData} (h:WShape.has [] d .int=true):∃i,d= .int i:=by
 cases d with
 | int i=>exact ⟨i,rfl⟩
 | _=>exact cR h
theorem BP {d:WData} (h:WShape.has [] d (.list .int)=true):∃xs,d= .list xs/\WShape.hasItems [] xs .int=true:=by
 cases d with
 | list xs=>exact ⟨xs,rfl,(Bool.or_false _).symm.trans h⟩
 | _=>exact cR h
theorem Bo {P:Params} {h:Heap} {xs:List WData}:∀{vs:List Value},WellAll P h vs xs->WShape.hasItems [] xs .int=true->∃l:List Int,l.length=xs.length/\∀G,VRs G (l.map V.int) vs:=by
 induction xs with
 | nil=>exact fun w U=>by cases w;exact ⟨[],rfl,fun U=>rfl⟩
 | cons d xs ih=>
  intro vs w hs
  cases w with
  | cons w1 w2=>
   obtain ⟨i,rfl⟩:=Ey (al (b:=WShape.hasItems [] xs .int) hs);obtain ⟨l,h1,h2⟩:=ih w2 (ar hs)
   cases w1
   exact ⟨i::l,aB (· +1) h1,fun G=>⟨⟨_,rfl⟩,h2 G⟩⟩
theorem BJ {P:Params} {h:Heap} {args:List WData} {vs:List Value} (hp:rw0.row.toRowW.claim.pre args=true) (hw:WellAll P h vs args):∃(l:List Int) (a:Addr) (us:List Value),l.length<=63/\vs=[.ref a]/\h.get? a=some {cls:= .type "list",data:= .seq us.toArray}/\∀G,VRs G (l.map V.int) us:=by
 have h1:WShape.hasAll [] args [.list .int]=true:=al hp;have h2:(WTm.and (.not (.lt (.lit (.int 63)) (.len (.arg 0)))) (.lit (.bool true))).holds [] {args:=args}=true:=ar hp;clear hp
 cases args with
 | nil=>exact cR h1
 | cons d r=>
  cases r with
  | cons=>exact cR (ar h1)
  | nil=>
   refine bu (BP (al (b:=true) h1)) fun xs e h3=> ?_;subst e;have h2:(!decide ((63:Int)<(xs.length:Int)))=true:=(holdsW_of_value rfl).symm.trans (holds_andW h2).1
   cases hw with
   | cons w1 w2=>
    cases w2
    cases w1 with
    | @list a us U w1 w2=>exact bu (Bo w2 h3) fun l e1 e2=>⟨l,a,us,e1▸Nat.le_of_not_lt fun q=>of_decide_eq_false ((aZ _).mp h2) (Int.ofNat_lt.mpr q),rfl,w1,e2⟩
theorem BU (args:List WData):rw0.row.toRowW.claim.post args (.bool true) args=true:=by
 show (WShape.has [] (.bool true) .bool && WTm.holds [] (.eq .res (.lit (.bool true))) {args:=args,res:=some (.bool true),after:=args})=true;exact ay.mpr ⟨rfl,(holdsW_of_value rfl).trans (by simp [same]:same (.bool true) (.bool true)=true)⟩
theorem pj (H:C2) {d:DefRec} {kwd:List (Str×Expr)} (hn:d.name= "law"):WalkO q loose (XL q []) (fun w h=>∃K,Hd w.params K h) rw0.row.toRowW d kwd fun f vs=>PySem.call f vs:=by
 intro w IJ IK mg mb G zp1 fa o pm cd doc dV kV ho hd hcd hD hmg hg args vs as hpre hlay hrd hwl hlo;obtain ⟨K,x⟩:=zp1;clear hlo hrd hlay as hD hcd hd ho kV dV doc cd pm kwd pj;obtain ⟨l,a,us,hl,rfl,ha,hv⟩:=BJ hpre hwl;obtain ⟨U,U,U,U,e55,U⟩:=x.fn 55 (by decide);obtain ⟨lo,l1,l2,l3⟩:=AH IK.heap _ (fun b hb=>bB hb) 455 _ (x.inn _ _ e55);have t:yh K lo mg mb IK.heap:=⟨x.inn,G.T.g,G.T.b,G.T.nolimit,l2⟩;obtain ⟨⟨fd29,W⟩,hf,hc,ht⟩:=FH l1 x t G.T.builtins;obtain ⟨fd,F⟩:=hf 55 (by decide) (by decide)
 have hfa:fa=bX 55:=by
  have e3:mg (dN 55)=some (.ref (bX 55)):=(W.K.ufn 55 (by decide) rfl);rw [(show mg (dN 55)=some (.ref fa) by rw [hn] at hmg;exact hmg)] at e3;(replace e3:=bW e3;cases e3);rfl
 clear hmg;subst hfa;have vr:VRs (Mine.G (fun U=>none) IK.heap) [.lst (l.map V.int)] [.ref a]:=⟨⟨a,us,0,rfl,⟨ha,rfl,cA _ (.inr rfl) us 0⟩,hv _⟩,rfl⟩;have zz:=H l hl;refine wpAny_call (nB (A:=callerA) W.K W.R (by decide) (BM W hf hc ht 55 (by decide)) F ⟨rfl,rfl,by decide,by decide⟩ (⟨t,fun a d e=>bZ e⟩:St (rf w x l1 mg mb) (fun U=>none) IK.heap) (fun e he=>fh he) vr (zz.1) (zz.2) (fun v d Y' h' tk t vr q=> ?_) (fun e d Y' h' tk t x q=>q.elim));subst q;subst vr;refine ⟨.inl ⟨_, .bool true,[],rfl,fun cls=>rfl, .bool true,BU args,fun U=>⟨List.nodup_nil,fun U h=>fh h⟩⟩, .of_keep fun b o e=> ?_,rfl, .of_eq hg⟩;obtain ⟨o',e',k⟩:=t.keep b o e;rcases k (.inl rfl) id with rfl | ⟨h,U⟩
 ·exact e'
 ·exact absurd (l3 b o e) (Nat.not_le.mpr h)
end
section
set_option maxHeartbeats 1000000
theorem said:rw0.wellSaid=true:=by
 iterate 18 refine look_both ?_ (by decide+kernel)
 refine look_both (look_both ?_ (by decide+kernel)) (by decide+kernel)
 iterate 13 refine look_both ?_ (by decide+kernel)
 iterate 5 refine look_both ?_ (by decide+kernel)
 decide+kernel
theorem holds_of (H:C2):rw0.Holds:=by
 refine holds_law said fun h=> ?_;obtain ⟨d,kwd,h1,h2,h3⟩:∃d kwd,defOf q rw0.row.name=some (d,kwd)/\rw0.row.prog.theDef rw0.row.name=some (d.params,d.body,d.scope)/\kwWritten? d.params.kwonlyargs d.params.kw_defaults=some kwd:=⟨_,_,rfl,rfl,rfl⟩;exact holds_open (r:=rw0.row) (q:=q) (loose:=loose) (Xt:=Xt) (XP:=XL q []) (YP:=fun w h=>∃K,Hd w.params K h) (N:=4000) left (fun w s e=>Hd.of e) (fun w h h' ⟨K,x⟩ k=>⟨K,x.keeps k⟩) (fun s e=>xl_of s (al e)) XL.keeps h1 h2 h3 (fun s e=>recFacts_of (ar e)) rfl h (by decide+kernel) ⟨rfl,rfl,rfl,rfl,rfl,by decide+kernel⟩ ⟨[.list []],by decide+kernel,by decide+kernel⟩ (pj H (defOf_name h1))
end
end Mine
end
section
namespace Mine
open PySem
theorem cu {b:Bool} {P P':Prop} (h:b=true->P) (h':b=false->P'):br b P P':=match b,h,h' with | true,h,U=>h rfl | false,U,h=>h rfl
theorem iL {b:Bool} {P P':Prop} (h:b=true) (q:P):br b P P':=by refine bi h ?_;exact q
theorem rq {b:Bool} {P P':Prop} (h:b=false) (q:P'):br b P P':=by refine bi h ?_;exact q
theorem EA {p P P':Prop} [Decidable p] (h:p->P) (h':¬p->P'):br (decide p) P P':=cu (fun e=>h (aU e)) fun e=>h' (of_decide_eq_false e)
theorem ji {P P':Prop} (q:P):pK (.bool true) P P':=q
theorem fP {P P':Prop} (q:P'):pK (.bool false) P P':=q
theorem bg {α:Type} {o:Option α} {x:α} {f:α->Prop} (h:o=some x) (q:f x):on o f:=by refine bi h ?_;exact q
theorem bR {Q:KV} {v:V} {Y:be} (q:Q v Y):xA Q v Y:=⟨v,Y, .refl Y, .refl Y Y v,q⟩
theorem qP {Q:KV} {v v':V} {Y Y':be} (q:Q v' Y') (z:ck Y Y') (zv:Fz Y Y' v' v):xA Q v Y:=⟨v',Y',z,zv,q⟩
theorem ck.drop {Y:be} {a:Addr} {o:O} (h:Y a=none):ck (Y.set a o) Y:=fun b o' e=>⟨o',by
 by_cases q:b=a
 ·subst q;rw [h] at e;exact bZ e
 ·exact (be.set_ne Y o q).trans e, .inl rfl⟩
theorem Fzs.self (Y Y':be):∀xs,Fzs Y Y' xs xs:=by
 intro zl
 induction zl with
 | nil=>
  exact rfl
 | cons x xs ih=>
  exact ⟨.refl Y Y' x,ih⟩
theorem Fz.lst {Y:be} {a:Addr} {xs:List V} (h:Y a=none):Fz (Y.set a (.list xs)) Y (.lst xs) (.ref a):= .inr ⟨a,xs,rfl,be.set_same Y a _,h, .self _ _ xs⟩
theorem yN {Q:KV} {Y:be} {a:Addr} {xs:List V} (h:Y a=none) (q:Q (.lst xs) Y):xA Q (.ref a) (Y.set a (.list xs)):=qP q (.drop h) (.lst h)
theorem D1 {Q:KV} {v:V} {Y:be} {a:Addr} {o:O} (h:Y a=none) (q:Q v Y):xA Q v (Y.set a o):=qP q (.drop h) (.refl _ _ v)
noncomputable def mk:List (Nat×V)->bv
 | []=>fun U=>none
 | p::r=>(mk r).set p.1 p.2
noncomputable def gn (H:bv):List (Nat×V)->Prop
 | []=>True
 | p::r=>H p.1=some p.2/\gn H r
theorem i0.mk {Y Y':be}:∀{l:List (Nat×V)} {H:bv},gn H l->i0 Y Y' H (mk l):=by
 intro zl
 induction zl with
 | nil=>
  intro _ _;exact fun U U e=>bZ e
 | cons p r ih=>
  intro H h
  exact fun n v' e=>by
   have e:(Mine.mk r).set p.1 p.2 n=some v':=e
   by_cases q:n=p.1
   ·subst q;rw [bv.set_same] at e;(replace e:=bW e;subst e);exact ⟨_,h.1, .refl _ _ _⟩
   ·rw [bv.set_ne _ _ q] at e;exact ih h.2 n v' e
theorem turn {c:Cd} {W:bv->be->Prop} {H:bv} {Y Y':be} {l:List (Nat×V)} (w:W (mk l) Y') (z:ck Y Y') (sd:cb c Y') (h:gn H l):CQ (fun Jj Jp=>cb c Jp/\W Jj Jp) H Y:=⟨mk l,Y',z, .mk h,sd,w⟩
theorem cV {W:bv->be->Prop} {H:bv} {Y:be} {l:List (Nat×V)} (w:W (mk l) Y) (h:gn H l):CQ (fun Jj Jp=>cb none Jp/\W Jj Jp) H Y:=turn w (.refl Y) trivial h
noncomputable def upd (n:Nat) (v:V):List (Nat×V)->List (Nat×V)
 | []=>[(n,v)]
 | p::r=>cond (Nat.beq p.1 n) ((n,v)::r) (p::upd n v r)
theorem bv.set_set (H:bv) (n:Nat) (v w:V):(H.set n v).set n w=H.set n w:=by
 funext k
 by_cases h:k=n
 ·subst h;(refine ak (bv.set_same ..) ?_;rw [bv.set_same])
 ·(refine ak (bv.set_ne _ _ h) ?_;refine ak (bv.set_ne _ _ h) ?_;refine bi (bv.set_ne _ _ h) ?_;rfl)
theorem bv.sw (H:bv) {n m:Nat} (h:n≠m) (v w:V):(H.set n v).set m w=(H.set m w).set n v:=by
 funext k
 by_cases h1:k=m
 ·subst h1;(refine ak (bv.set_same ..) ?_;rw [bv.set_ne _ _ (aS h),bv.set_same])
 ·refine ak (bv.set_ne _ _ h1) ?_
  by_cases h2:k=n
  ·subst h2;(refine ak (bv.set_same ..) ?_;rw [bv.set_same])
  ·(refine ak (bv.set_ne _ _ h2) ?_;rw [bv.set_ne _ _ h2,bv.set_ne _ _ h1])
theorem zO (n:Nat) (v:V):∀l:List (Nat×V),(mk l).set n v=mk (upd n v l):=by
 intro zl
 induction zl with
 | nil=>
  exact rfl
 | cons p r ih=>
  show ((mk r).set p.1 p.2).set n v=mk (cond (Nat.beq p.1 n) ((n,v)::r) (p::upd n v r))
  cases e:Nat.beq p.1 n with
  | true=>have e:=aQ e;refine bi e ?_;exact bv.set_set _ _ _ _
  | false=>rw [bv.sw _ (fun h=>by rw [h,Nat.beq_refl] at e;exact lN e)];exact aB (bv.set · p.1 p.2) (ih)
section
variable {α:Type} {test:bv->be->KV->Prop} {body:bv->be->KF->Prop} {Q:KF} {H:bv} {Y:be} {c:Cd} {tg:TT}
theorem eX (ps:α->List (Nat×V)) (S:α->be) (P:α->Prop) (iC:α->Nat) (step:∀s,P s->∀W:bv->be->Prop,(∀s',P s'->iC s'<iC s->W (mk (ps s')) (S s'))->test (mk (ps s)) (S s) (fun b Jo=>pK b (body (mk (ps s)) Jo (KL Q none W)) (Q .next (mk (ps s)) Jo))) (s:α) (h:P s) (e:H=mk (ps s)) (eS:Y=S s):∃k,gT test body k H Y Q:=by
 have go:∀(k:Nat) (s:α),P s->iC s<k->gT test body k (mk (ps s)) (S s) Q:=by
  intro k
  induction k with
  | zero=>exact fun U U h=>C6 h
  | succ k ih=>exact fun s hp h=>step s hp _ fun s' h' d=>ih s' h' (a8 d (Nat.le_of_lt_succ h))
 exact ⟨iC s+1,e▸eS▸go _ s h (Nat.lt_succ_self _)⟩
theorem eM (ps:α->List (Nat×V)) (S:α->be) (P:List V->α->Prop) (fin:∀s,P [] s->Q .next (mk (ps s)) (S s)) (step:∀x r s,P (x::r) s->∀W:bv->be->Prop,(∀s',P r s'->W (mk (ps s')) (S s'))->on (dT tg x (mk (ps s))) fun H'=>body H' (S s) (KL Q c W)) (s:α) {l:List V} (h:P l s) (e:H=mk (ps s)) (eS:Y=S s):fZ body tg c l H Y Q:=by
 rw [e,eS];clear e eS
 induction l generalizing s with
 | nil=>exact fin s h
 | cons x r ih=>exact step x r s h _ fun s' h'=>ih s' h'
theorem vh {β:Type} {g:β->V} (ps:α->List (Nat×V)) (S:α->be) (P:List β->α->Prop) (fin:∀s,P [] s->Q .next (mk (ps s)) (S s)) (step:∀x r s,P (x::r) s->∀W:bv->be->Prop,(∀s',P r s'->W (mk (ps s')) (S s'))->on (dT tg (g x) (mk (ps s))) fun H'=>body H' (S s) (KL Q c W)) (s:α) {l:List β} (h:P l s) (e:H=mk (ps s)) (eS:Y=S s):fZ body tg c (l.map g) H Y Q:=by
 rw [e,eS];clear e eS
 induction l generalizing s with
 | nil=>exact fin s h
 | cons x r ih=>exact step x r s h _ fun s' h'=>ih s' h'
end
section
variable {ifsK eltK:bv->be->KV->Prop} {tg:TT} {c:Cd} {D:Addr} {H:bv} {Y:be}
noncomputable def kU (o:Option V) (P:V->Prop) (P':Prop):Prop:=match o with | some y=>P y | none=>P'
theorem vn (sel:V->Option V) (hc:∀acc,cb c (Y.set D (.list acc))) {Q:be->Prop}:∀(l acc:List V),acc.length+l.length<=16777216->(∀x∈l,on (dT tg x H) fun H'=>∀acc (K:KV) (K':be->Prop),kU (sel x) (K · (Y.set D (.list acc))) (K' (Y.set D (.list acc)))->ifsK H' (Y.set D (.list acc)) (fun b Jo=>pK b (eltK H' Jo K) (K' Jo)))->Q (Y.set D (.list (acc++l.filterMap sel)))->dQ ifsK eltK tg c D l H (Y.set D (.list acc)) Q:=by
 intro zl
 induction zl with
 | nil=>
  intro acc _ _ q;rw [show List.filterMap sel []=[] from rfl,aE] at q;exact q
 | cons x r ihz=>
  intro acc hl h q;have hx:=h x (.head _);obtain ⟨H',e,hx⟩:=bH hx;have hl:acc.length+(r.length+1)<=16777216:=hl;refine bg e (hx acc _ _ ?_);have ih:=fun acc' hl' q'=>ihz acc' hl' (fun y hy=>h y (.tail _ hy)) q'
  cases es:sel x with
  | none=>rw [List.filterMap_cons_none es] at q;exact ⟨hc _,ih acc (by exact a6 ‹_›) q⟩
  | some y=>
   rw [List.filterMap_cons_some es] at q;refine ⟨hc _,acc,be.set_same _ _ _,by lia, ?_⟩
   have e2:(Y.set D (.list acc)).set D (.list (acc++[y]))=Y.set D (.list (acc++[y])):=by
    funext b
    by_cases hb:b=D
    ·subst hb;(refine ak (be.set_same ..) ?_;rw [be.set_same])
    ·(refine ak (be.set_ne _ _ hb) ?_;refine ak (be.set_ne _ _ hb) ?_;rw [be.set_ne _ _ hb])
   rw [e2];refine ih _ (by rw [ai];show _+1+_<=_;lia) ?_;rw [aw];exact q
theorem be.set_del {a:Addr} {o:O} (h:Y a=none):(Y.set a o).del a=Y:=by
 funext b
 delta be.del
 by_cases hb:b=a
 ·subst hb;refine bi (if_pos rfl) ?_;refine bi h ?_;rfl
 ·refine bi (if_neg hb) ?_;refine bi (be.set_ne _ _ hb) ?_;rfl
theorem fS {Q:KV} (sel:V->Option V) (l:List V) (hl:l.length<=16777216) (h0:∀d,c=some d->d.2≠ .hid/\Y d.1=some d.2) (h:∀D,Y D=none->∀x∈l,on (dT tg x H) fun H'=>∀acc (K:KV) (K':be->Prop),kU (sel x) (K · (Y.set D (.list acc))) (K' (Y.set D (.list acc)))->ifsK H' (Y.set D (.list acc)) (fun b Jo=>pK b (eltK H' Jo K) (K' Jo))) (q:Q (.lst (l.filterMap sel)) Y):∀D,Y D=none->dQ ifsK eltK tg c D l H (Y.set D (.list [])) (fun Jq=>kK false D (unhid c Jq) Q):=fun D hD=>by
 refine vn sel (fun acc=> ?_) l [] (by rw [List.length_nil,Nat.zero_add];exact hl) (h D hD) ?_
 ·cases e:c with
  | none=>trivial
  | some d=>
   have h2:=(h0 d e).2;exact (be.set_ne _ _ (fun r=>by rw [r,hD] at h2;exact bZ h2)).trans h2
 ·have hu:∀Y',unhid c Y'=Y':=fun Y'=>by
   cases e:c with
   | none=>rfl
   | some d=>
    obtain ⟨h1,U⟩:=h0 d e;clear e;obtain ⟨a,o⟩:=d
    cases o with
    | hid=>exact absurd rfl h1
    | _=>rfl
  rw [hu];exact ⟨_,be.set_same _ _ _,by rw [be.set_del hD];exact q⟩
end
section
variable {Y:be} {a:Addr} {l:List V} {P:Prop} {Q:KV}
theorem bF (h:Y a=some (.list l)):fG (.ref a) Y=some (a,l):=by
 show (Y a).bind _=_;refine bi h ?_;rfl
theorem jw (h:Y a=some (.list l)):cI (.ref a) Y=some l:=by
 show (fG (.ref a) Y).map _=_;rw [bF h];rfl
theorem gb (h:Y a=some (.list l)):dC (.ref a) Y=some l:=by
 show (fG (.ref a) Y).map _=_;rw [bF h];rfl
theorem iE (h:Y a=some (.list l)):oW (.ref a) Y=some l.length:=by
 show (match cI (.ref a) Y with | some l=>some l.length | none=>_)=_;refine bi (jw h) ?_;rfl
theorem gV (h:Y a=some (.list l)):deref (.ref a) Y= .lst l:=by
 delta deref;refine bi (bF h) ?_;rfl
theorem ce (h:Y a=some (.list l)):CB tab.cls .append (.ref a) Y=true:=by
 show (fG (.ref a) Y).isSome=true;refine bi (bF h) ?_;rfl
theorem be.set_set {o o':O}:(Y.set a o).set a o'=Y.set a o':=by
 funext b
 by_cases hb:b=a
 ·subst hb;(refine ak (be.set_same ..) ?_;rw [be.set_same])
 ·(refine ak (be.set_ne _ _ hb) ?_;refine ak (be.set_ne _ _ hb) ?_;refine bi (be.set_ne _ _ hb) ?_;rfl)
theorem ck.set2 (Y:be) (a:Addr) (o o':O):ck ((Y.set a o).set a o') (Y.set a o'):=by refine bi be.set_set ?_;exact .refl _
end
theorem cJ (a b:Nat):decide ((a:Int)=(b:Int))=Nat.beq a b:=by
 cases e:Nat.beq a b with
 | true=>exact aA (aB Int.ofNat (aQ e))
 | false=>exact decide_eq_false fun h=>by rw [Int.ofNat_inj.mp h,Nat.beq_refl] at e;exact lN e
theorem dM (a b:Nat):decide ((a:Int)<(b:Int))=Nat.blt a b:=by
 cases e:Nat.blt a b with
 | true=>exact aA (Int.ofNat_lt.mpr (ad e))
 | false=>exact decide_eq_false fun h=>by rw [show Nat.blt a b=true from Nat.ble_eq_true_of_le (Int.ofNat_lt.mp h)] at e;exact lN e
theorem vx (a b:Nat):decide ((a:Int)<=(b:Int))=Nat.ble a b:=by
 cases e:Nat.ble a b with
 | true=>exact aA (bb.mpr (ad e))
 | false=>exact decide_eq_false fun h=>by rw [Nat.ble_eq_true_of_le (bb.mp h)] at e;exact lN e
theorem sE (a b:Nat):Nat.beq a b=Nat.beq b a:=by
 cases e:Nat.beq a b with
 | true=>refine bi (aQ e) ?_;rw [Nat.beq_refl]
 | false=>exact (Bool.eq_false_iff.mpr fun h=>by rw [aQ h,Nat.beq_refl] at e;exact lN e).symm
noncomputable abbrev bc (n:Nat):V:= .int n
structure fg where
 (f:Nat) (o b u:Int)
structure bh where
 (s:List Nat) (w:Nat) (p:fg)
noncomputable abbrev fg.v (p:fg):V:= .tup [bc p.f, .int p.o, .int p.b, .int p.u, .int 0]
noncomputable abbrev bh.v (c:bh):V:= .tup [.tup (c.s.map bc),bc c.w,c.p.v]
noncomputable def oS (p:fg) (e:Bool):fg:=
 let f:=cond e (p.f &&& 4000) p.f
 ⟨f,cond (e && decide ((f:Int)=0)) (-1) p.o,p.b,cond (decide (((f &&& 3584:Nat):Int)=0)) (-1) p.u⟩
noncomputable def nrm:fg:=⟨0,-1,-1,-1⟩
theorem q02 {Y:be} {Q X:KV} (p:fg) (e:Bool) (q:Q (oS p e).v Y):bd (Gm 2) 2 [p.v, .bool e] Y Q X:=by
 cases e with
 | false=>
  refine ⟨rfl,cu (b:=decide (((p.f &&& 3584:Nat):Int)=0)) (fun h=>bR ?_) fun h=>bR ?_⟩<;>(delta oS at q;dsimp only [cond,Bool.false_and] at q;rw [h] at q;exact q)
 | true=>
  refine ⟨rfl,cu (b:=decide (((p.f &&& 4000:Nat):Int)=0)) (fun h=> ?_) fun h=> ?_⟩<;>
  refine cu (b:=decide (((p.f &&& 4000 &&& 3584:Nat):Int)=0)) (fun h2=>bR ?_) fun h2=>bR ?_<;>(delta oS at q;dsimp only [cond,Bool.true_and] at q;rw [h,h2] at q;exact q)
noncomputable def blk (s:List Nat):Bool:=eqVs [] (s.map bc) || (eqVs [.int 32] (s.map bc) || false)
theorem cX (n:Nat):∀s:List Nat,okVs (s.map bc) n=true:=by
 intro zl
 induction zl with
 | nil=>
  exact rfl
 | cons U s ih=>
  exact ih
theorem bY {a b:V} (h1:iu a 8=true) (h2:iu b 8=true):gz a b=true:=by delta gz;refine bi h1 ?_;refine bi h2 ?_;rfl
theorem dI (c:bh) (n:Nat):iu c.v (n+2)=true:=by
 show (okVs (c.s.map bc) n && true)=true;rw [cX];rfl
noncomputable def oq (c:bh):V:=cond (decide ((c.w:Int)=0)) (.tup [.tup [], .int 0,nrm.v]) (.tup [cond (blk c.s) (.tup []) (.tup (c.s.map bc)),bc c.w,(oS c.p (blk c.s)).v])
theorem q03 {Y:be} {Q X:KV} (c:bh) (q:Q (oq c) Y):bd (Gm 3) 3 [.tup [.tup (c.s.map bc),bc c.w,c.p.v, .bool false]] Y Q X:=by
 delta oq at q;refine ⟨rfl,cu (b:=decide ((c.w:Int)=0)) (fun h=>bR ?_) fun h=>cD ?_ ?_⟩
 ·rw [h] at q;exact q
 ·have h:∀a,iu a 8=true->gz a (.tup (c.s.map bc))=true:=fun a h=>bY h (cX 7 _);show (gz _ _ && (gz _ _ && true))=true;rw [h _ rfl];refine bi (h _ rfl) ?_;rfl
 ·rw [h] at q;refine cu (b:=blk c.s) (fun h2=>q02 c.p _ (bR ?_)) fun h2=>q02 c.p _ (bR ?_)
  ·rw [show cond (blk c.s) (V.tup []) (V.tup (c.s.map bc))=V.tup [] by refine bi h2 ?_;rfl] at q;exact q
  ·rw [show cond (blk c.s) (V.tup []) (V.tup (c.s.map bc))=V.tup (c.s.map bc) by refine bi h2 ?_;rfl] at q;exact q
theorem q04 {Y:be} {Q X:KV} (c:bh) (q:Q (.bool (bw c.v (.tup [.tup [], .int 1,nrm.v]))) Y):bd (Gm 4) 4 [c.v] Y Q X:=
 ⟨rfl,cD (bY (dI c 6) rfl) (bR q)⟩
noncomputable def dg:Nat->Nat->List Nat
 | 0,U=>[]
 | k+1,m=>match m with | 0=>[] | m+1=>dg k ((m+1) / 10)++[48+(m+1) % 10]
noncomputable def bo (n:Nat):List Nat:=dg 20 (n / 10)++[48+n % 10]
theorem GP (acc:List Nat):cz gA (acc.map bc)=some (acc.map fun n:Nat=>(n:Int)):=by
 induction acc with
 | nil=>rfl
 | cons x r ih=>show (some (x:Int)).bind (fun a=>(cz gA (r.map bc)).map (a:: ·))=_;refine bi ih ?_;rfl
theorem CN (acc:List Nat):(acc.map fun n:Nat=>(n:Int)).map Int.toNat=acc:=by
 refine ak (List.map_map ..) ?_;exact List.map_id' _
theorem pN {l:List Nat} (h:∀x∈l,x<256):(l.map fun n:Nat=>(n:Int)).all (fun i=>decide (0<=i) && decide (i<256))=true:=by
 refine ak (List.all_map ..) ?_;exact aG.mpr fun x hx=>ay.mpr ⟨aA (Int.natCast_nonneg x),aA (Int.ofNat_lt.mpr (h x hx))⟩
theorem bq {α β:Type} (f:α->β) (l:List α) (x:α):(l++[x]).map f=l.map f++[f x]:=by refine ak (aJ ..) ?_;rfl
theorem EE {Y:be} {Q X:KV} (n:Nat) (hn:n<10 ^ 20) (q:Q (.bytes (bo n)) Y):bd (Gm 0) 0 [bc n] Y Q X:=by
 refine ⟨rfl,fun F hF=> ?_⟩;refine eX (fun s:Nat×Nat×List Nat=>[(2, .ref F),(1,bc s.2.1),(0,bc n)]) (fun s=>Y.set F (.list (s.2.2.map bc))) (fun s=>s.2.1<10 ^ s.1/\dg s.1 s.2.1++s.2.2.reverse=bo n/\s.2.2.length+s.1<100/\∀x∈s.2.2,x<256) (·.1) ?_ (20,n / 10,[48+n % 10]) ⟨by show n / 10<10 ^ 20;lia,rfl,(by decide:1+20<100),fun x hx=>by cases ao.mp hx;lia⟩ (zO 1 _ [(2, .ref F),(1,bc n),(0,bc n)]) rfl;intro zp1 zp2 W hW;obtain ⟨k,r,acc⟩:=zp1;obtain ⟨h1,h2,h3,h4⟩:=zp2;refine EA (fun h=> ?_) (fun h=> ?_)
 ·cases k with
  | zero=>have h1:r<1:=h1;have h:(0:Int)<r:=h;lia
  | succ k=>
   cases r with
   | zero=>contradiction
   | succ r=>
    refine cD (ce (be.set_same _ _ _)) (bg (bF (be.set_same _ _ _)) (bx (?_:(acc.map bc).length<_) ?_))
    ·rw [ah];lia
    have w:=hW (k,(r+1) / 10,acc++[48+(r+1) % 10]) ⟨?_, ?_, ?_, ?_⟩ (Nat.lt_succ_self k)
    ·dsimp only at w;rw [bq] at w;exact turn w (.set2 _ _ _ _) trivial ⟨rfl,rfl,rfl,trivial⟩
    ·have h1:r+1<10 ^ k*10:=h1;show (r+1) / 10<10 ^ k;lia
    ·refine rt h2 ?_;refine bi List.reverse_append ?_;show dg k ((r+1) / 10)++([48+(r+1) % 10]++acc.reverse)=dg k ((r+1) / 10)++[48+(r+1) % 10]++acc.reverse;exact (aw _ _ _).symm
    ·show (acc++[_]).length+k<100;refine bi ai ?_;show acc.length+1+k<100;lia
    ·intro x hx;rcases aD.mp hx with hx | hx
     ·exact h4 x hx
     ·cases ao.mp hx;lia
 ·cases r with
  | succ r=>exact absurd (by show (0:Int)<(r:Int)+1;omega) h
  | zero=>
   refine bg (gb (be.set_same _ _ _)) (bx (?_:(acc.map bc).length<=_) (bx (?_:(acc.map bc).reverse.length<=_) (bg (?_:cz gA (acc.map bc).reverse=some (acc.reverse.map fun n:Nat=>(n:Int))) (cD (pN ?_) (bx (?_:(acc.reverse.map fun n:Nat=>(n:Int)).length<=_) ?_)))))
   ·rw [ah];lia
   ·refine bi List.length_reverse ?_;rw [ah];lia
   ·refine rt List.map_reverse ?_;rw [GP]
   ·exact fun x hx=>h4 x (List.mem_reverse.mp hx)
   ·rw [ah,List.length_reverse];lia
   ·rw [CN,(show acc.reverse=bo n by refine rt h2 ?_;cases k<;>rfl)];exact D1 hF q
noncomputable def iN:Int->List Nat->Int
 | z,[]=>z
 | z,x::r=>iN (10*z+x - 48) r
theorem q01 {Y:be} {Q X:KV} {bs:List Nat} (h0:bs≠[]) (hb:∀x∈bs,48<=x/\x<=57) (hl:bs.length<=100) (q:Q (.int (iN 0 bs)) Y):bd (Gm 1) 1 [.bytes bs] Y Q X:=by
 refine ⟨rfl,bx (aj hl (by decide)) (rq (b:=decide ((bs.length:Int)=0)) ?_ ?_)⟩
 ·exact decide_eq_false fun e=>h0 (List.length_eq_zero_iff.mp (Int.ofNat_eq_zero.mp e))
 ·refine eM (fun z:Int=>[(0, .int z),(3, .bytes bs)]) (fun U=>Y) (fun r z=>∃l:List Nat,r=l.map (fun c:Nat=>V.int c)/\(∀x∈l,48<=x/\x<=57)/\iN z l=iN 0 bs) ?_ ?_ 0 ⟨bs,rfl,hb,rfl⟩ rfl rfl
  ·intro z zp1;obtain ⟨l,e,U,h⟩:=zp1
   cases l with
   | nil=>rw [<-h] at q;exact bR q
   | cons U z1=>exact B5 e
  ·intro v r z zp1 W hW;obtain ⟨l,e,hd,h⟩:=zp1
   cases l with
   | nil=>exact qm e
   | cons x l=>
    obtain ⟨rfl,rfl⟩:=List.cons.inj e;obtain ⟨h1,h2⟩:=hd x (.head _);exact iL (aA (bb.mpr h1)) (rq (b:= !decide ((x:Int)<=57)) (aB (!·) (aA (bb.mpr h2))) (cV (hW (10*z+x - 48) ⟨l,rfl,fun y hy=>hd y (.tail _ hy),h⟩) ⟨rfl,rfl,trivial⟩))
noncomputable def hexF:List Nat:=[48,49,50,51,52,53,54,55,56,57,97,98,99,100,101,102]
noncomputable def wi:Nat->Nat->List Nat->List Nat
 | 0,U,acc=>acc
 | k+1,n,acc=>cond (Nat.beq n 0 && !acc.isEmpty) acc (wi k (n / 16) (hexF.getD (n % 16) 0::acc))
theorem tn {W:bv->be->Prop} {H:bv} {Y:be} (w:W H Y):CQ (fun Jj Jp=>cb none Jp/\W Jj Jp) H Y:=⟨H,Y, .refl Y, .refl Y Y H,trivial,w⟩
theorem q20 {Y:be} {Q X:KV} {n:Nat} (h:n=97\/n=98\/n=99\/n=32\/n=769\/n=19968\/n=19969\/n=19970) (q:Q (.bytes (wi 9 n [])) Y):bd (Gm 20) 20 [bc n] Y Q X:=by
 rcases h with rfl | rfl | rfl | rfl | rfl | rfl | rfl | rfl
 iterate 4 exact ⟨rfl,5,tn (tn (bR q))⟩
 ·exact ⟨rfl,5,tn (tn (tn (bR q)))⟩
 iterate 3 exact ⟨rfl,5,tn (tn (tn (tn (bR q))))⟩
noncomputable def p9:Int->List Nat->Option Int
 | z,[]=>some z
 | z,x::r=>match hexF.contains x with
  | true=>(hexF.findIdx? (· ==x)).bind fun k=>p9 (z*16+k) r
  | false=>none
theorem q21 {Y:be} {Q X:KV} {bs:List Nat} {n:Nat} (hn:n=97\/n=98\/n=99\/n=32\/n=769\/n=19968\/n=19969\/n=19970) (hb:bs=wi 9 n []) (h0:p9 0 bs=some (n:Int)) (hs:∀x∈bs,x<256) (q:Q (bc n) Y):bd (Gm 21) 21 [.bytes bs] Y Q X:=by
 refine ⟨rfl,eM (fun z:Int=>[(2, .int z),(3, .bytes bs)]) (fun U=>Y) (fun r z=>∃l:List Nat,r=l.map (fun c:Nat=>V.int c)/\(∀x∈l,x<256)/\p9 z l=some (n:Int)) ?_ ?_ 0 ⟨bs,rfl,hs,h0⟩ rfl rfl⟩
 ·intro z zp1;obtain ⟨l,e,U,h⟩:=zp1;clear h0 hs q21
  cases l with
  | cons U z1=>exact B5 e
  | nil=>
   (replace h:=bW h;subst h)
   refine iL (b:= !(bs==[])) ?_ (q20 hn (iL (b:=wi 9 n []==bs) ?_ (bR q)))
   ·subst hb;rcases hn with rfl | rfl | rfl | rfl | rfl | rfl | rfl | rfl<;>rfl
   ·rw [hb];exact a9 _
 ·intro v r z zp1 W hW;obtain ⟨l,e,hd,h⟩:=zp1
  cases l with
  | nil=>exact qm e
  | cons x l=>
   obtain ⟨rfl,rfl⟩:=List.cons.inj e;have h:(match hexF.contains x with | true=>(hexF.findIdx? (· ==x)).bind fun k=>p9 (z*16+k) l | false=>none)=some (n:Int):=h;have hx:(x:Int)<256:=Int.ofNat_lt.mpr (hd x (.head _))
   cases e1:hexF.contains x with
   | false=>rw [e1] at h;exact bZ h
   | true=>
    rw [e1] at h;refine cr fun hn=> ?_;obtain ⟨k,e2,h⟩:=aK.mp h;refine hn (bx hx (rq (aB (!·) e1) ?_));refine cD (Bool.or_true _) ?_;refine bx hx ?_;refine bg e2 ?_;exact cV (hW (z*16+k) ⟨l,rfl,fun y hy=>hd y (.tail _ hy),h⟩) ⟨rfl,rfl,trivial⟩
noncomputable def f8 (z:Int):List Nat:=cond (decide (z<0)) [45] (bo z.toNat)
theorem q22 {Y:be} {Q X:KV} {z:Int} (hz:z<10 ^ 20) (q:Q (.bytes (f8 z)) Y):bd (Gm 22) 22 [.int z] Y Q X:=by
 delta f8 at q;refine ⟨rfl,cu (b:=decide (z<0)) (fun h=> ?_) fun h=> ?_⟩
 ·rw [h] at q;exact bR q
 ·rw [h] at q;obtain ⟨n,rfl⟩:=Int.eq_ofNat_of_zero_le (Int.not_lt.mp (of_decide_eq_false h));exact EE n (Int.ofNat_lt.mp hz) (bR q)
noncomputable def wy (bs:List Nat) (n:Nat):V:=cond (bo n==bs) (bc n) .none
theorem q23 {Y:be} {Q X:KV} {bs:List Nat} {n:Nat} (h0:bs≠[]) (hb:∀x∈bs,48<=x/\x<=57) (hl:bs.length<=100) (hn:n<10 ^ 20) (e:iN 0 bs=n) (q:Q (wy bs n) Y):bd (Gm 23) 23 [.bytes bs] Y Q X:=by
 delta wy at q;refine ⟨rfl,q01 h0 hb hl ?_⟩;rw [e];refine EE n hn (cu (b:=bo n==bs) (fun h=> ?_) fun h=> ?_)<;>(rw [h] at q;exact bR q)
theorem q24 {Y:be} {Q X:KV} {bs:List Nat} {n:Nat} (h0:bs≠[]) (hb:∀x∈bs,48<=x/\x<=57) (hl:bs.length<=100) (hn:n<10 ^ 20) (e:iN 0 bs=n) (q:Q (wy bs n) Y):bd (Gm 24) 24 [.bytes bs] Y Q X:=by
 refine ⟨rfl,rq ?_ (q23 h0 hb hl hn e (bR q))⟩;refine Bool.eq_false_iff.mpr fun h=> ?_;rw [eq_of_beq h] at hb;exact absurd (hb 45 (.head _)).1 (by decide)
theorem q24m {Y:be} {Q X:KV} (q:Q (.int (-1)) Y):bd (Gm 24) 24 [.bytes [45]] Y Q X:=⟨rfl,bR q⟩
theorem q45 {Y:be} {Q X:KV} {z:Int} (hz:z.natAbs<10 ^ 18) (q:Q (.str (cond (decide (z= -1)) [45] (bQ z))) Y):bd (Gm 45) 45 [.int z] Y Q X:=by
 refine ⟨rfl,cu (b:=decide (z= -1)) (fun h=> ?_) fun h=>bx hz ?_⟩<;>(replace q:=h▸q;exact bR q)
theorem q46 {Y:be} {Q X:KV} {n:Nat} (h:n=97\/n=98\/n=99\/n=769\/n=19968\/n=19969\/n=19970) (q:Q (.str (wi 9 n [])) Y):bd (Gm 46) 46 [bc n] Y Q X:=by
 rcases h with rfl | rfl | rfl | rfl | rfl | rfl | rfl
 iterate 3 exact ⟨rfl,5,tn (tn (bR q))⟩
 ·exact ⟨rfl,5,tn (tn (tn (bR q)))⟩
 iterate 3 exact ⟨rfl,5,tn (tn (tn (tn (bR q))))⟩
structure Ln where
 (cs:List bh) (sz:List Nat) (on:Bool)
structure Pc where
 (c:Nat) (ls:List Ln) (r0 c0:Nat) (sh:Bool)
noncomputable def single:List Nat:=[115,105,110,103,108,101]
noncomputable def Ln.wd (l:Ln) (c:Nat):Nat:=cond (l.sz==single) c (c / 2)
noncomputable def Ln.shc (l:Ln) (c:Nat):List bh:=l.cs.take (l.wd c)
noncomputable abbrev bt (l:List bh):V:= .lst (l.map bh.v)
noncomputable def BB (P:Pc):List (Nat×V):=[(31,bc P.ls.length),(32,bc P.c),(15, .lst (P.ls.map fun l=>bt l.cs)),(34, .lst (P.ls.map fun l=> .str l.sz)),(35, .lst (P.ls.map fun l=> .bool l.on)),(71, .tup [bc P.r0,bc P.c0]),(72, .bool P.sh)]
noncomputable def InstAt (Y:be) (a dx C:Addr) (fs:List (Nat×V)):Prop:=Y a=some (.inst C dx)/\Y dx=some (.idict fs)
noncomputable def bJ (Y:be) (a:Addr) (P:Pc):Prop:=∃dx,InstAt Y a dx 142 (BB P)
noncomputable def du (Y Y':be):Prop:=∀b o,Y b=some o->Y' b=some o
theorem du.refl (Y:be):du Y Y:=fun U U h=>h
theorem du.trans {Jo Jp Jq:be} (a:du Jo Jp) (b:du Jp Jq):du Jo Jq:=fun x o h=>b x o (a x o h)
theorem du.new {Y:be} {a:Addr} {o:O} (h:Y a=none):du Y (Y.set a o):=fun b o' e=>(be.set_ne Y o fun r=>by subst r;rw [h] at e;exact bZ e).trans e
theorem bJ.ext {Y Y':be} {a:Addr} {P:Pc} (h:bJ Y a P) (e:du Y Y'):bJ Y' a P:=bu h fun dx h1 h2=>⟨dx,e _ _ h1,e _ _ h2⟩
theorem eh {Y:be} {a dx C:Addr} {fs:List (Nat×V)} (h:InstAt Y a dx C fs):gC (.ref a) Y=some (C,dx,fs):=by
 show (Y a).bind _=_;refine bi h.1 ?_;show (Y dx).bind _=_;refine bi h.2 ?_;rfl
theorem ch {Y:be} {a dx C:Addr} {fs:List (Nat×V)} {n:Nat} {x:V} {f:V->Prop} (h:InstAt Y a dx C fs) (e:fs.lookup n=some x) (q:f x):on (gC (.ref a) Y) fun p=>on (p.2.2.lookup n) f:=bg (eh h) (bg e q)
structure pg (Y:be) (a dx C:Addr) (fs:List (Nat×V)) (Y':be):Prop where
 ne:a≠dx
 at_:InstAt Y' a dx C fs
 fr:∀b,b≠a->b≠dx->Y' b=Y b
theorem pg.start {Y:be} {a dx C:Addr} (ne:a≠dx):pg Y a dx C [] ((Y.set dx (.idict [])).set a (.inst C dx)):=
 ⟨ne,⟨be.set_same _ _ _,(be.set_ne _ _ (aS ne)).trans (be.set_same _ _ _)⟩,fun b n1 n2=>(be.set_ne _ _ n1).trans (be.set_ne _ _ n2)⟩
theorem pg.ext {Y Y':be} {a dx C:Addr} {fs:List (Nat×V)} (m:pg Y a dx C fs Y') (ha:Y a=none) (hd:Y dx=none):du Y Y':=fun b o e=>(m.fr b (fun r=>by subst r;rw [ha] at e;exact bZ e) fun r=>by subst r;rw [hd] at e;exact bZ e).trans e
theorem D3 {Y Jo:be} {a dx C:Addr} {fs:List (Nat×V)} {n:Nat} {x:V} {P:be->Prop} (m:pg Y a dx C fs Jo) (hl:Nat.ble fs.length 100=true) (q:∀Jp,pg Y a dx C (lV n x fs) Jp->P Jp):Dr (.ref a) n x Jo P:=
 bg (eh m.at_) (bx (ad hl) (q _ ⟨m.ne,⟨(be.set_ne _ _ m.ne).trans m.at_.1,be.set_same _ _ _⟩,fun b n1 n2=>(be.set_ne _ _ n2).trans (m.fr b n1 n2)⟩))
theorem bm {Y:be} {a dx C:Addr} {fs:List (Nat×V)} {i:Nat} {P:Prop} (h:InstAt Y a dx C fs) (e:(Nat.beq C (ve i) && fs.all fun q=>some q.1 !=AK i)=true) (q:P):gd (CB tab.cls (.user i) (.ref a) Y) P:=by
 refine cD ?_ q;show (match gC (.ref a) Y with | some p=>p.1==ve i && p.2.2.all (fun q=>some q.1 !=AK i) | none=>false)=true;refine bi (eh h) ?_;refine fI (ay.mp e) fun e1 e2=> ?_;exact ay.mpr ⟨beq_iff_eq.mpr (aQ e1),e2⟩
theorem q05 {Y:be} {Q X:KV} {P:Pc} {r:Int} (hr:r=P.ls.length) (q:∀a Y',bJ Y' a P->du Y Y'->Q (.ref a) Y'):bd (Gm 5) 5 [.int r,bc P.c, .lst (P.ls.map fun l=>bt l.cs), .lst (P.ls.map fun l=> .str l.sz), .lst (P.ls.map fun l=> .bool l.on), .tup [bc P.r0,bc P.c0], .bool P.sh] Y Q X:=by
 subst hr;refine ⟨rfl,fun a dx ha hd ne=> ?_⟩;have m:=pg.start (Y:=Y) (C:=142) ne
 iterate 7 (refine D3 m rfl fun Jp m=> ?_)
 exact bR ⟨rfl,q a Jp ⟨dx,m.at_⟩ (m.ext ha hd)⟩
theorem bD {l:List V} {i:Int} {k:Nat} {x:V} {f:V->Prop} (hl:l.length<=16777216) (hi:i=k) (h:l[k]? =some x) (q:f x):gd (decide (l.length<=16777216)) (on (dk i l.length) fun k=>on l[k]? f):=by
 subst hi;refine bx hl (bg (x:=k) ?_ (bg h q));have zz:=aM.mp h;have hk:=zz.1;unfold dk;refine bi (if_pos (Int.natCast_nonneg k)) ?_;rw [Int.toNat_natCast,if_pos hk]
theorem bM {α β:Type} {f:α->β} {l:List α} {k:Nat} {x:α} (h:l[k]? =some x):(l.map f)[k]? =some (f x):=by refine bi (List.getElem?_map) ?_;refine bi h ?_;rfl
structure PcOk (P:Pc):Prop where
 n:P.ls.length<=3
 c:P.c<=6
 cs:∀l∈P.ls,l.cs.length=P.c
section
variable {Y:be} {Q X:KV} {P:Pc} {a:Addr} {row:Nat} {l:Ln}
theorem bz {n m:Nat} (h:n<=m) (hm:Nat.ble m 16777216=true):n<=16777216:=aj h (ad hm)
theorem PcOk.lines {α:Type} (h:PcOk P) (f:Ln->α):(P.ls.map f).length<=16777216:=by rw [ah];exact bz h.n rfl
theorem q06 (hp:PcOk P) (h:bJ Y a P) (hr:P.ls[row]? =some l) (q:Q (bc (l.wd P.c)) Y):bd (Gm 6) 6 [.ref a,bc row] Y Q X:=by
 refine cr fun hn=> ?_;obtain ⟨dx,i⟩:=h;refine hn ?_;unfold Ln.wd at q;refine ⟨rfl,bg (eh i) (bD (hp.lines _) rfl (bM hr) (cu (b:=l.sz==single) (fun e=>bg (eh i) ?_) fun e=>bg (eh i) ?_))⟩<;>(rw [e] at q;exact bR q)
theorem EP (hp:PcOk P) (h:bJ Y a P) (hr:P.ls[row]? =some l) (q:Q (bt (l.shc P.c)) Y):bd (Gm 7) 7 [.ref a,bc row] Y Q X:=by
 have h':=h;obtain ⟨dx,i⟩:=h;have hc:=hp.cs l (aq hr);refine ⟨rfl,bg (eh i) (bD (hp.lines _) rfl (bM hr) (bm i rfl (q06 hp h' hr ?_)))⟩;refine bx (bz (by rw [ah,hc];exact hp.c) rfl) (bx ((fun n=>bz (by rw [aV,ah,hc];exact aj (Nat.min_le_right _ _) hp.c) rfl:∀n,((l.cs.map bh.v).take n).length<=16777216) _) ?_);unfold Ln.shc at q;rw [bt,List.map_take] at q;exact bR q
noncomputable def bU (l:Ln) (c:Nat):V:= .tup [.str l.sz, .tup ((l.shc c).map bh.v)]
theorem PcOk.sh (hp:PcOk P) (hr:P.ls[row]? =some l):(l.shc P.c).length<=6:=by
 unfold Ln.shc;refine bi aV ?_;refine bi (hp.cs l (aq hr)) ?_;exact aj (Nat.min_le_right _ _) hp.c
theorem q08 (hp:PcOk P) (h:bJ Y a P) (hr:P.ls[row]? =some l) (q:Q (bU l P.c) Y):bd (Gm 8) 8 [.ref a,bc row] Y Q X:=by
 have h':=h;obtain ⟨dx,i⟩:=h;refine ⟨rfl,bg (eh i) (bD (hp.lines _) rfl (bM hr) (bm i rfl (EP hp h' hr (bx (p:=((l.shc P.c).map bh.v).length<=_) (bz (m:=6) (by rw [ah];exact hp.sh hr) rfl) (bR q)))))⟩
noncomputable def iP:V:= .tup [.tup [], .int 1,nrm.v]
noncomputable def pB (p:Nat->Bool):Nat->Nat
 | 0=>0
 | k+1=>cond (p k) (pB p k) (k+1)
noncomputable def co (l:List bh) (k:Nat):Bool:=match l[k]? with | some c=>bw c.v iP | none=>true
noncomputable def Ln.use (l:Ln) (c:Nat):Nat:=pB (co (l.shc c)) (l.shc c).length
theorem q11 (hp:PcOk P) (h:bJ Y a P) (hr:P.ls[row]? =some l) (q:Q (bc (l.use P.c)) Y):bd (Gm 11) 11 [.ref a,bc row] Y Q X:=by
 have h':=h;obtain ⟨dx,i⟩:=h;have hl:((l.shc P.c).map bh.v).length<=16777216:=bz (by rw [ah];exact hp.sh hr) rfl;refine ⟨rfl,bm i rfl (EP hp h' hr (bx hl ?_))⟩;refine eX (fun k:Nat=>[(46,bc k),(15,bt (l.shc P.c)),(19,bc row),(70, .ref a)]) (fun U=>Y) (fun k=>k<=(l.shc P.c).length/\pB (co (l.shc P.c)) k=l.use P.c) id ?_ (l.shc P.c).length ⟨av _,rfl⟩ ?_ rfl
 ·intro k zp1 W hW;obtain ⟨hk,e⟩:=zp1
  cases k with
  | zero=>rw [<-e] at q;exact bR q
  | succ k=>
   have hx:=an hk;refine iL (b:=decide ((0:Int)<((k+1:Nat):Int))) (aA (Int.natCast_pos.mpr (Nat.succ_pos k))) ?_;refine bD hl (Int.add_sub_cancel (k:Int) 1) (bM hx) (q04 _ ?_);have e:cond (co (l.shc P.c) k) (pB (co (l.shc P.c)) k) (k+1)=l.use P.c:=e;refine cu (b:=bw (l.shc P.c)[k].v iP) (fun hb=> ?_) fun hb=> ?_
   ·refine cV (hW k ⟨Nat.le_of_succ_le hk, ?_⟩ (Nat.lt_succ_self k)) ⟨aB (fun i=>some (V.int i)) (Int.add_sub_cancel (k:Int) 1),rfl,rfl,rfl,trivial⟩;rw [co,hx] at e;dsimp only at e;rw [hb] at e;exact e
   ·rw [co,hx] at e;dsimp only at e;rw [hb] at e;rw [<-e] at q;exact bR q
 ·rw [ah];rfl
end
theorem d7 (n:Nat):dl 0 n=(List.range n).map bc:=by
 unfold dl;exact aB (List.map · _) (funext fun k=>aB V.int (Int.zero_add (k:Int)))
noncomputable def ED (x:V):Nat:=match gA x with | some i=>i.toNat | none=>0
theorem eW {α β:Type} {f:V->Option β} {g:α->V} {h:α->β}:∀{l:List α},(∀x∈l,f (g x)=some (h x))->cz f (l.map g)=some (l.map h):=by
 intro zl
 induction zl with
 | nil=>
  exact fun U=>rfl
 | cons x r ih=>
  intro e;show (f (g x)).bind (fun a=>(cz f (r.map g)).map (a:: ·))=_;refine bi (e x (.head _)) ?_;refine bi (ih fun y hy=>e y (.tail _ hy)) ?_;rfl
theorem cj {α:Type} {ifsK eltK:bv->be->KV->Prop} {tg:TT} {c:Cd} {H:bv} {Y:be} {Q:KV} {l:List α} {g:α->V} (f:V->V) (hl:l.length<=16777216) (h0:∀d,c=some d->d.2≠ .hid/\Y d.1=some d.2) (h:∀D,Y D=none->∀y∈l,on (dT tg (g y) H) fun H'=>∀acc (K:KV) (K':be->Prop),K (f (g y)) (Y.set D (.list acc))->ifsK H' (Y.set D (.list acc)) (fun b Jo=>pK b (eltK H' Jo K) (K' Jo))) (q:Q (.lst (l.map fun y=>f (g y))) Y):∀D,Y D=none->dQ ifsK eltK tg c D (l.map g) H (Y.set D (.list [])) (fun Jq=>kK false D (unhid c Jq) Q):=by
 refine fS (fun x=>some (f x)) _ (by rw [ah];exact hl) h0 (fun D hD x hx=> ?_) ?_
 ·obtain ⟨y,hy,rfl⟩:=aN.mp hx;exact h D hD y hy
 ·rw [List.filterMap_map];show Q (.lst (l.filterMap (some∘fun y=>f (g y)))) Y;rw [List.filterMap_eq_map];exact q
theorem qF {ifsK eltK:bv->be->KV->Prop} {i:Nat} {bl:Bool} {pp:Pos} {H:bv} {Y:be} {Q:KV} {n:Nat} (f:Nat->V) (hn:n<=16777216) (h:∀D,Y D=none->∀k,k<n->∀acc (K:KV) (K':be->Prop),K (f k) (Y.set D (.list acc))->ifsK (H.set i (bc k)) (Y.set D (.list acc)) (fun b Jo=>pK b (eltK (H.set i (bc k)) Jo K) (K' Jo))) (q:Q (.lst ((List.range n).map f)) Y):∀D,Y D=none->dQ ifsK eltK (.n bl i pp) none D (dl 0 n) H (Y.set D (.list [])) (fun Jq=>kK false D (unhid none Jq) Q):=by
 rw [d7];exact cj (fun x=>f (ED x)) (by refine bi List.length_range ?_;exact hn) nofun (fun D hD k hk acc K K' q=>h D hD k (List.mem_range.mp hk) acc K K' q) q
theorem mR {n:Nat}:∀{l:List V},(∀x∈l,iu x n=true)->okVs l n=true:=by
 intro zl
 induction zl with
 | nil=>
  exact fun U=>rfl
 | cons x r ih=>
  exact fun h=>ay.mpr ⟨h x (.head _),ih fun y hy=>h y (.tail _ hy)⟩
theorem cB {α:Type} {n:Nat} {f:α->V} {l:List α} (h:∀x,iu (f x) n=true):okVs (l.map f) n=true:=mR fun y hy=>by
 refine bu (aN.mp hy) fun x U y1=> ?_;subst y1;exact h x
theorem kc (l:Ln) (c n:Nat):iu (bU l c) (n+4)=true:=by
 show (okVs ((l.shc c).map bh.v) (n+2) && true)=true;refine bi (cB fun x=>dI x n) ?_;rfl
noncomputable def ip (P:Pc) (k:Nat):V:=match P.ls[k]? with | some l=>bU l P.c | none=> .none
noncomputable def bO (P:Pc):V:= .tup [bc P.r0,bc P.c0]
noncomputable def xD (P P':Pc):Bool:=cond (bw (.bool P.sh) (.bool P'.sh)) (cond (P.sh && !(bw (bO P) (bO P'))) false (((List.range P.ls.length).map fun k=>bw (ip P k) (ip P' k)).all id)) false
section
variable {Y:be} {Q X:KV} {P P':Pc} {a a':Addr}
theorem q09 (hp:PcOk P) (hp':PcOk P') (h:bJ Y a P) (h':bJ Y a' P') (en:P'.ls.length=P.ls.length) (ec:P'.c=P.c) (q:Q (.bool (xD P P')) Y):bd (Gm 9) 9 [.ref a, .ref a'] Y Q X:=by
 have g:=h;have g':=h';refine cr fun hn=> ?_;refine dU h fun dx i=> ?_;refine dU h' fun dx' i'=> ?_;refine hn ?_;unfold xD at q;refine ⟨rfl,ch i rfl (ch i rfl (ch i rfl (ch i' rfl (ch i' rfl (ch i' rfl ?_)))))⟩
 have e0:bw (.tup [bc P.ls.length,bc P.c, .bool P.sh]) (.tup [bc P'.ls.length,bc P'.c, .bool P'.sh])=bw (.bool P.sh) (.bool P'.sh):=by
  show (decide ((P.ls.length:Int)=(P'.ls.length:Int)) && (decide ((P.c:Int)=(P'.c:Int)) && (bw (.bool P.sh) (.bool P'.sh) && true)))=_;rw [en,ec,aA rfl,aA rfl,Bool.and_true];rfl
 refine cu (b:= !(bw (.tup [bc P.ls.length,bc P.c, .bool P.sh]) (.tup [bc P'.ls.length,bc P'.c, .bool P'.sh]))) (fun e=> ?_) fun e=> ?_
 ·rw [e0] at e;rw [(aZ _).mp e] at q;exact bR q
 ·rw [e0] at e;rw [(Bool.not_eq_false' _).mp e] at q
  have fin:cond (P.sh && !(bw (bO P) (bO P'))) false (((List.range P.ls.length).map fun k=>bw (ip P k) (ip P' k)).all id)=((List.range P.ls.length).map fun k=>bw (ip P k) (ip P' k)).all id->exDs tab (Gm 9) [CM] (lY pa9 [.ref a, .ref a']) Y (cQ Q) X:=fun r=>by
   rw [r] at q;refine ch i rfl (bx (p:=((P.ls.length:Int)<=2 ^ 24)) (bb.mpr (bz hp.n rfl)) ?_);refine qF (fun k=> .bool (bw (ip P k) (ip P' k))) (bz hp.n rfl) (fun D hD k hk acc K K' q=> ?_) ?_
   ·have hk':k<P'.ls.length:=en▸hk;have r1:=an hk;have r2:=an hk';rw [ip,ip,r1,r2] at q;have x:=du.new (o:= .list acc) hD;refine cr fun hn=> ?_;refine dU (g.ext x) fun dy j=> ?_;refine dU (g'.ext x) fun dy' j'=> ?_;refine hn (bm j rfl (q08 hp (g.ext x) r1 (bm j' rfl (q08 hp' (g'.ext x) r2 (cD (bY (kc _ _ 4) (kc _ _ 4)) q)))))
   ·refine bg (eW fun U U=>rfl) (bR ?_);exact q
  refine ch i rfl (cu (b:=P.sh) (fun e=>ch i rfl (ch i' rfl ?_)) fun e=>fin (by rw [e];rfl));refine cu (b:= !(bw (bO P) (bO P'))) (fun e2=> ?_) fun e2=>fin (by rw [e,e2];rfl);rw [e,e2] at q;exact bR q
theorem q10 (hp:PcOk P) (hp':PcOk P') (h:bJ Y a P) (h':bJ Y a' P') (en:P'.ls.length=P.ls.length) (ec:P'.c=P.c) (q:Q (.bool (xD P P' && (bw (bO P) (bO P') && bw (.lst (P.ls.map fun l=> .bool l.on)) (.lst (P'.ls.map fun l=> .bool l.on))))) Y):bd (Gm 10) 10 [.ref a, .ref a'] Y Q X:=by
 have g:=h;refine cr fun hn=> ?_;obtain ⟨dx,i⟩:=h;obtain ⟨dx',i'⟩:=h';refine hn (⟨rfl,bm i rfl (q09 hp hp' g ⟨dx',i'⟩ en ec (cu (b:=xD P P') (fun e=>ch i rfl (ch i' rfl ?_)) fun e=> ?_))⟩)
 ·rw [e] at q;refine cu (b:=bw (bO P) (bO P')) (fun e2=>ch i rfl (ch i' rfl (cD (bY (cB (n:=7) fun U=>rfl) (cB (n:=7) fun U=>rfl)) ?_))) fun e2=> ?_
  ·rw [e2] at q;refine cu (b:=bw (.lst (P.ls.map fun l=> .bool l.on)) (.lst (P'.ls.map fun l=> .bool l.on))) (fun e3=> ?_) fun e3=> ?_<;>(rw [e3] at q;exact bR q)
  ·rw [e2] at q;exact bR q
 ·rw [e] at q;exact bR q
end
noncomputable def AT (n:Nat):Prop:=n=97\/n=98\/n=99\/n=769\/n=19968\/n=19969\/n=19970
theorem AT.with {n:Nat} (h:AT n):n=97\/n=98\/n=99\/n=32\/n=769\/n=19968\/n=19969\/n=19970:=by
 rcases h with h | h | h | h
 ·exact .inl h
 ·exact .inr (.inl h)
 ·exact .inr (.inr (.inl h))
 ·exact .inr (.inr (.inr (.inr h)))
noncomputable def hx (n:Nat):List Nat:=wi 9 n []
theorem dD (s x:List Nat):∀(l:List (List Nat)),l≠[]->bk s (l++[x])=bk s l++s++x
 | [],h=>absurd rfl h
 | [a],U=>rfl
 | a::b::r,U=>by
  show a++s++bk s (b::r++[x])=a++s++bk s (b::r)++s++x
  rewrite [dD s x (b::r) nofun];simp only [aw]
theorem li {b c:Nat}:∀{l:List (List Nat)},(∀w∈l,w.length<=b)->(bk [c] l).length<=(b+1)*l.length
 | [],U=>aX _
 | [a],h=>by rw [List.length_singleton,Nat.mul_one];exact Nat.le_succ_of_le (h a (.head _))
 | a::d::r,h=>by
  have h1:=h a (.head _);have e:bk [c] (a::d::r)=a++[c]++bk [c] (d::r):=rfl;rw [e,ai,ai,ba (as:=d::r),Nat.mul_succ,Nat.add_comm];exact Nat.add_le_add (li (b:=b) (c:=c) fun w hw=>h w (.tail _ hw)) (aO h1)
theorem kl {c:Nat} {l:List (List Nat)} (h:∀w∈l,w.length<=100):(bk [c] l).length<=101*l.length:=li h
theorem qR:∀k m,(dg k m).length<=k
 | 0,U=>av _
 | k+1,0=>aX _
 | k+1,m+1=>by
  show (dg k ((m+1) / 10)++[48+(m+1) % 10]).length<=k+1;refine bi ai ?_;exact aO (qR k _)
theorem jU (z:Int):(f8 z).length<=100:=by
 unfold f8
 cases decide (z<0) with
 | true=>exact ad rfl
 | false=>
  show (dg 20 _++[_]).length<=100;refine bi ai ?_;exact aj (aO (qR 20 _)) (ad rfl)
theorem EM (l:List (List Nat)):cz fv (l.map .bytes)=some l:=by
 have:=eW (f:=fv) (g:=V.bytes) (h:=id) (l:=l) fun U U=>rfl;rw [List.map_id] at this;exact this
noncomputable def cP (s:List Nat):List Nat:=cond s.isEmpty [95] (bk [43] (s.map hx))
noncomputable def word (c:bh):List Nat:=cond (decide ((c.w:Int)=2)) (58::cP c.s) (cP c.s)
theorem yc {n:Nat} (h:AT n):(hx n).length<=100:=by
 rcases h with rfl | rfl | rfl | rfl | rfl | rfl | rfl<;>exact ad rfl
structure Aq (s:List Nat):Prop where
 code:∀n∈s,AT n
 len:(cP s).length<=99
 few:s.length<=2
theorem kD {c:bh} (h:Aq c.s):(word c).length<=100:=by
 unfold word
 cases decide ((c.w:Int)=2) with
 | true=>exact aO h.len
 | false=>exact Nat.le_succ_of_le h.len
theorem mP {n m:Nat} (h:m<=100) (hn:Nat.ble n 1000=true):n+m<=16777216:=by have:=ad hn;lia
theorem q25 {Y:be} {Q X:KV} {c:bh} (h:Aq c.s) (q:Q (.bytes (word c)) Y):bd (Gm 25) 25 [c.v] Y Q X:=by
 obtain ⟨s,w,p⟩:=c
 have last:∀{H:bv},H 25=some (.bytes (cP s))->H 11=some (bh.v ⟨s,w,p⟩)->exDs tab (Gm 25) [u7] H Y (cQ Q) X:=fun h1 h2=>by
  refine bg h2 (cu (b:=decide ((w:Int)=2)) (fun e=>bg h1 (bx (p:=1+(cP s).length<=_) (mP (Nat.le_succ_of_le h.len) rfl) ?_)) fun e=>bg h1 ?_)<;>(unfold word at q;dsimp only at q;rw [e] at q;exact bR q)
 cases s with
 | nil=>refine ⟨rfl,cu (b:=decide ((w:Int)=2)) (fun e=> ?_) fun e=> ?_⟩<;>(unfold word at q;dsimp only at q;rw [e] at q;exact bR q)
 | cons x r=>
  refine ⟨rfl,cD (bY (cX 7 _) rfl) (cj (l:=x::r) (fun v=> .bytes (hx (ED v))) (bz h.few rfl) nofun (fun D hD n hn acc K K' q=>q20 (h.code n hn).with q) ?_)⟩;refine bg (eW fun U U=>rfl) (bx (aj (kl fun w hw=> ?_) ?_) ?_)
  ·obtain ⟨n,hn,rfl⟩:=aN.mp hw;exact yc (h.code n hn)
  ·rw [ah];exact aj (Nat.mul_le_mul_left 101 h.few) (by decide)
  ·exact last rfl rfl
noncomputable abbrev Gr:=fg×List bh
noncomputable def dP (p:fg):List (List Nat):=[[114,117,110],f8 p.f,f8 p.o,f8 p.b,f8 p.u]
noncomputable def ka (g:Gr):List (List Nat):=dP g.1++g.2.map word
noncomputable def eu (g:Gr):List Nat:=bk [32] (ka g)
noncomputable def gr:fg->List bh->List bh->List Gr
 | p,cs,[]=>[(p,cs)]
 | p,cs,c::r=>cond (decide ((0:Int)<c.w)) (cond (bw c.p.v p.v) (gr p (cs++[c]) r) ((p,cs)::gr c.p [c] r)) (gr p cs r)
noncomputable def cG:List bh->List Gr
 | []=>[]
 | c::r=>cond (decide ((0:Int)<c.w)) (gr c.p [c] r) (cG r)
noncomputable def grK (cur:Option Gr) (r:List bh):List Gr:=match cur with | none=>cG r | some g=>gr g.1 g.2 r
noncomputable def dh (l:Ln):List Nat:=[108,105,110,101,32]++l.sz++cond l.on [32,111,110] [32,101,110,100,115]
noncomputable def dF (l:Ln):List (List Nat):=dh l::(cG l.cs).map eu
structure B0 (p:fg):Prop where
 f:(p.f:Int)<10 ^ 18
 o:p.o.natAbs<10 ^ 18
 b:p.b.natAbs<10 ^ 18
 u:p.u.natAbs<10 ^ 18
structure fk (c:bh):Prop where
 s:Aq c.s
 p:B0 c.p
theorem du.set {Y Y':be} {a:Addr} {o:O} (x:du Y Y') (h:Y a=none):du Y (Y'.set a o):=fun b o' e=>(be.set_ne Y' o fun r=>by subst r;rw [h] at e;exact bZ e).trans (x b o' e)
theorem du.fz {Y Y':be} (x:du Y Y'):ck Y' Y:=fun b o e=>⟨o,x b o e, .inl rfl⟩
theorem du.none {Y Y':be} {a:Addr} (x:du Y Y') (h:Y' a=none):Y a=none:=by
 cases e:Y a with
 | none=>rfl
 | some o=>rw [x a o e] at h;exact gq h
theorem retE {Q:KV} {Y Y':be} {a:Addr} {l:List V} (x:du Y Y') (h:Y a=none) (h':Y' a=some (.list l)) (q:Q (.lst l) Y):xA Q (.ref a) Y':=qP q x.fz (.inr ⟨a,l,rfl,h',h, .self _ _ l⟩)
theorem gE {Y:be} {F:Addr} {l:List V} {x y:V} {P:be->Prop} (h:Y F=some (.list (l++[x]))) (hl:l.length<16777216) (q:P (Y.set F (.list (l++[y])))):jS (.ref F) (.int (-1)) y Y P:=by
 delta jS;refine bi (bF h) ?_;have hn:(l++[x]).length=l.length+1:=ai;refine bx (by refine bi hn ?_;exact hl) (bg (x:=l.length) ?_ ?_)
 ·delta dk;refine bi (if_neg (by decide)) ?_;refine bi hn ?_;refine bi (if_pos (by lia)) ?_;exact aB some (by lia)
 ·refine bi (List.set_append_right _ _ (av _)) ?_;rw [Nat.sub_self];exact q
structure S26 where
 (Y:be) (W:Addr) (D:List Gr) (cur:Option Gr)
noncomputable def S26.pen (s:S26):V:=match s.cur with | none=> .none | some g=>g.1.v
noncomputable def S26.ws (s:S26):List (List Nat):=match s.cur with | none=>[] | some g=>ka g
noncomputable def S26.fl (l:Ln) (s:S26):List V:=(dh l::(s.D++s.cur.toList).map eu).map .bytes
structure DZ (Y:be) (F:Addr) (l:Ln) (cs:List bh) (s:S26):Prop where
 x:du Y s.Y
 f0:Y F=none
 w0:Y s.W=none
 ne:F≠s.W
 f:s.Y F=some (.list (s.fl l))
 w:s.Y s.W=some (.list (s.ws.map .bytes))
 ok:∀c∈cs,fk c
 eq:s.D++grK s.cur cs=cG l.cs
 n1:s.D.length+cs.length<=10
 n2:s.ws.length+cs.length<=20
 wl:∀w∈s.ws,w.length<=100
section
variable {Y:be} {Q X:KV} {K:KF} {H:bv} {F W:Addr} {r:List DS} {c:bh} {pre:List V} {ws:List (List Nat)} {x:V}
theorem l175 (h28:H 28=some (.ref W)) (h11:H 11=some c.v) (h2:H 2=some (.ref F)) (hF:Y F=some (.list (pre++[x]))) (hW:Y W=some (.list (ws.map .bytes))) (ne:F≠W) (hs:Aq c.s) (hl:ws.length<=20) (hw:∀w∈ws++[word c],w.length<=100) (hp:pre.length<=100) (q:K .next H ((Y.set W (.list ((ws++[word c]).map .bytes))).set F (.list (pre++[.bytes (bk [32] (ws++[word c]))])))):exDs tab (Gm 26) [jY,j0] H Y K X:=by
 refine bg h28 (cD (ce hW) (bg h11 (q25 hs (bg (bF hW) (bx (show (ws.map V.bytes).length<16777216 by rw [ah];exact az hl (ad rfl)) ?_)))));rw [<-bq V.bytes];refine bg h28 (bg (gb (be.set_same _ _ _)) (bg (EM _) (bx (aj (kl hw) (by rw [ai];exact aj (Nat.mul_le_mul_left 101 (aO hl)) (ad rfl))) (bg h2 ?_))));exact gE ((be.set_ne _ _ ne).trans hF) (az hp (ad rfl)) q
theorem l172 (h11:H 11=some c.v) (h2:H 2=some (.ref F)) (hF:Y F=some (.list pre)) (hp:B0 c.p) (hl:pre.length<=100) (q:∀W,Y W=none->exDs tab (Gm 26) r ((H.set 5 c.p.v).set 28 (.ref W)) ((Y.set W (.list ((dP c.p).map .bytes))).set F (.list (pre++[.bytes []]))) K X):exDs tab (Gm 26) (og::nN::n8::r) H Y K X:=by
 have z:∀n∈[(c.p.f:Int),c.p.o,c.p.b,c.p.u],n<10 ^ 20:=fun n hn=>by
  have h1:=hp.f;have h2:=hp.o;have h3:=hp.b;have h4:=hp.u;simp only [au,List.not_mem_nil,or_false] at hn;rcases hn with rfl | rfl | rfl | rfl<;>omega
 refine bg h11 ?_;refine cj (l:=[(c.p.f:Int),c.p.o,c.p.b,c.p.u]) (g:=V.int) (fun v=> .bytes (f8 ((gA v).getD 0))) (ad rfl) (fun U e=>bZ e) (fun D hD n hn acc K K' q=>q22 (z n hn) q) ?_;refine fun W hW=> ?_;have hF':(Y.set W (.list ((dP c.p).map .bytes))) F=some (.list pre):=(be.set_ne _ _ (fun r=>by rw [<-r,hF] at hW;exact gq hW:F≠W)).trans hF;refine bg rfl ?_;exact bg (h2) (cD (ce hF') (bg (bF hF') (bx (az hl (ad rfl)) (q W hW))))
end
theorem DZ.app {Y Jo:be} {F W:Addr} {l:Ln} {c:bh} {cs:List bh} {D:List Gr} {g:Gr} (x:du Y Jo) (f0:Y F=none) (w0:Y W=none) (ne:F≠W) (ok:∀y∈c::cs,fk y) (eq:D++gr g.1 (g.2++[c]) cs=cG l.cs) (n1:D.length+cs.length<=10) (n2:(ka g).length+1+cs.length<=20) (wl:∀w∈ka g,w.length<=100):DZ Y F l cs ⟨(Jo.set W (.list ((ka g++[word c]).map .bytes))).set F (.list ((dh l::D.map eu).map V.bytes++[V.bytes (bk [32] (ka g++[word c]))])),W,D,some (g.1,g.2++[c])⟩:=by
 have eg:ka (g.1,g.2++[c])=ka g++[word c]:=by
  show dP g.1++(g.2++[c]).map word=_
  (rw [bq];refine ak (Eq.symm (aw ..)) ?_);rfl
 refine ⟨(x.set w0).set f0,f0,w0,ne, ?_, ?_,fun y hy=>ok y (.tail _ hy),eq,n1, ?_, ?_⟩
 ·refine (be.set_same _ _ _).trans ?_;show _=some (O.list ((dh l::(D++[(g.1,g.2++[c])]).map eu).map V.bytes));rw [bq eu,<-List.cons_append,bq,eu,eg]
 ·refine (be.set_ne _ _ (aS ne)).trans ((be.set_same _ _ _).trans ?_);show _=some (O.list ((ka (g.1,g.2++[c])).map V.bytes));refine bi eg ?_;rfl
 ·show (ka (g.1,g.2++[c])).length+_<=_;refine bi eg ?_;refine bi ai ?_;exact n2
 ·show ∀w∈ka (g.1,g.2++[c]),_;refine bi eg ?_;exact fun v hv=>(aD.mp hv).elim (wl v) fun h=>ao.mp h▸kD (ok c (.head _)).s
noncomputable abbrev wX (F:Addr) (u v w:V) (s:S26):List (Nat×V):=[(28, .ref s.W),(5,s.pen),(2, .ref F),(27,u),(19,v),(24,w)]
section
variable {Y:be} {X:KV} {F:Addr} {l:Ln} {c:bh} {cs:List bh} {s:S26} {u v w:V} {Q:KF} {W:bv->be->Prop}
theorem Cu {H:bv} {Jo:be} {Ha:Addr} {D:List Gr} {g:Gr} {last:V} (al:gn H [(28, .ref Ha),(5,g.1.v),(2, .ref F),(27,u),(19,v),(24,w)]) (h11:H 11=some c.v) (x:du Y Jo) (f0:Y F=none) (w0:Y Ha=none) (ne:F≠Ha) (f:Jo F=some (.list ((dh l::D.map eu).map V.bytes++[last]))) (fw:Jo Ha=some (.list ((ka g).map .bytes))) (ok:∀y∈c::cs,fk y) (eq:D++gr g.1 (g.2++[c]) cs=cG l.cs) (n1:D.length+cs.length<=10) (n2:(ka g).length+1+cs.length<=20) (wl:∀w∈ka g,w.length<=100) (hW:∀s',DZ Y F l cs s'->W (mk (wX F u v w s')) s'.Y):exDs tab (Gm 26) [jY,j0] H Jo (KL Q none W) X:=
 l175 al.1 h11 al.2.2.1 f fw ne (ok c (.head _)).s (by lia) (fun v hv=>(aD.mp hv).elim (wl v) fun h=>ao.mp h▸kD (ok c (.head _)).s) (by rw [ah,ba,ah];lia)
  (cV (hW _ (.app x f0 w0 ne ok eq n1 n2 wl)) ⟨al.1,al.2.1,al.2.2.1,al.2.2.2.1,al.2.2.2.2.1,al.2.2.2.2.2.1,trivial⟩)
theorem zf {p:fg}:∀w∈dP p,w.length<=100:=fun w hw=>by
 delta dP at hw;simp only [au,List.not_mem_nil,or_false] at hw;rcases hw with h | h | h | h | h<;>subst h
 ·exact ad rfl
 all_goals exact jU _
theorem C5 {H:bv} {Jo:be} {D:List Gr} (K:KF) (h2:H 2=some (.ref F)) (h27:H 27=some u) (h19:H 19=some v) (h24:H 24=some w) (h11:H 11=some c.v) (x:du Y Jo) (f0:Y F=none) (f:Jo F=some (.list ((dh l::D.map eu).map V.bytes))) (ok:∀y∈c::cs,fk y) (eq:D++gr c.p [c] cs=cG l.cs) (n1:D.length+cs.length<=10) (n2:cs.length<=10) (hW:∀s',DZ Y F l cs s'->W (mk (wX F u v w s')) s'.Y) (hK:∀Ji Jo,exDs tab (Gm 26) [jY,j0] Ji Jo (KL Q none W) X->K .next Ji Jo):exDs tab (Gm 26) [og,nN,n8] H Jo K X:=by
 refine l172 h11 h2 f (ok c (.head _)).p (by rw [ah,ba,ah];lia) fun Ha Hu=>hK _ _ ?_;have w0:=x.none Hu;have ne:F≠Ha:=fun r=>by rw [<-r,f] at Hu;exact gq Hu
 exact Cu (g:=(c.p,[])) ⟨rfl,rfl,h2,h27,h19,h24,trivial⟩ h11 ((x.set w0).set f0) f0 w0 ne (be.set_same _ _ _) ((be.set_ne _ _ (aS ne)).trans (be.set_same _ _ _)) ok eq n1 (by show 5+1+cs.length<=20;lia) zf hW
theorem f26 (hs:DZ Y F l (c::cs) s) (hW:∀s',DZ Y F l cs s'->W (mk (wX F u v w s')) s'.Y):exDs tab (Gm 26) CE ((mk (wX F u v w s)).set 11 c.v) s.Y (KL Q none W) X:=by
 have n1:=hs.n1;have n2:=hs.n2;have eq:=hs.eq;have hf:=hs.f;have hw:=hs.w;have hwl:=hs.wl;rw [ba] at n1 n2;delta S26.fl at hf;delta S26.ws at hw n2 hwl;refine cu (b:=decide ((0:Int)<c.w)) (fun h0=> ?_) fun h0=> ?_
 ·cases hc:s.cur with
  | none=>
   have hpen:s.pen= .none:=by delta S26.pen;refine bi hc ?_;rfl
   rw [hc] at eq hf;have eq:s.D++cond (decide ((0:Int)<c.w)) (gr c.p [c] cs) (cG cs)=cG l.cs:=eq;replace eq:=h0▸eq;replace hf:=(show (s.D++(none:Option Gr).toList)=s.D from aE _)▸hf;refine cD (b:=rj s.pen) (by refine bi hpen ?_;rfl) (rq (b:= !(Ah s.pen)) (by refine bi hpen ?_;rfl) (ji ?_));exact C5 _ rfl rfl rfl rfl rfl hs.x hs.f0 hf hs.ok eq (by exact a6 ‹_›) (by lia) hW fun U U h=>h
  | some g=>
   have hpen:s.pen=g.1.v:=by delta S26.pen;refine bi hc ?_;rfl
   have hd:deref s.pen s.Y=g.1.v:=by refine bi hpen ?_;rfl
   rw [hc] at eq hf hw n2 hwl;have eq:s.D++cond (decide ((0:Int)<c.w)) (cond (bw c.p.v g.1.v) (gr g.1 (g.2++[c]) cs) ((g.1,g.2)::gr c.p [c] cs)) (gr g.1 g.2 cs)=cG l.cs:=eq;replace eq:=h0▸eq;refine cD (by refine bi hpen ?_;rfl) (iL (b:= !(Ah s.pen)) (by refine bi hpen ?_;rfl) (cD (by refine bi hd ?_;rfl) ?_));refine cu (b:= !(!(bw c.p.v (deref s.pen s.Y)))) (fun e=>fP ?_) fun e=>ji ?_
   ·rw [Bool.not_not,hd] at e;rw [e] at eq;refine Cu (last:= .bytes (eu g)) (H:=(mk (wX F u v w s)).set 11 c.v) ⟨rfl,aB some hpen,rfl,rfl,rfl,rfl,trivial⟩ rfl hs.x hs.f0 hs.w0 hs.ne ?_ hw hs.ok eq (by exact a6 ‹_›) (by lia) hwl hW
    (refine ak hf ?_;refine bi (show (some g).toList=[g] from rfl) ?_;rw [bq,<-List.cons_append,bq])
   ·rw [Bool.not_not,hd] at e;rw [e] at eq;exact C5 _ rfl rfl rfl rfl rfl hs.x hs.f0 hf hs.ok (by refine ak (aw ..) ?_;exact eq) (by refine bi ai ?_;show s.D.length+1+cs.length<=10;lia) (by lia) hW fun U U h=>h
 ·refine cV (hW s ⟨hs.x,hs.f0,hs.w0,hs.ne,hs.f,hs.w,fun y hy=>hs.ok y (.tail _ hy), ?_,Nat.le_of_succ_le n1,Nat.le_of_succ_le hs.n2,hs.wl⟩) ⟨rfl,rfl,rfl,rfl,rfl,rfl,trivial⟩;refine rt eq ?_
  cases s.cur with
  | none=>show _=s.D++cond (decide ((0:Int)<c.w)) _ _;refine bi h0 ?_;rfl
  | some g=>show _=s.D++cond (decide ((0:Int)<c.w)) _ _;refine bi h0 ?_;rfl
end
theorem q26 {Y:be} {Q X:KV} {P:Pc} {a:Addr} {row:Nat} {l:Ln} (hp:PcOk P) (h:bJ Y a P) (hr:P.ls[row]? =some l) (hs:dH l.sz=some l.sz) (hs':l.sz.length<=50) (hc:∀c∈l.cs,fk c) (q:Q (.lst ((dF l).map .bytes)) Y):bd (Gm 26) 26 [.ref a,bc row] Y Q X:=by
 refine cr fun hn=> ?_;obtain ⟨dx,i⟩:=h;refine hn ⟨rfl, ?_⟩
 have rest:∀w:List Nat,w=cond l.on [32,111,110] [32,101,110,100,115]->exDs tab (Gm 26) (tU::tA::vp::Cw) ((lY EU [.ref a,bc row]).set 27 (.bytes w)) Y (cQ Q) X:=fun w hw=>by
  have hw':w.length<=5:=by subst hw;cases l.on<;>exact ad rfl
  have e1:([108,105,110,101,32]++l.sz).length<=55:=by rw [ai];exact Nat.add_le_add_left hs' 5
  refine ch i rfl (bD (hp.lines _) rfl (bM hr) (bg hs (bx (p:=5+l.sz.length<=16777216) (by lia) ?_)));refine bx (p:=([108,105,110,101,32]++l.sz).length+w.length<=16777216) (by lia) fun F hF=> ?_;refine fun W hW=> ?_;have ne:F≠W:=fun r=>by subst r;rw [be.set_same] at hW;exact gq hW
  have hW0:Y W=none:=(be.set_ne _ _ (aS ne)).symm.trans hW;have x2:=(show du Y (Y.set F (.list [.bytes ([108,105,110,101,32]++l.sz++w)])) from .new hF).set (o:= .list []) hW0;refine ch (⟨x2 _ _ i.1,x2 _ _ i.2⟩:InstAt _ a dx 142 (BB P)) rfl (bD (hp.lines _) rfl (bM hr) ?_);refine vh (wX F (.bytes w) (bc row) (.ref a)) S26.Y (DZ Y F l) (fun s hs=> ?_) (fun c cs s hs W' hW'=> ?_) ⟨_,W,[],none⟩ ⟨x2,hF,hW0,ne, ?_,be.set_same _ _ _,hc,rfl, ?_, ?_,fun U h=>fh h⟩ rfl rfl
  ·refine retE hs.x hs.f0 hs.f ?_;delta S26.fl;rw [(show s.D++s.cur.toList=cG l.cs by rw [<-hs.eq];cases s.cur<;>rfl)];exact q
  ·exact f26 hs hW'
  ·refine (be.set_ne _ _ ne).trans ((be.set_same _ _ _).trans ?_);show some (O.list [V.bytes _])=some (O.list [V.bytes (dh l)]);rw [dh,<-hw]
  ·rw [hp.cs l (aq hr)];exact aj (Nat.add_le_add_left hp.c 0) (by decide)
  ·rw [hp.cs l (aq hr)];exact aj (Nat.add_le_add_left hp.c 0) (by decide)
 refine ch i rfl (bD (hp.lines _) rfl (bM hr) (cu (fun e=> ?_) fun e=> ?_))<;>exact rest _ (by rw [e];rfl)
section
variable {α:Type} {body:bv->be->KF->Prop} {Q:KF} {H:bv} {Y:be} {c:Cd} {i n:Nat} {bl:Bool} {pp:Pos}
theorem ph (ps:α->List (Nat×V)) (S:α->be) (P:Nat->α->Prop) (fin:∀s,P n s->Q .next (mk (ps s)) (S s)) (step:∀k s,k<n->P k s->∀W:bv->be->Prop,(∀s',P (k+1) s'->W (mk (ps s')) (S s'))->body ((mk (ps s)).set i (bc k)) (S s) (KL Q c W)) (m:Nat):∀(k:Nat),k+m=n->∀s,P k s->fZ body (.n bl i pp) c ((List.range' k m).map bc) (mk (ps s)) (S s) Q:=by
 induction m with
 | zero=>exact fun k e s h=>fin s (e▸h)
 | succ m ih=>exact fun k e s h=>step k s (e▸Nat.lt_add_of_pos_right (Nat.succ_pos m)) h _ fun s' h'=>ih (k+1) ((Nat.succ_add_eq_add_succ k m).trans e) s' h'
theorem dE (ps:α->List (Nat×V)) (S:α->be) (P:Nat->α->Prop) (fin:∀s,P n s->Q .next (mk (ps s)) (S s)) (step:∀k s,k<n->P k s->∀W:bv->be->Prop,(∀s',P (k+1) s'->W (mk (ps s')) (S s'))->body ((mk (ps s)).set i (bc k)) (S s) (KL Q c W)) (s:α) (h:P 0 s) (e:H=mk (ps s)) (eS:Y=S s):fZ body (.n bl i pp) c (dl 0 n) H Y Q:=by
 rw [e,eS,d7,List.range_eq_range'];exact ph ps S P fin step n 0 (Nat.zero_add n) s h
end
theorem jb {α:Type} {b:Nat}:∀{l:List (List α)},(∀x∈l,x.length<=b)->l.flatten.length<=b*l.length:=by
 intro zl
 induction zl with
 | nil=>
  exact fun U=>aX _
 | cons x r ih=>
  intro h;refine bi List.flatten_cons ?_;refine bi ai ?_;refine bi ba ?_;rw [Nat.add_comm];exact Nat.add_le_add (ih fun y hy=>h y (.tail _ hy)) (h x (.head _))
theorem En:∀(r:List bh) (p:fg) (cs:List bh),(gr p cs r).length<=r.length+1:=by
 intro zl
 induction zl with
 | nil=>
  exact fun U U=>av _
 | cons c r ih=>
  intro p cs;show (cond _ (cond _ _ _) _:List Gr).length<=_
  cases decide ((0:Int)<c.w)
  ·exact Nat.le_succ_of_le (ih p cs)
  ·cases bw c.p.v p.v
   ·exact aO (ih c.p [c])
   ·exact Nat.le_succ_of_le (ih p (cs++[c]))
theorem BA:∀r:List bh,(cG r).length<=r.length:=by
 intro zl
 induction zl with
 | nil=>
  exact av _
 | cons c r ih=>
  show (cond _ _ _:List Gr).length<=_
  cases decide ((0:Int)<c.w)
  ·exact Nat.le_succ_of_le (ih)
  ·exact En r c.p [c]
theorem DD {R:bh->Prop} {m:Nat}:∀(r:List bh) (p:fg) (cs:List bh),(∀c∈cs,R c)->(∀c∈r,R c)->cs.length+r.length<=m->∀g∈gr p cs r,(∀c∈g.2,R c)/\g.2.length<=m:=by
 intro zl
 induction zl with
 | nil=>
  intro p cs h _ hm g hg
  cases ao.mp hg;exact ⟨h,hm⟩
 | cons c r ih=>
  intro p cs h h' hm g hg;have hr:∀c∈r,R c:=fun y hy=>h' y (.tail _ hy);have hm':cs.length+1+r.length<=m:=by rw [Nat.add_assoc,Nat.add_comm 1];exact hm
  have hg:g∈(cond _ (cond _ _ _) _:List Gr):=hg;revert hg
  cases decide ((0:Int)<c.w)
  ·exact ih p cs h hr (aj (Nat.add_le_add_left (Nat.le_succ _) _) hm) g
  ·cases bw c.p.v p.v
   ·intro hg;rcases au.mp hg with rfl | hg
    ·exact ⟨h,aj (aP _ _) hm⟩
    ·exact ih c.p [c] (fun y hy=>ao.mp hy▸h' c (.head _)) hr (aj (Nat.add_le_add_right (Nat.le_add_left 1 cs.length) _) hm') g hg
   ·exact ih p (cs++[c]) (fun y hy=>(aD.mp hy).elim (h y) fun q=>ao.mp q▸h' c (.head _)) hr (by rw [ai];exact hm') g
theorem A1 {R:bh->Prop} {m:Nat}:∀(r:List bh),(∀c∈r,R c)->r.length<=m->∀g∈cG r,(∀c∈g.2,R c)/\g.2.length<=m:=by
 intro zl
 induction zl with
 | nil=>
  exact fun U U g hg=>fh hg
 | cons c r ih=>
  intro h hm g hg;have hr:∀c∈r,R c:=fun y hy=>h y (.tail _ hy);have hg:g∈(cond _ _ _:List Gr):=hg;revert hg
  cases decide ((0:Int)<c.w)
  ·exact ih hr (Nat.le_of_succ_le hm) g
  ·exact DD r c.p [c] (fun y hy=>ao.mp hy▸h c (.head _)) hr (by rw [Nat.add_comm];exact hm) g
theorem ti {g:Gr} (h:∀c∈g.2,fk c) (hm:g.2.length<=6):(eu g).length<=1200:=by
 refine aj (kl fun w hw=> ?_) (?_:101*(ka g).length<=1200)
 ·rcases aD.mp hw with hw | hw
  ·rcases au.mp hw with rfl | hw
   ·exact ad rfl
   ·have:∃z,w=f8 z:=by
     simp only [au,List.not_mem_nil,or_false] at hw;rcases hw with h | h | h | h<;>exact ⟨_,h⟩
    obtain ⟨z,rfl⟩:=this;exact jU z
  ·refine bu (aN.mp hw) fun c hc y11=> ?_;subst y11;exact kD (h c hc).s
 ·delta ka;rw [ai,ah];show 101*(5+_)<=_;lia
noncomputable def iU (P:Pc):List Nat:=bk [32] [[112,105,99,116,117,114,101],bo P.ls.length,bo P.c]
noncomputable def ow (b:Bool):List Nat:=cond b [115,104,111,119,110] [104,105,100,100,101,110]
noncomputable def jT (P:Pc):List Nat:=bk [32] [[99,117,114,115,111,114],bo P.r0,bo P.c0,ow P.sh]
noncomputable def bj (P:Pc):List (List Nat):=iU P::jT P::(P.ls.map dF).flatten
structure PcP (P:Pc):Prop extends PcOk P where
 r0:P.r0<=6
 c0:P.c0<=6
 sz:∀l∈P.ls,dH l.sz=some l.sz/\l.sz.length<=50
 cp:∀l∈P.ls,∀c∈l.cs,fk c
theorem cZ (n:Nat):(bo n).length<=100:=jU n
theorem eR {P:Pc} (h:PcP P) {l:Ln} (hl:l∈P.ls):(dF l).length<=7/\∀w∈dF l,w.length<=1200:=by
 have hc:=h.cs l hl;refine ⟨?_,fun w hw=> ?_⟩
 ·show ((cG l.cs).map eu).length+1<=7;rw [ah];exact aO (aj (BA _) (hc▸h.c))
 ·rcases au.mp hw with rfl | hw
  ·have:=(h.sz l hl).2;have h2:(cond l.on [32,111,110] [32,101,110,100,115]).length<=5:=by cases l.on<;>exact ad rfl
   delta dh;refine bi ai ?_;refine bi ai ?_;show 5+_+_<=_;lia
  ·refine bu (aN.mp hw) fun g hg y1=> ?_;subst y1;refine fI (A1 (R:=fk) l.cs (h.cp l hl) (hc▸h.c) g hg) fun h1 h2=> ?_;exact ti h1 h2
theorem q27 {Y:be} {Q X:KV} {P:Pc} {a:Addr} (hp:PcP P) (h:bJ Y a P) (q:Q (.bytes (bk [10] (bj P))) Y):bd (Gm 27) 27 [.ref a] Y Q X:=by
 refine dU h fun dx i=> ?_;have small:∀{n:Nat},n<=6->n<10 ^ 20:=fun h=>az h (ad rfl)
 have hfl:∀k,((P.ls.take k).map dF).flatten.length<=21:=fun k=>by
  refine aj (jb (b:=7) fun x hx=> ?_) ?_
  ·obtain ⟨l,hl,rfl⟩:=aN.mp hx;exact (eR hp (List.mem_of_mem_take hl)).1
  ·rw [ah];exact Nat.mul_le_mul_left 7 (aj (List.length_take_le' k _) hp.n)
 have hw3:∀{a b c:List Nat},a.length<=100->b.length<=100->c.length<=100->∀w∈[a,b,c],w.length<=100:=fun h1 h2 h3 w hw=>by
  simp only [au,List.not_mem_nil,or_false] at hw;rcases hw with h | h | h<;>(subst h;assumption)
 have hpic:(iU P).length<=303:=kl (hw3 (ad rfl) (cZ _) (cZ _));have hcur:(jT P).length<=404:=kl fun w hw=>(au.mp hw).elim (fun h=>h▸ad rfl) (hw3 (cZ _) (cZ _) (show (ow P.sh).length<=100 by cases P.sh<;>exact ad rfl) w);refine ⟨rfl,ch i rfl (ch i rfl (EE _ (az hp.n (ad rfl)) (ch i rfl (EE _ (small hp.c) (bx (aj hpic (ad rfl)) fun F hF=> ?_)))))⟩;have at_:∀{l:List V},InstAt (Y.set F (.list l)) a dx 142 (BB P):=⟨du.new hF _ _ i.1,du.new hF _ _ i.2⟩
 have rest:∀w:List Nat,w=ow P.sh->exDs tab (Gm 27) (ut::vz::CW) (((((lY GR [.ref a]).set 19 (bc P.r0)).set 16 (bc P.c0)).set 2 (.ref F)).set 29 (.bytes w)) (Y.set F (.list [.bytes (iU P)])) (cQ Q) X:=fun w hw=>by
  subst hw;refine cD (ce (be.set_same _ _ _)) (EE _ (small hp.r0) (EE _ (small hp.c0) (bx (aj hcur (ad rfl)) (bg (bF (be.set_same _ _ _)) ?_))));refine ch (⟨(be.set_set (Y:=Y)).symm▸at_.1,(be.set_set (Y:=Y)).symm▸at_.2⟩:InstAt _ a dx 142 (BB P)) rfl (bx (p:=((P.ls.length:Int)<=2 ^ 24)) (bb.mpr (bz hp.n rfl)) ?_);refine dE (fun _:Nat=>[(29, .bytes (ow P.sh)),(2, .ref F),(16,bc P.c0),(19,bc P.r0),(24, .ref a)]) (fun k=>Y.set F (.list ((iU P::jT P::((P.ls.take k).map dF).flatten).map .bytes))) (fun k s=>s=k) ?_ ?_ 0 rfl rfl be.set_set
  ·rintro _ rfl
   refine bi List.take_length ?_;refine bg (gb (be.set_same _ _ _)) (bg (EM (bj P)) (bx (p:=(bk [10] (bj P)).length<=16777216) ?_ (D1 hF q)));refine aj (li fun w hw=> ?_) (?_:1201*(bj P).length<=_)
   ·rcases au.mp hw with rfl | hw
    ·exact aj hpic (ad rfl)
    rcases au.mp hw with rfl | hw
    ·exact aj hcur (ad rfl)
    refine bu (List.mem_flatten.mp hw) fun x hx hw=> ?_;refine bu (aN.mp hx) fun l hl y31=> ?_;subst y31;exact ((eR hp hl).2 w hw)
   ·have:=hfl P.ls.length;rw [List.take_length] at this;exact aj (Nat.mul_le_mul_left 1201 (Nat.add_le_add_right this 2)) (ad rfl)
  ·rintro _ k hk rfl W hW
   have hr:=an hk;have hm:=List.getElem_mem hk;refine fI (hp.sz _ hm) fun z1 z2=> ?_;refine (cD (ce (be.set_same _ _ _)) (q26 hp.toPcOk ⟨dx,at_⟩ hr z1 z2 (hp.cp _ hm) (bg (bF (be.set_same _ _ _)) (bx (p:=((iU P::jT P::((P.ls.take k).map dF).flatten).map V.bytes).length+((dF P.ls[k]).map V.bytes).length<=16777216) ?_ ?_))))
   ·rw [ah,ah];exact aj (Nat.add_le_add (Nat.add_le_add_right (hfl k) 2) (eR hp hm).1) (ad rfl)
   ·refine turn (hW (k+1) rfl) ?_ trivial ⟨rfl,rfl,rfl,rfl,rfl,trivial⟩;refine bi be.set_set ?_;refine bi List.take_succ ?_;refine bi hr ?_;refine bi aJ ?_;refine bi List.flatten_append ?_;refine rt aJ ?_;show ck _ (Y.set F (.list ((iU P::jT P::(_++[dF P.ls[k]].flatten)).map .bytes)));refine bi List.flatten_singleton ?_;exact .refl _
 refine ch at_ rfl (cu (fun e=> ?_) fun e=> ?_)<;>exact rest _ (by refine bi e ?_;rfl)
structure xt (p:fg):Prop where
 f:bQ p.f=f8 p.f
 o:cond (decide (p.o= -1)) [45] (bQ p.o)=f8 p.o
 b:cond (decide (p.b= -1)) [45] (bQ p.b)=f8 p.b
 u:cond (decide (p.u= -1)) [45] (bQ p.u)=f8 p.u
theorem eB {T:eT} {Γ:dW} {p p':Pos} {H:bv} {X:KV} {Y:be} {F:Addr} {l:List V} {x:V} {Q:KV} (h:Y F=some (.list (l++[x]))) (hl:l.length<16777216) (q:Q x Y):dO T Γ (.un true (.lit (.int 1) p) p') H Y (fun j Jp=>l6 (.ref F) j Jp Q) X:=by
 show (match cI (.ref F) Y with | some l=>on (gA (.int (-1))) fun i=>gd (decide (l.length<=16777216)) (on (dk i l.length) fun k=>on l[k]? fun x=>Q x Y) | none=>_);refine bi (jw h) ?_;have hn:(l++[x]).length=l.length+1:=ai;refine bx (by refine bi hn ?_;exact hl) (bg (x:=l.length) ?_ (bg ?_ q))
 ·unfold dk;refine bi (if_neg (by decide)) ?_;refine bi hn ?_;refine bi (if_pos (by lia)) ?_;exact aB some (by lia)
 ·exact List.getElem?_concat_length ..
theorem allS (l:List (List Nat)):cz lM (l.map .str)=some l:=by
 have:=eW (f:=lM) (g:=V.str) (h:=id) (l:=l) fun U U=>rfl;rw [List.map_id] at this;exact this
theorem nz {b:Nat}:∀{l:List (List Nat)},(∀w∈l,w.length<=b)->(l.map List.length).sum+l.length*1<=(b+1)*l.length:=by
 intro zl
 induction zl with
 | nil=>
  exact fun U=>aX _
 | cons a r ih=>
  intro h;have h1:=h a (.head _);have h2:=ih fun w hw=>h w (.tail _ hw);rw [aR,List.sum_cons,ba];lia
section
variable {H:bv} {Y:be} {X:KV} {K:KF} {F:Addr} {pre:List V} {c:bh} {x:List Nat}
theorem FG (h2:H 2=some (.ref F)) (h13:H 13=some (bc c.w)) (h56:H 56=some (.str (cP c.s))) (hF:Y F=some (.list (pre++[.str x]))) (hx:x.length<=2000) (hp:pre.length<=1000) (hw:(cP c.s).length<=99) (q:K .next H (Y.set F (.list (pre++[.str (x++[32]++word c)])))):exDs tab (Gm 47) [jc] H Y K X:=by
 have hp':pre.length<16777216:=az hp (ad rfl);refine bg h2 ?_;refine eB hF hp' ?_;refine bx (aj (aO hx) (ad rfl)) (bg h13 ?_);have e1:(x++[32]).length<=2001:=by refine bi ai ?_;exact aO hx
 refine cu (b:=decide ((c.w:Int)=2)) (fun e=> ?_) fun e=> ?_
 ·have e2:(x++[32]++[58]).length<=2002:=by refine bi ai ?_;exact aO e1
  refine bx (aj (aO e1) (ad rfl)) (bg h56 ?_);refine bx (p:=(x++[32]++[58]).length+_<=16777216) (aj (Nat.add_le_add e2 hw) (ad rfl)) (bg h2 ?_);refine gE hF hp' ?_;unfold word at q;replace q:=e▸q;rw [aw (x++[32])];exact q
 ·refine bx (aj e1 (ad rfl)) (bg h56 ?_);refine bx (by rw [aE];exact aj (Nat.add_le_add e1 hw) (ad rfl)) (bg h2 ?_);refine gE hF hp' ?_;unfold word at q;replace q:=e▸q;rw [aE];exact q
theorem l349 (hs:Aq c.s) (h2:H 2=some (.ref F)) (h13:H 13=some (bc c.w)) (h25:H 25=some (.tup (c.s.map bc))) (hF:Y F=some (.list (pre++[.str x]))) (hx:x.length<=2000) (hp:pre.length<=1000) (q:K .next (H.set 56 (.str (cP c.s))) (Y.set F (.list (pre++[.str (x++[32]++word c)])))):exDs tab (Gm 47) [j5,jc] H Y K X:=by
 refine bg h25 (bx (show (c.s.map bc).length<=16777216 by rw [ah];exact bz hs.few rfl) ?_);have hh2:(H.set 56 (.str (cP c.s))) 2=some (.ref F):=h2;have hh13:(H.set 56 (.str (cP c.s))) 13=some (bc c.w):=h13;have hlen:=hs.len;have hcode:=hs.code;have hfew:=hs.few;revert q h25 hh2 hh13 hlen hcode hfew;obtain ⟨s,w,p⟩:=c
 cases s with
 | nil=>exact fun h25 q hh2 hh13 hlen U U=>FG hh2 hh13 rfl hF hx hp hlen q
 | cons y r=>
  intro h25 q hh2 hh13 hlen hcode hfew;refine iL (b:=decide ((0:Int)<(((y::r).map bc).length:Nat))) (aA (Int.natCast_pos.mpr (Nat.succ_pos _))) (bg h25 ?_);refine cj (l:=y::r) (fun v=> .str (Mine.hx (ED v))) (bz hfew rfl) (fun U e=>bZ e) (fun D hD n hn acc K K' q=>q46 (hcode n hn) q) ?_;refine bg (eW fun U U=>rfl) (bx (aj (nz (b:=100) fun w hw=> ?_) ?_) ?_)
  ·obtain ⟨n,hn,rfl⟩:=aN.mp hw;exact yc (hcode n hn)
  ·rw [ah];exact aj (Nat.mul_le_mul_left 101 hfew) (ad rfl)
  ·exact FG hh2 hh13 rfl hF hx hp hlen q
end
theorem ck.of_eq {Y Y':be} (h:Y=Y'):ck Y Y':=h▸ .refl _
noncomputable def D2 (P:Pc):List (Nat×V):=[(49, .bool P.sh),(45, .tup [bc P.r0,bc P.c0]),(35, .lst (P.ls.map fun l=> .bool l.on)),(34, .lst (P.ls.map fun l=> .str l.sz)),(15, .lst (P.ls.map fun l=>bt l.cs)),(32,bc P.c),(31,bc P.ls.length)]
structure xC where
 (D:List Gr) (cur:Option Gr)
noncomputable def xC.pen (s:xC):V:=match s.cur with | none=> .none | some g=>g.1.v
noncomputable def xC.fl (pre:List (List Nat)) (s:xC):List V:=(pre++(s.D++s.cur.toList).map eu).map .str
structure P47 (l:Ln) (r:List V) (s:xC):Prop where
 cs:∃cs:List bh,r=cs.map bh.v/\(∀c∈cs,fk c/\xt c.p)/\s.D++grK s.cur cs=cG l.cs/\s.D.length+cs.length<=10/\cs.length<=6/\∀g,s.cur=some g->g.2.length+cs.length<=6
 ok:∀g,s.cur=some g->∀c∈g.2,fk c
theorem xX (g:Gr) (c:bh):eu (g.1,g.2++[c])=eu g++[32]++word c:=by
 show bk [32] (dP g.1++(g.2++[c]).map word)=_
 (rw [bq];refine ak (Eq.symm (aw ..)) ?_;refine ak (dD [32] (word c) (dP g.1++g.2.map word) (a7 _ _)) ?_);rfl
theorem l347 {H:bv} {Y:be} {X:KV} {K:KF} {F:Addr} {pre:List V} {p:fg} (h2:H 2=some (.ref F)) (h5:H 5=some p.v) (hF:Y F=some (.list pre)) (hp:B0 p) (hl:xt p) (hn:pre.length<=200) (q:K .next (H.set 55 p.v) (Y.set F (.list (pre++[.str (eu (p,[]))])))):exDs tab (Gm 47) [nk,nP] H Y K X:=by
 have lens:∀w∈[bQ p.f,cond (decide (p.o= -1)) [45] (bQ p.o),cond (decide (p.b= -1)) [45] (bQ p.b),cond (decide (p.u= -1)) [45] (bQ p.u)],w.length<=100:=by
  refine bi hl.f ?_;refine bi hl.o ?_;refine bi hl.b ?_;refine bi hl.u ?_;intro w hw;simp only [au,List.not_mem_nil,or_false] at hw;rcases hw with h | h | h | h<;>(subst h;exact jU _)
 have e:V.str (eu (p,[]))= .str ([114,117,110,32]++bk [32] [bQ p.f,cond (decide (p.o= -1)) [45] (bQ p.o),cond (decide (p.b= -1)) [45] (bQ p.b),cond (decide (p.u= -1)) [45] (bQ p.u)]):=by
  refine bi hl.f ?_;refine bi hl.o ?_;refine bi hl.b ?_;refine bi hl.u ?_;rfl
 refine bg h2 (cD (ce hF) ?_);refine cD (b:=CB tab.cls .join (.str [32]) Y) rfl ?_;refine bg h5 ?_;refine bx (Int.ofNat_lt.mp hp.f) ?_;refine bg h5 (q45 hp.o ?_);refine bg h5 (q45 hp.b ?_);refine bg h5 (q45 hp.u ?_);refine bx (aj (nz lens) (ad rfl)) ?_;refine bx (aj (Nat.add_le_add_left (kl lens) 4) (ad rfl)) (bg (bF hF) (bx (az hn (ad rfl)) (bg h5 ?_)));rw [e] at q;exact q
theorem in47 {K:KF} {X:KV} {Y:be} {F:Addr} {P:Pc} {row:Nat} {p1 p2 p3 p4:Pos} (pre:List (List Nat)) (l:Ln) (hc:∀c∈l.cs,fk c/\xt c.p) (hl:l.cs.length<=6) (hpre:pre.length<=100) (q:∀v,K .next (mk ((55,v)::(19,bc row)::(2, .ref F)::D2 P)) (Y.set F (.list ((pre++(cG l.cs).map eu).map .str)))):fZ (fun H' Y' Q'=>exDs tab (Gm 47) CZ H' Y' Q' X) (.t [.n false 25 p1, .n false 13 p2, .n false 5 p3] p4) none (l.cs.map bh.v) (mk ((55, .none)::(19,bc row)::(2, .ref F)::D2 P)) (Y.set F (.list (pre.map .str))) K:=by
 refine eM (fun s:xC=>(55,s.pen)::(19,bc row)::(2, .ref F)::D2 P) (fun s=>Y.set F (.list (s.fl pre))) (P47 l) ?_ ?_ ⟨[],none⟩ ⟨⟨l.cs,rfl,hc,rfl,by refine bi List.length_nil ?_;lia,hl,fun U h=>bZ h⟩,fun U h=>bZ h⟩ rfl (by show _=Y.set F (.list ((pre++[]).map .str));rw [aE])
 ·intro s hs;refine Eb (hs.cs) fun cs e U e2 U=> ?_
  cases cs with
  | cons U z1=>exact B5 e
  | nil=>
   have e3:s.D++s.cur.toList=cG l.cs:=by refine rt e2 ?_;cases s.cur<;>rfl
   delta xC.fl;refine bi e3 ?_;exact q _
 ·intro v r s hs W hW;refine Eb (hs.cs) fun cs e hcs e2 y11=> ?_;refine lL y11 fun n1 n6 n2=> ?_
  cases cs with
  | nil=>exact qm e
  | cons c cs=>
   obtain ⟨rfl,rfl⟩:=List.cons.inj e;obtain ⟨hcp,hpl⟩:=hcs c (.head _);have hcs':∀c∈cs,fk c/\xt c.p:=fun y hy=>hcs y (.tail _ hy);have n1':s.D.length+(cs.length+1)<=10:=n1
   have wpos:decide ((0:Int)<(c.w:Int))= !(decide ((c.w:Int)=0)):=by
    cases c.w with
    | zero=>rfl
    | succ n=>exact (aA (Int.natCast_pos.mpr (Nat.succ_pos n))).trans (aB (!·) (decide_eq_false (show ¬((n+1:Nat):Int)=0 from Int.natCast_ne_zero.mpr (Nat.succ_ne_zero n)))).symm
   have fin:∀(H:bv) (Jo:be) (GV:List Gr) (g:Gr),H 13=some (bc c.w)->H 25=some (.tup (c.s.map bc))->gn H ((55,g.1.v)::(19,bc row)::(2, .ref F)::D2 P)->(∀o,Jo.set F o=Y.set F o)->Jo F=some (.list ((pre++GV.map eu).map .str++[.str (eu g)]))->
     GV++gr g.1 (g.2++[c]) cs=cG l.cs->GV.length+cs.length<=10->g.2.length+1+cs.length<=6->(∀c∈g.2,fk c)->∀K',exDs tab (Gm 47) [j5,jc] H Jo (KL K' none W) X:=by
    intro H Jo GV g h13 h25 al hσ hF hg m1 m2 hok K';refine l349 hcp.s al.2.2.1 h13 h25 hF (aj (ti hok (by lia)) (ad rfl)) (by rw [ah,ai,ah];lia) ?_;refine turn (hW ⟨GV,some (g.1,g.2++[c])⟩ ⟨⟨cs,rfl,hcs',hg,m1,Nat.le_of_succ_le n6,fun g' e=> ?_⟩,fun g' e=> ?_⟩) (.of_eq ((hσ _).trans (aB (fun l=>Y.set F (.list l)) ?_))) trivial (l:=(55,g.1.v)::(19,bc row)::(2, .ref F)::D2 P) al
    ·(replace e:=bW e;subst e);rw [ai];exact m2
    ·(replace e:=bW e;subst e);exact fun y hy=>(aD.mp hy).elim (hok y) fun h=>ao.mp h▸hcp
    ·show _=(pre++(GV++[(g.1,g.2++[c])]).map eu).map V.str;rw [bq,<-aw,bq,xX]
   refine cu (b:=decide ((c.w:Int)=0)) (fun h0=> ?_) fun h0=> ?_
   ·rw [h0] at wpos;refine cV (hW s ⟨⟨cs,rfl,hcs', ?_,by exact a6 ‹_›,Nat.le_of_succ_le n6,fun g e=>Nat.le_of_succ_le (n2 g e)⟩,hs.ok⟩) ⟨rfl,rfl,rfl,rfl,rfl,rfl,rfl,rfl,rfl,rfl,trivial⟩;rw [<-e2]
    cases s.cur with
    | none=>show _=s.D++cond (decide ((0:Int)<c.w)) _ _;rw [wpos];rfl
    | some g=>show _=s.D++cond (decide ((0:Int)<c.w)) _ _;rw [wpos];rfl
   ·rw [h0] at wpos
    have new:∀(K':KF) (GV:List Gr),s.fl pre=(pre++GV.map eu).map .str->GV++gr c.p [c] cs=cG l.cs->GV.length+cs.length<=10->(∀Ji Jo,(∀K',exDs tab (Gm 47) [j5,jc] Ji Jo (KL K' none W) X)->K' .next Ji Jo)->
      exDs tab (Gm 47) [nk,nP] ((((mk ((55,s.pen)::(19,bc row)::(2, .ref F)::D2 P)).set 25 (.tup (c.s.map bc))).set 13 (bc c.w)).set 5 c.p.v) (Y.set F (.list (s.fl pre))) K' X:=by
     intro K' GV hf hg m1 hK;rw [hf];refine l347 rfl rfl (be.set_same _ _ _) hcp.p hpl (aj (show ((pre++GV.map eu).map V.str).length<=110 by rw [ah,ai,ah];lia) (ad rfl)) ?_;refine hK _ _ (fin _ _ GV (c.p,[]) rfl rfl ⟨rfl,rfl,rfl,rfl,rfl,rfl,rfl,rfl,rfl,rfl,trivial⟩ (fun o=>by (refine ak (be.set_set ..) ?_;refine ak (be.set_set ..) ?_;rfl)) (be.set_same _ _ _) hg m1 (by show 0+1+cs.length<=6;rw [Nat.add_comm];exact n6) (fun U h=>fh h))
    cases hc:s.cur with
    | none=>
     have hpen:s.pen= .none:=by delta xC.pen;rw [hc]
     have hd:∀Y,deref s.pen Y= .none:=fun Y=>by rw [hpen];rfl
     rw [hc] at e2;have e2:s.D++cond (decide ((0:Int)<c.w)) (gr c.p [c] cs) (cG cs)=cG l.cs:=e2;rw [wpos] at e2;refine cD (b:=gz c.p.v (deref s.pen (Y.set F (.list (s.fl pre))))) (by rw [hd];rfl) ?_;refine iL (b:= !(bw c.p.v (deref s.pen (Y.set F (.list (s.fl pre)))))) (by rw [hd];rfl) ?_;exact new _ s.D (by delta xC.fl;rw [hc];show (pre++(s.D++[]).map eu).map _=_;rw [aE]) e2 (by exact a6 ‹_›) fun U U h=>h _
    | some g=>
     have hpen:s.pen=g.1.v:=by delta xC.pen;rw [hc]
     have hd:∀Y,deref s.pen Y=g.1.v:=fun Y=>by rw [hpen];rfl
     have hfl:s.fl pre=(pre++s.D.map eu).map .str++[.str (eu g)]:=by
      delta xC.fl;rw [hc];show (pre++(s.D++[g]).map eu).map _=_;rw [bq,<-aw,bq]
     rw [hc] at e2;have e2:s.D++cond (decide ((0:Int)<c.w)) (cond (bw c.p.v g.1.v) (gr g.1 (g.2++[c]) cs) ((g.1,g.2)::gr c.p [c] cs)) (gr g.1 g.2 cs)=cG l.cs:=e2;rw [wpos] at e2;refine cD (b:=gz c.p.v (deref s.pen (Y.set F (.list (s.fl pre))))) (by rw [hd];rfl) ?_;refine cu (b:= !(bw c.p.v (deref s.pen (Y.set F (.list (s.fl pre)))))) (fun e=> ?_) fun e=> ?_
     ·rw [hd,aZ] at e;rw [e] at e2;refine new _ (s.D++[g]) (by delta xC.fl;rw [hc];rfl) (by refine ak (aw ..) ?_;exact e2) (by rw [ai];show s.D.length+1+cs.length<=10;lia) fun U U h=>h _
     ·rw [hd,Bool.not_eq_false'] at e;replace e2:=e▸e2;exact fin _ _ s.D g rfl rfl ⟨aB some hpen,rfl,rfl,rfl,rfl,rfl,rfl,rfl,rfl,rfl,trivial⟩ (fun o=>be.set_set) ((be.set_same _ _ _).trans (by rw [hfl])) e2 (by exact a6 ‹_›) (by have:=n2 g hc;dsimp only [List.length_cons] at this;lia) (hs.ok g hc) _
theorem zu {n:Nat} (h:n<=6):bQ n=bo n:=(by decide+kernel:∀n:Nat,n<7->bQ n=bo n) n (Nat.lt_succ_of_le h)
section
variable {H:bv} {Y:be} {X:KV} {K:KF} {F:Addr} {P:Pc}
theorem bnd {a b c:Nat} (ha:a<=b) (hb:Nat.ble (b+c) 16777216=true):a+c<=16777216:=aj (Nat.add_le_add_right ha c) (ad hb)
theorem FU {a b c d:Nat} (ha:a<=b) (hc:c<=d) (hb:Nat.ble (b+d) 16777216=true):a+c<=16777216:=aj (Nat.add_le_add ha hc) (ad hb)
theorem kX {α:Type} {x y:List α} {a b:Nat} (h:x.length<=a) (h':y.length<=b):(x++y).length<=a+b:=by refine bi ai ?_;exact Nat.add_le_add h h'
theorem two (w a b:List Nat):w++[32]++a++[32]++b=bk [32] [w,a,b]:=by
 show _=w++[32]++(a++[32]++b);simp only [aw]
noncomputable def zn (P:Pc):List Nat:=bk [32] [[99,117,114,115,111,114],bo P.r0,bo P.c0]
theorem l338 {r:List DS} (hp:PcP P) (h31:H 31=some (bc P.ls.length)) (h32:H 32=some (bc P.c)) (h45:H 45=some (.tup [bc P.r0,bc P.c0])) (q:∀F,Y F=none->exDs tab (Gm 47) r (H.set 2 (.ref F)) (Y.set F (.list [.str (iU P), .str (zn P)])) K X):exDs tab (Gm 47) (uS::r) H Y K X:=by
 have L:∀n:Nat,n<=6->(bQ (n:Int)).length<=100:=fun n h=>by rw [zu h];exact cZ n
 have N:∀n:Nat,n<=6->(n:Int).natAbs<10 ^ 18:=fun n h=>az h (ad rfl);have hn:P.ls.length<=6:=aj hp.n (by decide);refine bg h31 ?_;refine bx (N _ hn) ?_;refine bx (mP (L P.ls.length hn) rfl) ?_;have a1:=kX (x:=[112,105,99,116,117,114,101,32]) (av 8) (L P.ls.length hn);refine bx (bnd a1 rfl) ?_;refine bg h32 ?_;refine bx (N _ hp.c) ?_;refine bx (FU (kX a1 (av 1)) (L P.c hp.c) rfl) ?_;refine bg h45 ?_;refine bx (N _ hp.r0) ?_;refine bx (mP (L P.r0 hp.r0) rfl) ?_;have a2:=kX (x:=[99,117,114,115,111,114,32]) (av 7) (L P.r0 hp.r0);refine bx (bnd a2 rfl) ?_;refine bg h45 ?_;refine bx (N _ hp.c0) ?_;refine bx (FU (kX a2 (av 1)) (L P.c0 hp.c0) rfl) ?_;intro F hF;have q:=q F hF;rw [<-(show [112,105,99,116,117,114,101,32]++bQ P.ls.length++[32]++bQ P.c=iU P by rw [zu hn,zu hp.c];exact two [112,105,99,116,117,114,101] _ _),<-(show [99,117,114,115,111,114,32]++bQ P.r0++[32]++bQ P.c0=zn P by rw [zu hp.r0,zu hp.c0];exact two [99,117,114,115,111,114] _ _)] at q;exact q
theorem dq {T:eT} {Γ:dW} {p:Pos} {Q:KV} {l:List V} {k:Nat} {x:V} (h:Y F=some (.list l)) (hl:l.length<=16777216) (hx:l[k]? =some x) (q:Q x Y):dO T Γ (.lit (.int k) p) H Y (fun j Jp=>l6 (.ref F) j Jp Q) X:=by
 show (match cI (.ref F) Y with | some l=>on (gA (.int k)) fun i=>gd (decide (l.length<=16777216)) (on (dk i l.length) fun k=>on l[k]? fun x=>Q x Y) | none=>_);refine bi (jw h) ?_;exact bD hl rfl hx q
theorem iD {l:List V} {k:Nat} {y:V} {P:be->Prop} (h:Y F=some (.list l)) (hl:l.length<=16777216) (hk:k<l.length) (q:P (Y.set F (.list (l.set k y)))):jS (.ref F) (.int k) y Y P:=by
 delta jS;rw [bF h];refine bx hl (bg (x:=k) ?_ q);delta dk;rw [if_pos (Int.natCast_nonneg k),Int.toNat_natCast,if_pos hk]
theorem l339 {r:List DS} {a:V} {x:List Nat} {b:Bool} (h2:H 2=some (.ref F)) (h49:H 49=some (.bool b)) (hF:Y F=some (.list [a, .str x])) (hx:x.length<=1000) (q:exDs tab (Gm 47) r H (Y.set F (.list [a, .str (x++[32]++ow b)])) K X):exDs tab (Gm 47) (ub::r) H Y K X:=by
 refine bg h2 ?_;refine dq hF (ad rfl) rfl ?_;refine bg h49 ?_;rw [aw] at q;refine cu (fun e=> ?_) fun e=> ?_<;>subst e<;>refine bx (bnd hx rfl) (bg h2 ?_)<;>exact iD hF (ad rfl) (ad rfl) q
theorem l341 {r:List DS} {l:Ln} {row:Nat} {pre:List V} (hp:PcP P) (hr:P.ls[row]? =some l) (h2:H 2=some (.ref F)) (h34:H 34=some (.lst (P.ls.map fun l=> .str l.sz))) (h35:H 35=some (.lst (P.ls.map fun l=> .bool l.on))) (h19:H 19=some (bc row)) (hF:Y F=some (.list pre)) (hn:pre.length<=100) (q:exDs tab (Gm 47) r H (Y.set F (.list (pre++[.str (dh l)]))) K X):exDs tab (Gm 47) (ui::r) H Y K X:=by
 have hz:=(hp.sz l (aq hr)).2;refine bg h2 (cD (ce hF) ?_);refine bg h34 ?_;refine bg h19 ?_;refine bD (hp.lines _) rfl (bM hr) ?_;refine bx (aj (Nat.add_le_add_left hz 5) (ad rfl)) ?_;refine bg h35 ?_;refine bg h19 ?_;refine bD (hp.lines _) rfl (bM hr) ?_;have a1:=kX (x:=[108,105,110,101,32]) (av 5) hz;delta dh at q;refine cu (fun e=> ?_) fun e=> ?_<;>rw [e] at q<;>refine bx (bnd a1 rfl) (bg (bF hF) (bx (az hn (ad rfl)) q))
theorem mt {α β:Type} {f:α->List β} {ls:List α} {k:Nat} {l:α} (hr:ls[k]? =some l):((ls.take (k+1)).map f).flatten=((ls.take k).map f).flatten++f l:=by
 (refine bi List.take_succ ?_;refine bi hr ?_;refine bi aJ ?_;refine ak (List.flatten_append ..) ?_)
 exact aB (_++ ·) List.flatten_singleton
structure PcL (P:Pc):Prop extends PcP P where
 pl:∀l∈P.ls,∀c∈l.cs,xt c.p
theorem q47 {Q:KV} (hp:PcL P) (q:Q (.lst ((bj P).map .str)) Y):bd (Gm 47) 47 [bc P.ls.length,bc P.c, .lst (P.ls.map fun l=>bt l.cs), .lst (P.ls.map fun l=> .str l.sz), .lst (P.ls.map fun l=> .bool l.on), .tup [bc P.r0,bc P.c0], .bool P.sh] Y Q X:=by
 have hfl:∀k,((P.ls.take k).map dF).flatten.length<=21:=fun k=>by
  refine aj (jb (b:=7) fun x hx=> ?_) ?_
  ·obtain ⟨l,hl,rfl⟩:=aN.mp hx;exact (eR hp.toPcP (List.mem_of_mem_take hl)).1
  ·rw [ah];exact Nat.mul_le_mul_left 7 (aj (List.length_take_le' k _) hp.n)
 refine ⟨rfl,l338 hp.toPcP rfl rfl rfl fun F hF=>l339 rfl rfl (be.set_same _ _ _) ?_ ?_⟩
 ·refine aj (kl fun w hw=> ?_) (ad rfl:101*3<=1000);simp only [au,List.not_mem_nil,or_false] at hw;rcases hw with h | h | h<;>subst h
  ·exact ad rfl
  ·exact cZ _
  ·exact cZ _
 refine bi be.set_set ?_;refine bi (show zn P++[32]++ow P.sh=jT P from (dD [32] _ [[99,117,114,115,111,114],bo P.r0,bo P.c0] (a7 _ _)).symm) ?_;refine bx (p:=((P.ls.length:Int)<=2 ^ 24)) (bb.mpr (bz hp.n rfl)) ?_;refine dE (fun _:Nat=>(2, .ref F)::D2 P) (fun k=>Y.set F (.list ((iU P::jT P::((P.ls.take k).map dF).flatten).map .str))) (fun k s=>s=k) ?_ ?_ 0 rfl rfl rfl
 ·rintro _ rfl
  refine bi List.take_length ?_;exact yN hF q
 ·rintro _ k hk rfl W hW
  have hr:=an hk;have hm:=List.getElem_mem hk;have hpre:(iU P::jT P::((P.ls.take k).map dF).flatten).length<=23:=Nat.add_le_add_right (hfl k) 2;refine l341 hp.toPcP hr rfl rfl rfl rfl (be.set_same _ _ _) (by rw [ah];exact aj hpre (ad rfl)) ?_;refine bi be.set_set ?_;rw [<-bq V.str];refine bD (hp.lines _) rfl (bM hr) ?_;refine in47 (F:=F) (P:=P) _ P.ls[k] (fun c hc=>⟨hp.cp _ hm c hc,hp.pl _ hm c hc⟩) (hp.cs _ hm▸hp.c) (by refine bi ai ?_;exact aj (Nat.add_le_add_right hpre 1) (ad rfl)) fun v=> ?_;refine turn (hW (k+1) rfl) ?_ trivial ⟨rfl,rfl,rfl,rfl,rfl,rfl,rfl,rfl,trivial⟩;refine bi (mt hr) ?_;rw [aw];exact .refl _
end
noncomputable def rdF (R:List (List Nat)) (n:Nat):List (Nat×V):=[(31, .lst (R.map .bytes)),(50,bc n)]
structure Rd (Y:be) (a dx:Addr) (R:List (List Nat)) (n:Nat):Prop where
 at_:InstAt Y a dx 319 (rdF R n)
 ne:a≠dx
 few:R.length<=1000
noncomputable def adv (Y:be) (dx:Addr) (R:List (List Nat)) (n:Nat):be:=Y.set dx (.idict (rdF R n))
theorem Rd.adv {Y:be} {a dx:Addr} {R:List (List Nat)} {n m:Nat} (h:Rd Y a dx R n):Rd (adv Y dx R m) a dx R m:=⟨⟨(be.set_ne _ _ h.ne).trans h.at_.1,be.set_same _ _ _⟩,h.ne,h.few⟩
noncomputable def Kp (dx:Addr) (Y Y':be):Prop:=∀b o,b≠dx->oL o=none->Y b=some o->Y' b=some o
noncomputable def qi (Y Y':be):Prop:=∀b o,oL o=none->Y b=some o->Y' b=some o
theorem Kp.trans {dx:Addr} {Jo Jp Jq:be} (a:Kp dx Jo Jp) (b:Kp dx Jp Jq):Kp dx Jo Jq:=fun x o h1 h2 h3=>b x o h1 h2 (a x o h1 h2 h3)
theorem Kp.adv {Y:be} {dx:Addr} {R:List (List Nat)} {n:Nat}:Kp dx Y (Mine.adv Y dx R n):=fun b o h1 U h3=>(be.set_ne _ _ h1).trans h3
theorem Kp.new {Y:be} {dx D:Addr} {o:O} (h:Y D=none):Kp dx Y (Y.set D o):=fun b o U U h3=>du.new h b o h3
theorem Kp.list {Y:be} {dx D:Addr} {l l':List V} (h:Y D=some (.list l)):Kp dx Y (Y.set D (.list l')):=fun b o U h2 h3=>(be.set_ne _ _ fun r=>by rw [r,h] at h3;(replace h3:=bW h3;subst h3);exact gq h2).trans h3
theorem qi.ext {Y Y':be} (x:du Y Y'):qi Y Y':=fun b o U h=>x b o h
theorem qi.of {Jn Y Y':be} {dx:Addr} (x:du Jn Y) (k:Kp dx Y Y') (hd:Jn dx=none):qi Jn Y':=fun b o h1 h2=>k b o (fun r=>by rw [r,hd] at h2;exact bZ h2) h1 (x b o h2)
noncomputable def cv (R:List (List Nat)) (n:Nat):List (List Nat):=match R[n]? with | some r=>bn 32 r | none=>[]
section
variable {Y:be} {Q X:KV} {a dx:Addr} {R:List (List Nat)} {n:Nat}
theorem q28 {t:List Nat} (ht:t.length<16777216) (hf:(bn 10 t).length<=1000) (q:∀a dx Y',Y dx=none->Rd Y' a dx (bn 10 t) 0->du Y Y'->Q (.ref a) Y'):bd (Gm 28) 28 [.bytes t] Y Q X:=by
 refine ⟨rfl,fun a dx ha hd ne=> ?_⟩;have m:=pg.start (Y:=Y) (C:=319) ne;refine bx ht (D3 m rfl fun Jp m=> ?_);refine D3 m rfl fun Jq m=> ?_;exact bR ⟨rfl,q a dx Jq hd ⟨m.at_,ne,hf⟩ (m.ext ha hd)⟩
theorem kM (h:Rd Y a dx R n):(R.map V.bytes).length<=16777216:=by rw [ah];exact bz h.few rfl
theorem q29 (h:Rd Y a dx R n) (hr:∀r∈R,r.length<=10000) (q:Q (.lst ((cv R n).map .bytes)) (adv Y dx R (n+1))):bd (Gm 29) 29 [.ref a] Y Q X:=by
 have h':=h.adv (m:=n+1);have hl:=kM h;refine ⟨rfl,ch h.at_ rfl (bg (eh h.at_) (bx (p:=2<=100) (by decide) ?_))⟩;refine ch h'.at_ rfl (ch h'.at_ rfl (bx hl ?_));unfold cv at q;refine EA (p:=((n:Int)+1<=((R.map V.bytes).length:Nat))) (fun e=> ?_) fun e=> ?_
 ·rw [ah] at e;have e:n<R.length:=bb.mp e;have hx:=an e;rw [hx] at q;refine ch h'.at_ rfl (ch h'.at_ rfl (bD hl (Int.add_sub_cancel (n:Int) 1) (bM hx) (cD rfl ?_)));refine bx (az (hr _ (List.getElem_mem e)) (ad rfl)) (bR q)
 ·rw [ah] at e;rw [List.getElem?_eq_none (Nat.le_of_not_lt (fun r=>e (bb.mpr r):¬n<R.length))] at q;exact bR q
noncomputable def gL (R:List (List Nat)) (n:Nat):List Nat:=match cv R n with | w::U=>w | []=>[]
theorem kR (c:Nat):∀l,∃w ws,bn c l=w::ws:=by
 intro zl
 induction zl with
 | nil=>
  exact ⟨_,_,rfl⟩
 | cons x r ih=>
  refine oo (ih) fun w ws e=> ?_
  by_cases h:x=c
  ·exact ⟨[],bn c r,if_pos h⟩
  ·refine ⟨x::w,ws,(if_neg h).trans ?_⟩;refine bi e ?_;rfl
theorem fO (c:Nat):∀l,(bn c l).length<=l.length+1:=by
 intro zl
 induction zl with
 | nil=>
  exact av _
 | cons x r ihz=>
  have ih:=ihz;refine oo (kR c r) fun w ws e=> ?_;show (if x=c then _ else _:List (List Nat)).length<=_;rw [e] at ih ⊢
  by_cases h:x=c
  ·refine bi (if_pos h) ?_;exact aO ih
  ·refine bi (if_neg h) ?_;exact Nat.le_succ_of_le ih
theorem q30 (h:Rd Y a dx R n) (hr:∀r∈R,r.length<=10000) (q:Q (.bytes (gL R n)) Y):bd (Gm 30) 30 [.ref a] Y Q X:=by
 have hl:=kM h;unfold gL cv at q;refine ⟨rfl,ch h.at_ rfl (ch h.at_ rfl (bx hl (EA (p:=((n:Int)<((R.map V.bytes).length:Nat))) (fun e=> ?_) fun e=> ?_)))⟩
 ·rw [ah] at e;have e:=Int.ofNat_lt.mp e;have hx:=an e;rw [hx] at q;refine ch h.at_ rfl (ch h.at_ rfl (bD hl rfl (bM hx) (cD rfl ?_)));have hz:=hr _ (List.getElem_mem e);refine bx (az hz (ad rfl)) ?_;have hz2:=fO 32 R[n];refine cr fun hn=> ?_;obtain ⟨w,ws,e2⟩:=kR 32 R[n];refine hn ?_;dsimp only at q;rw [e2] at q hz2 ⊢;refine bD ?_ rfl rfl (bR q);rw [ah];exact aj hz2 (aj (aO hz) (ad rfl))
 ·rw [ah] at e;rw [List.getElem?_eq_none (Nat.le_of_not_lt (fun r=>e (Int.ofNat_lt.mpr r):¬n<R.length))] at q;exact bR q
theorem lR {v:V} (q:Q .none Y):bd (Gm 31) 31 [v, .bool true] Y Q X:=⟨rfl,bR q⟩
theorem qB (h:Rd Y a dx R n) (q:X (bc n) Y):bd (Gm 31) 31 [.ref a, .bool false] Y Q X:=⟨rfl,ch h.at_ rfl q⟩
end
theorem dec6 {n:Nat} (h:n<=6):bo n=[48+n]/\iN 0 [48+n]=n:=(by decide+kernel:∀n:Nat,n<7->bo n=[48+n]/\iN 0 [48+n]=n) n (Nat.lt_succ_of_le h)
section
variable {Y:be} {Q X:KV} {a dx:Addr} {R:List (List Nat)} {n:Nat}
theorem Fm {m:Nat} (h:m<=6) (q:Q (bc m) Y):bd (Gm 23) 23 [.bytes (bo m)] Y Q X:=by
 obtain ⟨e1,e2⟩:=dec6 h;refine q23 (n:=m) ?_ ?_ (cZ m) (az h (ad rfl)) ?_ ?_
 ·rw [e1];exact a7 _ _
 ·rw [e1];intro x hx;cases ao.mp hx;lia
 ·rw [e1,e2]
 ·unfold wy;rw [a9];exact q
theorem x6 (l:List (List Nat)):hN (l.map .bytes)=true:=by
 unfold hN;refine bi List.all_map ?_;exact aG.mpr fun U U=>rfl
theorem yv (l l':List (List Nat)):gz (.lst (l.map .bytes)) (.lst (l'.map .bytes))=true:=by
 unfold gz okB;have h:∀l:List (List Nat),(jf (.lst (l.map V.bytes))).any hN=true:=x6;rw [h,h];exact aY.mpr (.inr rfl)
theorem Dm:∀l l':List (List Nat),eqVs (l.map .bytes) (l'.map .bytes)=(l==l')
 | [],[]=>rfl
 | [],U::z1=>rfl
 | U::z1,[]=>rfl
 | x::l,y::r=>by
  show (x==y && eqVs (l.map .bytes) (r.map .bytes))=(x==y && l==r);refine bi (Dm l r) ?_;rfl
theorem q32 {r w:List Nat} {i j:Nat} {more:List (List Nat)} (h:Rd Y a dx R n) (hr:∀r∈R,r.length<=10000) (e:R[n]? =some r) (es:bn 32 r=w::bo i::bo j::more) (hi:i<=6) (hj:j<=6) (q:Q (.tup [bc i,bc j, .lst (more.map .bytes)]) (adv Y dx R (n+1))):bd (Gm 32) 32 [.ref a, .bytes w] Y Q X:=by
 have h':=h.adv (m:=n+1)
 have hl:(w::bo i::bo j::more).length<=20000:=by
  refine rt es ?_;exact aj (fO 32 r) (aj (aO (hr r (aq e))) (ad rfl))
 have hl':((w::bo i::bo j::more).map V.bytes).length<=16777216:=by rw [ah];exact bz hl rfl
 refine ⟨rfl,bm h.at_ rfl (q29 h hr ?_)⟩;refine bi (show cv R n=w::bo i::bo j::more by unfold cv;rw [e];exact es) ?_;refine bm h'.at_ rfl (bx hl' ?_);refine iL (b:=decide ((3:Int)<=_)) (aA (bb.mpr (show 3<=((w::bo i::bo j::more).map V.bytes).length from by rw [ah];exact Nat.le_add_left 3 more.length))) ?_;refine bD hl' rfl rfl (cD rfl ?_);refine iL (a9 _) (lR ?_);refine bD hl' rfl rfl (Fm hi ?_);refine bD hl' rfl rfl (Fm hj ?_);refine bm h'.at_ rfl (lR ?_);have hm:(more.map V.bytes).length<=16777216:=by rw [ah];exact bz (aj (aP _ 3) hl) rfl
 refine bx hl' (bx hm (bR q))
end
noncomputable def nH:List Nat:=[0,1,2,4,32,128,200,256,257,512,1568,16843267]
theorem FE:∀n∈nH,bo n≠[]/\(∀x∈bo n,48<=x/\x<=57)/\iN 0 (bo n)=n/\n<10 ^ 18/\(bo n==48::bo n)=false/\bQ n=bo n:=by decide+kernel
noncomputable def lK (z:Int):Prop:=z= -1\/∃n∈nH,z=natV' n
 where natV' (n:Nat):Int:=n
section
variable {Y:be} {Q X:KV}
theorem q24z {z:Int} (h:lK z) (q:Q (.int z) Y):bd (Gm 24) 24 [.bytes (f8 z)] Y Q X:=by
 rcases h with rfl | ⟨n,h,rfl⟩
 ·exact q24m q
 ·refine cr fun hn=> ?_;have zz:=FE n h;refine hn (q24 (bs:=bo n) (zz.1) (zz.2.1) (cZ n) (Nat.lt_trans (zz.2.2.2.1) (ad rfl)) (zz.2.2.1) ?_);unfold wy;rw [a9];exact q
theorem q24n {n:Nat} (h:n∈nH) (q:Q .none Y):bd (Gm 24) 24 [.bytes (48::bo n)] Y Q X:=by
 refine cr fun hn=> ?_;have zz:=FE n h;refine hn (q24 (a7 _ _) (fun x hx=> ?_) (aO ?_) (Nat.lt_trans (zz.2.2.2.1) (ad rfl)) (zz.2.2.1) ?_)
 ·rcases au.mp hx with rfl | hx
  ·exact ⟨av _,by decide⟩
  ·exact (zz.2.1) x hx
 ·show (dg 20 (n / 10)++[48+n % 10]).length<=99;rw [ai];exact aj (aO (qR 20 _)) (ad rfl)
 ·unfold wy;rw [(zz.2.2.2.2.1)];exact q
noncomputable def Bv:List (List Nat):=[[],[97],[98],[99],[97,769],[98,769],[99,769],[19968],[19969],[19970],[32]]
theorem sgF:∀s∈Bv,(cP s).length<=99/\((cP s).take 1==[58])=false/\(cP s==[95])=s.isEmpty/\(s≠[]->bn 43 (cP s)=s.map hx)/\(∀n∈s,(n=97\/n=98\/n=99\/n=32\/n=769\/n=19968\/n=19969\/n=19970)/\p9 0 (hx n)=some (n:Int)/\∀x∈hx n,x<256)/\s.length<=2/\bn 32 (cP s)=[cP s]:=by decide+kernel
theorem anyN (s:List Nat):(s.map bc).any (bw · .none)=false:=by
 refine bi List.any_map ?_;exact List.any_eq_false.mpr fun x hx h=>cR h
theorem okN (s:List Nat):(s.map bc).all (gz · .none)=true:=by
 refine bi List.all_map ?_;exact aG.mpr fun x hx=>rfl
theorem um (c:bh):iu (oq c) 8=true:=by
 unfold oq
 cases decide ((c.w:Int)=0) with
 | true=>rfl
 | false=>
  show (iu (cond (blk c.s) (V.tup []) (V.tup (c.s.map bc))) 7 && true)=true
  cases blk c.s with
  | true=>rfl
  | false=>show (okVs (c.s.map bc) 6 && true)=true;rw [cX];rfl
noncomputable def yF (v:V):V:= .int (((fv v).bind (p9 0)).getD 0)
noncomputable def tail0:bh:=⟨[],0,nrm⟩
theorem F8 {H:bv} {s:List Nat} {K:KF} {X:KV} {r:List DS} (hs:s∈Bv) (h:H 25=some (.bytes (cP s))) (q:exDs tab (Gm 33) r (H.set 12 (.tup (s.map bc))) Y K X):exDs tab (Gm 33) (uE::r) H Y K X:=by
 refine Dg (sgF s hs) fun h1 h2 h3 h4 y1=> ?_;refine lL y1 fun h5 h6 U=> ?_;refine (bg h (cD (b:=gz (.bytes (cP s)) (.bytes [95])) rfl ?_));refine cu (b:=cP s==[95]) (fun e=> ?_) fun e=> ?_
 ·rw [h3] at e
  cases s with
  | nil=>exact q
  | cons y r'=>exact cR e
 ·have ne:s≠[]:=fun r=>by subst r;exact lN e
  refine bg h (cD rfl (bx (az h1 (ad rfl)) ?_));have e:(bn 43 (cP s)).map V.bytes=s.map fun n=> .bytes (hx n):=by rw [h4 ne,List.map_map];rfl
  rw [e];refine cj yF (bz h6 rfl) (fun U e=>bZ e) (fun D hD n hn acc K K' q=> ?_) ?_
  ·refine lL (h5 n hn) fun c1 c2 c3=> ?_;refine q21 c1 rfl c2 c3 ?_;have:yF (.bytes (hx n))=bc n:=by show V.int ((p9 0 (hx n)).getD 0)=_;rw [c2];rfl
   rw [this] at q;exact q
  ·have e2:s.map (fun n=>yF (.bytes (hx n)))=s.map bc:=List.map_congr_left fun n hn=>by
    show V.int ((p9 0 (hx n)).getD 0)=_;rw [(h5 n hn).2.1];rfl
   rw [e2];exact bx (by rw [ah];exact bz h6 rfl) q
end
section
variable {Y:be} {X:KV} {K:KF} {H:bv} {a dx D:Addr} {R:List (List Nat)} {n:Nat} {c:bh} {acc:List V} {r:List DS} {w:List Nat}
theorem Gs (hr:Rd Y a dx R n) (h70:H 70=some (.ref a)) (h12:H 12=some (.tup (c.s.map bc))) (q:exDs tab (Gm 33) r H Y K X):exDs tab (Gm 33) (uQ::r) H Y K X:=by
 have e:fl true ((c.s.map bc).any (bw · .none))=true:=by rw [anyN];rfl
 refine bg h70 (bm hr.at_ rfl (bg h12 (cD (okN _) ?_)));rw [e];exact lR q
theorem Fj (h5:H 5=some c.p.v) (h51:H 51=some (.bool (decide ((c.w:Int)=2)))) (h12:H 12=some (.tup (c.s.map bc))) (hw:c.w=1\/c.w=2) (q:exDs tab (Gm 33) r (H.set 11 c.v) Y K X):exDs tab (Gm 33) (vJ::r) H Y K X:=by
 refine bg h12 (bg h51 ?_);rcases hw with e | e
 ·refine rq (b:=decide ((c.w:Int)=2)) (by refine bi e ?_;rfl) (bg h5 ?_);unfold bh.v at q;rw [e] at q;exact q
 ·refine iL (b:=decide ((c.w:Int)=2)) (by refine bi e ?_;rfl) (bg h5 ?_);unfold bh.v at q;rw [e] at q;exact q
theorem sA:deref (oq c) Y=oq c:=by unfold oq;cases decide ((c.w:Int)=0)<;>rfl
theorem ES (hr:Rd Y a dx R n) (h70:H 70=some (.ref a)) (h11:H 11=some c.v) (e:bw (oq c) c.v=false) (q:X (bc n) Y):exDs tab (Gm 33) (mX::r) H Y K X:=by
 refine bg h70 (bm hr.at_ rfl (bg h11 ?_));refine q03 c (bg h11 (cD (b:=gz (deref (oq c) Y) c.v) ?_ ?_))
 ·rw [sA];exact bY (um c) (dI c 6)
 ·have e:fl false (bw (deref (oq c) Y) (deref c.v Y))=false:=by refine bi sA ?_;exact e
  refine bi e ?_;exact qB hr q
theorem l232 (hr:Rd Y a dx R n) (h70:H 70=some (.ref a)) (h11:H 11=some c.v) (e:bw (oq c) c.v=true) (q:exDs tab (Gm 33) r H Y K X):exDs tab (Gm 33) (mX::r) H Y K X:=by
 refine bg h70 (bm hr.at_ rfl (bg h11 ?_));refine q03 c (bg h11 (cD (b:=gz (deref (oq c) Y) c.v) ?_ ?_))
 ·rw [sA];exact bY (um c) (dI c 6)
 ·have e:fl false (bw (deref (oq c) Y) (deref c.v Y))=true:=by refine bi sA ?_;exact e
  refine bi e ?_;exact lR q
end
noncomputable def dK (c:bh):List bh:=cond (decide ((c.w:Int)=2)) [c,tail0] [c]
noncomputable def bV (cs:List bh):List bh:=(cs.map dK).flatten
theorem Rd.list {Y:be} {a dx D:Addr} {R:List (List Nat)} {n:Nat} {l l':List V} (h:Rd Y a dx R n) (hD:Y D=some (.list l)):Rd (Y.set D (.list l')) a dx R n:=
 ⟨⟨(be.set_ne _ _ fun r=>by have:=h.at_.1;rw [r,hD] at this;(replace this:=bW this;cases this)).trans h.at_.1,(be.set_ne _ _ fun r=>by have:=h.at_.2;rw [r,hD] at this;(replace this:=bW this;cases this)).trans h.at_.2⟩,h.ne,h.few⟩
section
variable {Y:be} {X:KV} {K:KF} {H:bv} {a dx D:Addr} {R:List (List Nat)} {n:Nat} {c:bh} {acc:List V} {r:List DS} {w:List Nat}
theorem FL (hs:c.s∈Bv) (h:H 56=some (.bytes (word c))) (q:exDs tab (Gm 33) r (H.set 51 (.bool (decide ((c.w:Int)=2)))) Y K X):exDs tab (Gm 33) (uO::r) H Y K X:=by
 have zz:=sgF c.s hs;have h1:=zz.1
 have hl:(word c).length<=16777216:=by
  unfold word;cases decide ((c.w:Int)=2)
  ·exact aj h1 (ad rfl)
  ·exact aj (aO h1) (ad rfl)
 have e:((word c).take 1==[58])=decide ((c.w:Int)=2):=by
  unfold word;cases decide ((c.w:Int)=2)
  ·exact (zz.2.1)
  ·rfl
 refine bg h (bx hl (cD (b:=gz (.bytes ((word c).take 1)) (.bytes [58])) rfl ?_));rw [<-e] at q;exact q
theorem Gn (hs:c.s∈Bv) (h:H 56=some (.bytes (word c))) (h51:H 51=some (.bool (decide ((c.w:Int)=2)))) (q:exDs tab (Gm 33) r (H.set 25 (.bytes (cP c.s))) Y K X):exDs tab (Gm 33) (tw::r) H Y K X:=by
 have h1:=(sgF c.s hs).1;refine bg h51 (cu (b:=decide ((c.w:Int)=2)) (fun e=>bg h ?_) fun e=>bg h ?_)
 ·unfold word;refine bi e ?_;exact bx (aj (aO h1) (ad rfl)) q
 ·unfold word;refine bi e ?_;exact q
theorem l233 (h15:H 15=some (.ref D)) (h11:H 11=some c.v) (h51:H 51=some (.bool (decide ((c.w:Int)=2)))) (hD:Y D=some (.list acc)) (hl:acc.length<=200) (q:K .next H (Y.set D (.list (acc++(dK c).map bh.v)))):exDs tab (Gm 33) [tR,vG] H Y K X:=by
 refine bg h15 (cD (ce hD) (bg h11 (bg (bF hD) (bx (az hl (ad rfl)) ?_))));refine bg h51 ?_;unfold dK at q;refine cu (b:=decide ((c.w:Int)=2)) (fun e=> ?_) fun e=> ?_
 ·rw [e] at q;refine bg h15 (cD (ce (be.set_same _ _ _)) (bg (bF (be.set_same _ _ _)) (bx ?_ ?_)))
  ·refine bi ai ?_;exact az (Nat.add_le_add_right hl 1) (ad rfl)
  ·refine bi be.set_set ?_;rw [aw];exact q
 ·rw [e] at q;exact q
theorem B6 (hr:Rd Y a dx R n) (hs:c.s∈Bv) (hw:c.w=1\/c.w=2) (hc:bw (oq c) c.v=true) (h70:H 70=some (.ref a)) (h15:H 15=some (.ref D)) (h5:H 5=some c.p.v) (h56:H 56=some (.bytes (word c))) (hD:Y D=some (.list acc)) (hl:acc.length<=200) (q:∀H',(∀n,(Nat.beq n 11 || (Nat.beq n 12 || (Nat.beq n 25 || Nat.beq n 51)))=false->H' n=H n)->K .next H' (Y.set D (.list (acc++(dK c).map bh.v)))):exDs tab (Gm 33) uG H Y K X:=by
 refine FL hs h56 (Gn hs h56 rfl (F8 hs rfl (Gs hr h70 rfl (Fj h5 rfl rfl hw (l232 hr h70 rfl hc (l233 h15 rfl rfl hD hl (q _ ?_)))))));intro n e;refine cr fun hn=> ?_;obtain ⟨e1,e⟩:=aT.mp e;obtain ⟨e2,e⟩:=aT.mp e;obtain ⟨e3,e4⟩:=aT.mp e;refine hn ?_;show cond (Nat.beq n 11) _ (cond (Nat.beq n 12) _ (cond (Nat.beq n 25) _ (cond (Nat.beq n 51) _ (H n))))=_;rw [e1,e2,e3,e4];rfl
theorem Ai (hr:Rd Y a dx R n) (hs:c.s∈Bv) (hw:c.w=1\/c.w=2) (hc:bw (oq c) c.v=false) (h70:H 70=some (.ref a)) (h5:H 5=some c.p.v) (h56:H 56=some (.bytes (word c))) (q:X (bc n) Y):exDs tab (Gm 33) uG H Y K X:=
 FL hs h56 (Gn (c:=c) hs h56 rfl (F8 hs rfl (Gs (c:=c) hr h70 rfl (Fj (c:=c) h5 rfl rfl hw (ES (c:=c) hr h70 rfl hc q)))))
end
theorem be.set_self {Y:be} {a:Addr} {o:O} (h:Y a=some o):Y.set a o=Y:=by
 funext b
 by_cases hb:b=a
 ·subst hb;(refine ak (be.set_same ..) ?_;refine bi h ?_;rfl)
 ·(refine ak (be.set_ne _ _ hb) ?_;rfl)
structure Bs (p:fg):Prop where
 f:p.f∈nH
 o:lK p.o
 b:lK p.b
 u:lK p.u
noncomputable def gi:Option fg->V
 | none=> .none
 | some p=>p.v
noncomputable def gN (b:Bool) (c:bh):Prop:=c.s∈Bv/\(c.w=1\/c.w=2)/\bw (oq c) c.v=b
noncomputable def im (b:List Nat):V:=cond (b==[45]) (.int (-1)) (cond (bo (iN 0 b).toNat==b) (.int (iN 0 b)) .none)
theorem Go:∀n∈nH,((bo n==[45])=false/\(bo (iN 0 (bo n)).toNat==bo n)=true/\iN 0 (bo n)=n)/\((48::bo n==[45])=false/\(bo (iN 0 (48::bo n)).toNat==48::bo n)=false):=by decide+kernel
theorem oQ {z:Int} (h:lK z):im (f8 z)= .int z:=by
 rcases h with rfl | ⟨n,h,rfl⟩
 ·rfl
 ·obtain ⟨⟨h1,h2,h3⟩,U⟩:=Go n h;show im (bo n)= .int n;delta im;refine bi h1 ?_;refine bi h2 ?_;refine bi h3 ?_;rfl
theorem ET {n:Nat} (h:n∈nH):im (48::bo n)= .none:=by
 refine lL (Go n h) fun U h1 h2=> ?_;delta im;refine bi h2 ?_;rfl
noncomputable def NumT (b:List Nat):Prop:=(∃z,lK z/\b=f8 z)\/∃n∈nH,b=48::bo n
section
variable {Y:be} {Q X:KV} {K:KF} {H:bv} {a dx D:Addr} {R:List (List Nat)} {n:Nat} {r:List DS} {p:fg} {w0 b1 b2 b3 b4:List Nat} {ws:List (List Nat)}
theorem EV (h:Rd Y a dx R n) (hr:∀r∈R,r.length<=10000) (h70:H 70=some (.ref a)) (q:exDs tab (Gm 33) r (H.set 28 (.lst ((cv R n).map .bytes))) (adv Y dx R (n+1)) K X):exDs tab (Gm 33) (sX::r) H Y K X:=
 bg h70 (bm h.at_ rfl (q29 h hr q))
theorem GE (h28:H 28=some (.lst ((w0::b1::b2::b3::b4::ws).map .bytes))) (hl:(w0::b1::b2::b3::b4::ws).length<=10001) (hb:∀b∈[b1,b2,b3,b4],NumT b) (q:exDs tab (Gm 33) r (H.set 65 (.lst [im b1,im b2,im b3,im b4])) Y K X):exDs tab (Gm 33) (sv::r) H Y K X:=by
 refine bg h28 (bx (by rw [ah];exact bz hl rfl) ?_);refine cj (l:=[b1,b2,b3,b4]) (fun v=>im ((fv v).getD [])) (ad rfl) (fun U e=>bZ e) (fun D hD b hb' acc K K' q=> ?_) q;rcases hb b hb' with ⟨z,hz,rfl⟩ | ⟨n,hn,rfl⟩
 ·exact q24z hz (oQ hz▸q)
 ·exact q24n hn (ET hn▸q)
theorem FD (h:Rd Y a dx R n) (h70:H 70=some (.ref a)) (h28:H 28=some (.lst ((w0::b1::b2::b3::b4::ws).map .bytes))) (hl:(w0::b1::b2::b3::b4::ws).length<=10001) (ne:ws≠[]) {v:V} (hv:gz v .none=true) (h65:H 65=some (.lst [v, .int p.o, .int p.b, .int p.u])) (qf:bw v .none=true->X (bc n) Y) (q:bw v .none=false->exDs tab (Gm 33) r H Y K X):exDs tab (Gm 33) (vF::r) H Y K X:=by
 refine bg h70 (bm h.at_ rfl (bg h28 (bx (p:=((w0::b1::b2::b3::b4::ws).map V.bytes).length<=16777216) (by rw [ah];exact bz hl rfl) ?_)));refine iL (b:=decide ((5:Int)<((w0::b1::b2::b3::b4::ws).map V.bytes).length)) (aA (Int.ofNat_lt.mpr ?_)) ?_
 ·rw [ah];cases ws with
  | nil=>exact absurd rfl ne
  | cons U r=>exact Nat.le_add_left 6 r.length
 ·refine bg h65 (cD (ay.mpr ⟨hv,rfl⟩) ?_);have e:fl true ([v, .int p.o, .int p.b, .int p.u].any (bw · .none))= !(bw v .none):=aB (!·) (Bool.or_false _);rw [e]
  cases e:bw v .none with
  | true=>exact qB h (qf e)
  | false=>exact lR (q e)
theorem l224 (h65:H 65=some (.lst [.int p.f, .int p.o, .int p.b, .int p.u])) (q:exDs tab (Gm 33) r (H.set 5 p.v) Y K X):exDs tab (Gm 33) (vV::r) H Y K X:=bg h65 (bg h65 (bg h65 (bg h65 q)))
theorem l225 {o:Option fg} (h:Rd Y a dx R n) (h70:H 70=some (.ref a)) (h5:H 5=some p.v) (h55:H 55=some (gi o)) (qf:bw p.v (gi o)=true->X (bc n) Y) (q:bw p.v (gi o)=false->exDs tab (Gm 33) r H Y K X):exDs tab (Gm 33) (vE::r) H Y K X:=by
 have e:deref (gi o) Y=gi o:=by cases o<;>rfl
 refine bg h70 (bm h.at_ rfl (bg h5 (bg h55 (cD (b:=gz p.v (deref (gi o) Y)) (by cases o<;>rfl) ?_))));refine cu (b:= !(bw p.v (deref (gi o) Y))) (fun e'=> ?_) fun e'=> ?_
 ·rw [e] at e';exact bg h5 (lR (q ((aZ _).mp e')))
 ·rw [e] at e';exact qB h (qf ((Bool.not_eq_false' _).mp e'))
theorem BO (c:bh):(dK c).length<=2:=by
 delta dK;cases decide ((c.w:Int)=2)<;>exact ad rfl
structure FY (p:fg) (g:Bool) (fin:List V) (ds:List bh) (s:List V):Prop where
 ok:∀c∈ds,gN true c/\c.p=p\/g=false/\gN false c/\c.p=p
 eq:g=true->s++(bV ds).map bh.v=fin
 bad:g=false->∃c∈ds,gN false c
 le:s.length+2*ds.length<=200
theorem FY.next {p:fg} {g:Bool} {fin s:List V} {c:bh} {ds:List bh} (h:FY p g fin (c::ds) s) (hw:gN true c):FY p g fin ds (s++(dK c).map bh.v):=
 ⟨fun y hy=>h.ok y (.tail _ hy),fun e=>by (refine ak (aw ..) ?_;rw [<-aJ]);exact h.eq e,fun e=>(h.bad e).elim fun y hy=>⟨y,(au.mp hy.1).resolve_left (fun r=>Bool.false_ne_true (hy.2.2.2.symm.trans (r▸hw.2.2))),hy.2⟩,by
  have h1:=h.le;have h2:=BO c;dsimp only [List.length_cons] at h1;rw [ai,ah];lia⟩
theorem DY {pp:Pos} {p:fg} {u v w:V} {g:Bool} {cs:List bh} {acc fin:List V} {Jn:be} (h:Rd Y a dx R n) (kp:Kp dx Jn Y) (hD:Y D=some (.list acc)) (hp:FY p g fin cs acc) (qx:g=false->∀Y',Kp dx Jn Y'->X (bc n) Y') (q:g=true->K .next (mk [(5,p.v),(65,u),(28,v),(55,w),(15, .ref D),(70, .ref a)]) (Y.set D (.list fin))):fZ (fun H' Y' Q'=>exDs tab (Gm 33) uG H' Y' Q' X) (.n false 56 pp) none (cs.map fun c=>V.bytes (word c)) (mk [(5,p.v),(65,u),(28,v),(55,w),(15, .ref D),(70, .ref a)]) Y K:=by
 refine vh (fun _:List V=>[(5,p.v),(65,u),(28,v),(55,w),(15, .ref D),(70, .ref a)]) (fun s=>Y.set D (.list s)) (FY p g fin) (fun s h1=> ?_) (fun c ds s h1 W hW=> ?_) acc hp rfl (be.set_self hD).symm
 ·cases g with
  | false=>exact (h1.bad rfl).elim fun c hc=>nomatch hc.1
  | true=>
   have e:=h1.eq rfl;rw [show (bV []).map bh.v=[] from rfl,aE] at e;refine bi e ?_;exact q rfl
 ·rcases h1.ok c (.head _) with ⟨hw,rfl⟩ | ⟨hg,hw,rfl⟩
  ·refine B6 (h.list hD) hw.1 hw.2.1 hw.2.2 rfl rfl rfl rfl (be.set_same _ _ _) (aj (aP _ _) h1.le) fun H' hρ=> ?_;refine bi be.set_set ?_;exact cV (hW _ (h1.next hw)) ⟨hρ _ rfl,hρ _ rfl,hρ _ rfl,hρ _ rfl,hρ _ rfl,hρ _ rfl,trivial⟩
  ·exact Ai (h.list hD) hw.1 hw.2.1 hw.2.2 rfl rfl rfl (qx hg _ (kp.trans (.list hD)))
theorem q33 {o:Option fg} {cs bs:List bh} {acc:List V} (h:Rd Y a dx R n) (hr:∀r∈R,r.length<=10000) (ew:cv R n=dP p++(cs++bs).map word) (ne:cs++bs≠[]) (hp:Bs p) (hc:∀c∈cs,gN true c/\c.p=p) (hb:∀c∈bs,gN false c/\c.p=p) (hD:Y D=some (.list acc)) (hn:acc.length+2*cs.length<=100) (hbs:bs.length<=10) (qx:bw p.v (gi o)=true\/bs≠[]->∀Y',Kp dx Y Y'->X (bc (n+1)) Y') (q:bw p.v (gi o)=false->bs=[]->Q p.v ((adv Y dx R (n+1)).set D (.list (acc++(bV cs).map bh.v)))):bd (Gm 33) 33 [.ref a, .ref D,gi o] Y Q X:=by
 have h':=h.adv (m:=n+1)
 have hl:(dP p++(cs++bs).map word).length<=10001:=by
  refine rt ew ?_;delta cv
  cases e:R[n]? with
  | none=>exact aX _
  | some x=>exact aj (fO 32 x) (aO (hr x (aq e)))
 refine ⟨rfl,EV h hr rfl ?_⟩;refine bi ew ?_;refine GE (w0:=[114,117,110]) rfl hl (fun b hb=> ?_) ?_
 ·simp only [au,List.not_mem_nil,or_false] at hb;rcases hb with rfl | rfl | rfl | rfl
  ·exact .inl ⟨_, .inr ⟨p.f,hp.f,rfl⟩,rfl⟩
  ·exact .inl ⟨_,hp.o,rfl⟩
  ·exact .inl ⟨_,hp.b,rfl⟩
  ·exact .inl ⟨_,hp.u,rfl⟩
 refine bi (oQ hp.o) ?_;refine bi (oQ hp.b) ?_;refine bi (oQ hp.u) ?_;refine bi (oQ (z:=p.f) (.inr ⟨p.f,hp.f,rfl⟩)) ?_;refine FD h' rfl rfl hl (fun e=>ne (List.map_eq_nil_iff.mp e)) rfl rfl (fun e=>cR e) fun U=> ?_;refine l224 rfl ?_;refine l225 (p:=p) (o:=o) h' rfl rfl rfl (fun e=>qx (.inl e) _ .adv) fun e0=> ?_;refine bx (p:=((dP p++(cs++bs).map word).map V.bytes).length<=16777216) (by rw [ah];exact bz hl rfl) ?_;refine bx (p:=(((cs++bs).map word).map V.bytes).length<=16777216) (by rw [ah];exact bz (aj (Nat.le_add_left _ 5) (by rw [ai] at hl;exact hl)) rfl) ?_;show fZ _ _ none (((cs++bs).map word).map V.bytes) _ _ _;refine bi (List.map_map) ?_;refine DY (g:=bs.isEmpty) (fin:=acc++(bV cs).map bh.v) h' .adv ((be.set_ne _ _ fun r=>by have:=h.at_.2;rw [<-r,hD] at this;(replace this:=bW this;cases this)).trans hD) ⟨fun c hc'=> ?_,fun e=> ?_,fun e=> ?_, ?_⟩ (fun e=>qx (.inr fun r=>by rw [r] at e;exact lN e)) ?_
 ·rcases aD.mp hc' with h1 | h1
  ·exact .inl (hc c h1)
  ·exact .inr ⟨by cases bs with | nil=>exact fh h1 | cons U z1=>rfl,hb c h1⟩
 ·refine bi (List.isEmpty_iff.mp e) ?_;rw [aE]
 ·cases bs with
  | nil=>exact lN e
  | cons c r=>exact ⟨c,aD.mpr (.inr (.head _)),(hb c (.head _)).1⟩
 ·refine bi ai ?_;lia
 ·exact fun e=>bR (q e0 (List.isEmpty_iff.mp e))
theorem q33n {o:Option fg} {acc:List V} (h:Rd Y a dx R n) (hr:∀r∈R,r.length<=10000) (ew:cv R n=w0::(48::bo p.f)::f8 p.o::f8 p.b::f8 p.u::ws) (ne:ws≠[]) (hp:Bs p) (qx:∀Y',Kp dx Y Y'->X (bc (n+1)) Y'):bd (Gm 33) 33 [.ref a, .ref D,gi o] Y Q X:=by
 have hl:(w0::(48::bo p.f)::f8 p.o::f8 p.b::f8 p.u::ws).length<=10001:=by
  rw [<-ew];delta cv
  cases e:R[n]? with
  | none=>exact aX _
  | some x=>exact aj (fO 32 x) (aO (hr x (aq e)))
 refine ⟨rfl,EV h hr rfl ?_⟩;rw [ew];refine GE rfl hl (fun b hb=> ?_) ?_
 ·simp only [au,List.not_mem_nil,or_false] at hb;rcases hb with rfl | rfl | rfl | rfl
  ·exact .inr ⟨_,hp.f,rfl⟩
  ·exact .inl ⟨_,hp.o,rfl⟩
  ·exact .inl ⟨_,hp.b,rfl⟩
  ·exact .inl ⟨_,hp.u,rfl⟩
 rw [oQ hp.o,oQ hp.b,oQ hp.u,ET hp.f];exact FD (p:=p) (h.adv) rfl rfl hl ne rfl rfl (fun U=>qx _ .adv) fun e=>lN e
end
noncomputable def flat (gs:List Gr):List bh:=(gs.map (·.2)).flatten
noncomputable def gI (R:List (List Nat)):Nat->List Gr->Prop
 | U,[]=>True
 | n,g::r=>cv R n=ka g/\gI R (n+1) r
noncomputable def fA:Option fg->List Gr->Prop
 | U,[]=>True
 | o,g::r=>bw g.1.v (gi o)=false/\fA (some g.1) r
noncomputable def ik:Option fg->List Gr->Option fg
 | o,[]=>o
 | U,g::r=>ik (some g.1) r
structure w8 (g:Gr):Prop where
 ne:g.2≠[]
 p:Bs g.1
 c:∀c∈g.2,gN true c/\c.p=g.1
section
variable {Y:be} {Q X:KV} {K:KF} {H:bv} {a dx C:Addr} {R:List (List Nat)} {n:Nat} {r:List DS}
noncomputable abbrev pz (a C:Addr) (c:Nat) (vs ws:V) (o:Option fg):List (Nat×V):=[(5,gi o),(15, .ref C),(34,vs),(28,ws),(32,bc c),(70, .ref a)]
noncomputable abbrev rH (X:KV) (k:Nat) (H:bv) (Y:be) (K:KF):Prop:=gT (fun H' Y' Q'=>dO tab (Gm 34) (.cmp .Eq (.meth (.user 30) (.nm false 70 ⟨215,14,215,18⟩) [] ⟨215,14,215,28⟩ ⟨215,14,215,30⟩) (.lit (.bytes [114,117,110]) ⟨215,34,215,40⟩) ⟨215,14,215,40⟩) H' Y' Q' X) (fun H' Y' Q'=>exDs tab (Gm 34) Co H' Y' Q' X) k H Y K
theorem xO (h:Rd Y a dx R n) (hC:Y C=none) {l:List V}:Rd (Y.set C (.list l)) a dx R n:=⟨⟨(du.new hC) _ _ h.at_.1,(du.new hC) _ _ h.at_.2⟩,h.ne,h.few⟩
theorem uF {c:Nat} {vs ws:V} {o:Option fg} (h:Rd Y a dx R n) (hr:∀r∈R,r.length<=10000) (e:(gL R n==[114,117,110])=false) (q:K .next (mk (pz a C c vs ws o)) Y):∃k,rH X k (mk (pz a C c vs ws o)) Y K:=by
 refine ⟨1,bm h.at_ rfl (q30 h hr (rq (b:=gL R n==[114,117,110]) e ?_))⟩;exact q
theorem CY {c:Nat} {vs ws:V} {o:Option fg} {k:Nat} (h:Rd Y a dx R n) (hr:∀r∈R,r.length<=10000) (e:(gL R n==[114,117,110])=true) (q:bd (Gm 33) 33 [.ref a, .ref C,gi o] Y (fun v Jo=>CQ (fun Jj Jp=>cb none Jp/\rH X k Jj Jp K) ((mk (pz a C c vs ws o)).set 5 v) Jo) X):rH X (k+1) (mk (pz a C c vs ws o)) Y K:=by
 refine bm h.at_ rfl (q30 h hr (iL e ?_));refine bm h.at_ rfl ?_;exact q
theorem runs {c:Nat} {vs ws:V} (hσ:Rd Y a dx R n) (hr:∀r∈R,r.length<=10000) (nc:C≠dx):∀(gs:List Gr) (m:Nat) (acc:List V) (o:Option fg),Rd ((adv Y dx R m).set C (.list acc)) a dx R m->gI R m gs->fA o gs->(∀g∈gs,w8 g)->acc.length+2*(flat gs).length<=100->(∃k,rH X k (mk (pz a C c vs ws (ik o gs))) ((adv Y dx R (m+gs.length)).set C (.list (acc++(bV (flat gs)).map bh.v))) K)->∃k,rH X k (mk (pz a C c vs ws o)) ((adv Y dx R m).set C (.list acc)) K:=by
 intro zl
 induction zl with
 | nil=>
  intro m acc o _ _ _ _ _ q;have q:∃k,rH X k (mk (pz a C c vs ws o)) ((adv Y dx R m).set C (.list (acc++[]))) K:=q;rw [aE] at q;exact q
 | cons g gs ih=>
  intro m acc o h hR hch hok hn q;have g1:=hR.1;have g2:=hR.2;have c2:=hch.2;have ho:=hok g (.head _);have ef:flat (g::gs)=g.2++flat gs:=rfl;have en:(flat (g::gs)).length=g.2.length+(flat gs).length:=by refine bi ef ?_;refine bi ai ?_;rfl
  have e1:adv ((adv Y dx R m).set C (.list acc)) dx R (m+1)=(adv Y dx R (m+1)).set C (.list acc):=by
   funext b
   show (if b=dx then _ else if b=C then _ else if b=dx then _ else Y b)=(if b=C then _ else if b=dx then _ else Y b)
   by_cases h1:b=dx
   ·rw [if_pos h1,if_neg (fun r=>nc (r.symm.trans h1)),if_pos h1]
   ·refine bi (if_neg h1) ?_;refine bi (if_neg h1) ?_;rw [if_neg h1]
  have le:(bV g.2).length<=2*g.2.length:=by
   refine aj (jb (b:=2) fun x hx=> ?_) (by rw [ah];exact av _);refine bu (aN.mp hx) fun y U y1=> ?_;subst y1;unfold dK;cases decide ((y.w:Int)=2)<;>exact ad rfl
  have h2:Rd ((adv Y dx R (m+1)).set C (.list (acc++(bV g.2).map bh.v))) a dx R (m+1):=by
   have:=(Rd.adv h).list (e1▸be.set_same (adv Y dx R (m+1)) C (.list acc)) (l':=acc++(bV g.2).map bh.v);rw [e1,be.set_set] at this;exact this
  obtain ⟨k,q⟩:=ih (m+1) (acc++(bV g.2).map bh.v) (some g.1) h2 g2 c2 (fun y hy=>hok y (.tail _ hy)) (by refine bi ai ?_;rw [ah];rw [en] at hn;lia) (by
   rw [(show bV (flat (g::gs))=bV g.2++bV (flat gs) by refine bi ef ?_;unfold bV;refine bi aJ ?_;refine bi List.flatten_append ?_;rfl),aJ,<-aw,ba,Nat.add_comm gs.length 1,<-Nat.add_assoc] at q;exact q)
  refine ⟨k+1,CY h hr ?_ (q33 (p:=g.1) (bs:=[]) h hr (by refine bi g1 ?_;rw [aE];rfl) (by rw [aE];exact ho.ne) ho.p ho.c (fun U h=>fh h) (be.set_same _ _ _) (by rw [en] at hn;lia) (aX _) ?_ ?_)⟩
  ·unfold gL;refine bi g1 ?_;rfl
  ·rintro (e | e)
   ·rw [(hch.1)] at e;exact cR e
   ·exact absurd rfl e
  ·intro _ _;refine bi e1 ?_;refine bi be.set_set ?_;exact cV q ⟨rfl,rfl,rfl,rfl,rfl,rfl,trivial⟩
end
noncomputable def qS:List (List Nat):=[[115,105,110,103,108,101],[119,105,100,101],[116,111,112],[98,111,116,116,111,109]]
theorem szF:∀s∈qS,dH s=some s/\s.length<=50/\bn 32 ([108,105,110,101,32]++s)=[[108,105,110,101],s]:=by decide+kernel
noncomputable def yI (l:List V) (v:V):Option V:=cond (eqVs l [.bytes ((lM v).getD [])]) (some v) none
noncomputable def szs (ws:List (List Nat)):List V:=sizeNames.filterMap (yI (((ws.map V.bytes).take 2).drop 1))
noncomputable def y8 (b:Bool):List Nat:=cond b [111,110] [101,110,100,115]
theorem D5 {sz w0:List Nat} {ws:List (List Nat)} (h:sz∈qS):szs (w0::sz::ws)=[.str sz]:=by
 unfold szs;have e:List.drop 1 (List.take 2 (List.map V.bytes (w0::sz::ws)))=[.bytes sz]:=rfl;rw [e];unfold qS at h;simp only [au,List.not_mem_nil,or_false] at h;rcases h with rfl | rfl | rfl | rfl<;>rfl
section
variable {Y:be} {Q X:KV} {K:KF} {H:bv} {a dx C:Addr} {R:List (List Nat)} {n:Nat} {r:List DS} {ws:List (List Nat)}
theorem Fv (h:Rd Y a dx R n) (hr:∀r∈R,r.length<=10000) (h70:H 70=some (.ref a)) (q:exDs tab (Gm 34) r (H.set 28 (.lst ((cv R n).map .bytes))) (adv Y dx R (n+1)) K X):exDs tab (Gm 34) (r3::r) H Y K X:=
 bg h70 (bm h.at_ rfl (q29 h hr q))
theorem F4 {H:bv} {Y:be} {s:List Nat} {K:KV} (h28:H 28=some (.lst (ws.map .bytes))) (hl:ws.length<=10001) (hs:dH s=some s) (h56:H 56=some (.str s)) (q:K (.bool (eqVs (((ws.map V.bytes).take 2).drop 1) [.bytes s])) Y):evB tab (Gm 34) true Af H Y K X:=by
 have e:((ws.map V.bytes).take 2).drop 1=((ws.take 2).drop 1).map V.bytes:=by rw [List.map_drop,List.map_take]
 refine bg h28 (bx (show (ws.map V.bytes).length<=16777216 by rw [ah];exact bz hl rfl) (bx (p:=(((ws.map V.bytes).take 2).drop 1).length<=16777216) ?_ (bg h56 (bg hs (cD (b:=gz (.lst (((ws.map V.bytes).take 2).drop 1)) (.lst [.bytes s])) ?_ ?_)))))
 ·rw [List.length_drop,aV];omega
 ·rw [e];exact yv _ [s]
 ·refine cu (b:=eqVs (((ws.map V.bytes).take 2).drop 1) [.bytes s]) (fun e=> ?_) fun e=> ?_<;>(rw [e] at q;exact q)
theorem Fr (h28:H 28=some (.lst (ws.map .bytes))) (hl:ws.length<=10001) (q:exDs tab (Gm 34) r (H.set 34 (.lst (szs ws))) Y K X):exDs tab (Gm 34) (v8::r) H Y K X:=by
 refine fS (yI (((ws.map V.bytes).take 2).drop 1)) sizeNames (ad rfl) (fun U e=>bZ e) (fun D hD x hx=> ?_) q
 have g:∀s,dH s=some s->x= .str s->on (dT (.n false 56 ⟨212,28,212,32⟩) x (i6 (.n false 56 ⟨212,28,212,32⟩) H)) fun H'=>∀acc (K:KV) (K':be->Prop),kU (yI (((ws.map V.bytes).take 2).drop 1) x) (K · (Y.set D (.list acc))) (K' (Y.set D (.list acc)))->evB tab (Gm 34) true Af H' (Y.set D (.list acc)) (fun b Jo=>pK b (dO tab (Gm 34) CP H' Jo K (fun U U=>False)) (K' Jo)) (fun U U=>False):=fun s hs e=>by
  subst e;intro acc K K' q;refine F4 h28 hl hs rfl ?_;refine cu (b:=eqVs (((ws.map V.bytes).take 2).drop 1) [.bytes s]) (fun e=> ?_) fun e=> ?_
  ·have q:kU (cond (eqVs (((ws.map V.bytes).take 2).drop 1) [.bytes s]) (some (V.str s)) none) (K · (Y.set D (.list acc))) (K' (Y.set D (.list acc))):=q;rw [e] at q;exact q
  ·have q:kU (cond (eqVs (((ws.map V.bytes).take 2).drop 1) [.bytes s]) (some (V.str s)) none) (K · (Y.set D (.list acc))) (K' (Y.set D (.list acc))):=q;rw [e] at q;exact q
 unfold sizeNames at hx;simp only [au,List.not_mem_nil,or_false] at hx;have f:=fun s hs=>(szF s hs).1;rcases hx with hx | hx | hx | hx
 ·exact g _ (f _ (.head _)) hx
 ·exact g _ (f _ (.tail _ (.head _))) hx
 ·exact g _ (f _ (.tail _ (.tail _ (.head _)))) hx
 ·exact g _ (f _ (.tail _ (.tail _ (.tail _ (.head _))))) hx
theorem Gb (h:Rd Y a dx R n) (h70:H 70=some (.ref a)) (h28:H 28=some (.lst (ws.map .bytes))) (hl:ws.length<=10001) (ne:ws.length≠3) (q:X (bc n) Y):exDs tab (Gm 34) (mG::r) H Y K X:=by
 refine bg h70 (bm h.at_ rfl (bg h28 (bx (by rw [ah];exact bz hl rfl) ?_)));refine rq (b:=decide (((ws.map V.bytes).length:Int)=3)) (decide_eq_false fun e=> ?_) ?_
 ·rw [ah] at e;exact ne (Int.ofNat_inj.mp e)
 ·exact qB h q
theorem l213 {sz:List Nat} {b:Bool} (h:Rd Y a dx R n) (h70:H 70=some (.ref a)) (h28:H 28=some (.lst [.bytes [108,105,110,101], .bytes sz, .bytes (y8 b)])) (h34:H 34=some (.lst [.str sz])) (q:exDs tab (Gm 34) r H Y K X):exDs tab (Gm 34) (mG::r) H Y K X:=by
 refine bg h70 (bm h.at_ rfl (bg h28 (bg h28 (bg h34 (bg h28 ?_)))))
 cases b<;>exact lR q
theorem l214 (q:∀C,Y C=none->exDs tab (Gm 34) r ((H.set 15 (.ref C)).set 5 .none) (Y.set C (.list [])) K X):exDs tab (Gm 34) (uy::r) H Y K X:=fun C hC=>q C hC
end
noncomputable def Ci (l:Ln):V:= .tup [bt l.cs, .str l.sz, .bool l.on]
noncomputable def jr (R:List (List Nat)) (n c:Nat) (l:Ln) (m:Nat):Prop:=∀a dx Y (Q X:KV),Rd Y a dx R n->Q (Ci l) (adv Y dx R m)->bd (Gm 34) 34 [.ref a,bc c] Y Q X
noncomputable def f7 (R:List (List Nat)) (n c m:Nat):Prop:=∀a dx Y (Q X:KV),Rd Y a dx R n->(∀Y',Kp dx Y Y'->X (bc m) Y')->bd (Gm 34) 34 [.ref a,bc c] Y Q X
section
variable {Y:be} {Q X:KV} {K:KF} {H:bv} {a dx C:Addr} {R:List (List Nat)} {n c:Nat} {r:List DS} {ws:List (List Nat)}
theorem q31b {b:Bool} (h:Rd Y a dx R n) (qf:b=false->X (bc n) Y) (q:b=true->Q .none Y):bd (Gm 31) 31 [.ref a, .bool b] Y Q X:=match b,qf,q with
 | true,U,q=>lR (q rfl)
 | false,qf,U=>qB h (qf rfl)
theorem Fx {l:List V} (h:Rd Y a dx R n) (h70:H 70=some (.ref a)) (h15:H 15=some (.ref C)) (h32:H 32=some (bc c)) (hC:Y C=some (.list l)) (hl:l.length<=200) (qf:l.length≠c->X (bc n) Y) (q:l.length=c->exDs tab (Gm 34) r H Y K X):exDs tab (Gm 34) (vO::r) H Y K X:=by
 refine bg h70 (bm h.at_ rfl (bg h15 (bg (iE hC) (bx (bz hl rfl) (bg h32 ?_)))));exact q31b (b:=decide ((l.length:Int)=c)) h (fun e=>qf fun r=>(of_decide_eq_false e) (aB Int.ofNat r)) fun e=>q (Int.ofNat_inj.mp (aU e))
theorem l218 {l:Ln} (h15:H 15=some (.ref C)) (h34:H 34=some (.lst [.str l.sz])) (h28:H 28=some (.lst [.bytes [108,105,110,101], .bytes l.sz, .bytes (y8 l.on)])) {Y':be} (hC:Y' C=none) (e:Y=Y'.set C (.list (l.cs.map bh.v))) (q:Q (Ci l) Y'):exDs tab (Gm 34) [v6] H Y (cQ Q) X:=by
 subst e;refine bg h15 (bg h34 (bg h28 ?_));have g:xA Q (.tup [.ref C, .str l.sz, .bool l.on]) (Y'.set C (.list (l.cs.map bh.v))):=qP q (.drop hC) ⟨_,rfl, .lst hC,rfl,rfl,rfl⟩
 cases e:l.on<;>(rw [e] at g;exact g)
noncomputable abbrev gt (R:List (List Nat)) (n:Nat):Bool:=gL R n==[114,117,110]
theorem GS (hr:∀r∈R,r.length<=10000) (ne:(cv R n).length≠3):f7 R n c (n+1):=fun a dx Y Q X h q=>by
 have hl:(cv R n).length<=10001:=by
  unfold cv
  cases e:R[n]? with
  | none=>exact aX _
  | some x=>exact aj (fO 32 x) (aO (hr x (aq e)))
 exact ⟨rfl,Fv h hr rfl (Fr rfl hl (Gb h.adv rfl rfl hl ne (q _ .adv)))⟩
theorem D7 {sz:List Nat} {b:Bool} {gs:List Gr} (hr:∀r∈R,r.length<=10000) (e1:cv R n=[[108,105,110,101],sz,y8 b]) (hz:sz∈qS) (hR:gI R (n+1) gs) (hch:fA none gs) (ok:∀g∈gs,w8 g) (few:2*(flat gs).length<=100) (h:Rd Y a dx R n) (fin:∀C,Y C=none->C≠dx->∀K:KF,(∀H Y,exDs tab (Gm 34) Cz H Y (cQ Q) X->K .next H Y)->∃k,rH X k (mk (pz a C c (.lst [.str sz]) (.lst [.bytes [108,105,110,101], .bytes sz, .bytes (y8 b)]) (ik none gs))) ((adv Y dx R (n+1+gs.length)).set C (.list ((bV (flat gs)).map bh.v))) K):bd (Gm 34) 34 [.ref a,bc c] Y Q X:=by
 refine ⟨rfl,Fv h hr rfl ?_⟩;rw [e1];refine Fr rfl (ad rfl) ?_;rw [D5 hz];refine l213 (sz:=sz) h.adv rfl rfl rfl (l214 fun C hC=> ?_);have nc:C≠dx:=fun r=>by rw [r] at hC;cases (be.set_same Y dx _).symm.trans hC
 have hC':Y C=none:=(be.set_ne _ _ nc).symm.trans hC;exact runs h hr nc gs (n+1) [] none (xO h.adv hC) hR hch ok (by rw [List.length_nil];lia) (fin C hC' nc _ fun U U h=>h)
end
section
variable {a dx C:Addr} {R:List (List Nat)} {n c:Nat} {sz:List Nat} {b:Bool} {gs:List Gr}
theorem zZ {Y:be} (h:Rd Y a dx R n) (hC:Y C=none) (nc:C≠dx) (m:Nat):adv Y dx R m C=none/\∀l,Rd ((adv Y dx R m).set C (.list l)) a dx R m:=
 have:adv Y dx R m C=none:=(be.set_ne _ _ nc).trans hC
 ⟨this,fun l=>xO h.adv this⟩
theorem AS (hr:∀r∈R,r.length<=10000) (e1:cv R n=[[108,105,110,101],sz,y8 b]) (hz:sz∈qS) (hR:gI R (n+1) gs) (hch:fA none gs) (ok:∀g∈gs,w8 g) (few:2*(flat gs).length<=100) (nx:gt R (n+1+gs.length)=false) (hl:(bV (flat gs)).length=c) (hc:c<=200):jr R n c ⟨bV (flat gs),sz,b⟩ (n+1+gs.length):=fun a dx Y Q X h q=>by
 refine D7 hr e1 hz hR hch ok few h fun C hC nc K hK=> ?_;obtain ⟨g1,g2⟩:=zZ h hC nc (n+1+gs.length);refine uF (g2 _) hr nx (hK _ _ ?_);refine Fx (g2 _) rfl rfl rfl (be.set_same _ _ _) (by rw [ah];refine bi hl ?_;exact hc) (fun e=>absurd (by rw [ah];exact hl) e) fun U=> ?_;exact l218 rfl rfl rfl g1 rfl q
theorem wA (hr:∀r∈R,r.length<=10000) (e1:cv R n=[[108,105,110,101],sz,y8 b]) (hz:sz∈qS) (hR:gI R (n+1) gs) (hch:fA none gs) (ok:∀g∈gs,w8 g) (few:2*(flat gs).length<=100) (nx:gt R (n+1+gs.length)=false) (hl:(bV (flat gs)).length≠c) (hc:(bV (flat gs)).length<=200):f7 R n c (n+1+gs.length):=fun a dx Y Q X h q=>by
 refine D7 hr e1 hz hR hch ok few h fun C hC nc K hK=> ?_;obtain ⟨g1,g2⟩:=zZ h hC nc (n+1+gs.length);refine uF (g2 _) hr nx (hK _ _ ?_);exact Fx (g2 _) rfl rfl rfl (be.set_same _ _ _) (by rw [ah];exact hc) (fun U=>q _ (Kp.adv.trans (.new g1))) fun e=>absurd (by rw [ah] at e;exact e) hl
theorem Aw (hr:∀r∈R,r.length<=10000) (e1:cv R n=[[108,105,110,101],sz,y8 b]) (hz:sz∈qS) (hR:gI R (n+1) gs) (hch:fA none gs) (ok:∀g∈gs,w8 g) (few:2*(flat gs).length<=100) (nx:gt R (n+1+gs.length)=true) {m:Nat} (bad:∀a dx Y C (Q X:KV),Rd Y a dx R (n+1+gs.length)->Y C=some (.list ((bV (flat gs)).map bh.v))->(∀Y',Kp dx Y Y'->X (bc m) Y')->bd (Gm 33) 33 [.ref a, .ref C,gi (ik none gs)] Y Q X):f7 R n c m:=fun a dx Y Q X h q=>by
 refine D7 hr e1 hz hR hch ok few h fun C hC nc K hK=> ?_;obtain ⟨g1,g2⟩:=zZ h hC nc (n+1+gs.length);exact ⟨1,CY (g2 _) hr nx (bad _ _ _ _ _ _ (g2 _) (be.set_same _ _ _) fun Y' k=>q Y' ((Kp.adv.trans (.new g1)).trans k))⟩
end
noncomputable def BR:List Nat:=[112,105,99,116,117,114,101]
noncomputable def B8:List Nat:=[99,117,114,115,111,114]
section
variable {Y:be} {Q X:KV} {K:KF} {H:bv} {a dx C:Addr} {R:List (List Nat)} {n i j c:Nat} {r:List DS} {x:List Nat} {more:List (List Nat)}
theorem Eh (h:Rd Y a dx R n) (hr:∀r∈R,r.length<=10000) (h30:H 30=some (.ref a)) (e:R[n]? =some x) (es:bn 32 x=BR::bo i::bo j::more) (hi:i<=6) (hj:j<=6) (q:exDs tab (Gm 35) r (((H.set 31 (bc i)).set 32 (bc j)).set 33 (.lst (more.map .bytes))) (adv Y dx R (n+1)) K X):exDs tab (Gm 35) (sK::r) H Y K X:=
 bg h30 (bm h.at_ rfl (q32 h hr e es hi hj q))
theorem GQ (h:Rd Y a dx R n) (hr:∀r∈R,r.length<=10000) (h30:H 30=some (.ref a)) (e:R[n]? =some x) (es:bn 32 x=B8::bo i::bo j::more) (hi:i<=6) (hj:j<=6) (q:exDs tab (Gm 35) r (((H.set 19 (bc i)).set 16 (bc j)).set 33 (.lst (more.map .bytes))) (adv Y dx R (n+1)) K X):exDs tab (Gm 35) (uX::r) H Y K X:=
 bg h30 (bm h.at_ rfl (q32 h hr e es hi hj q))
theorem Ex (h:Rd Y a dx R n) (h30:H 30=some (.ref a)) (h31:H 31=some (bc i)) (h32:H 32=some (bc j)) (h33:H 33=some (.lst (more.map .bytes))) (hi:0<i) (hj:0<j) (qf:more≠[]->X (bc n) Y) (q:more=[]->exDs tab (Gm 35) r H Y K X):exDs tab (Gm 35) (sM::r) H Y K X:=by
 refine bg h30 (bm h.at_ rfl (bg h31 (iL (b:=decide ((0:Int)<i)) (aA (Int.natCast_pos.mpr hi)) (bg h32 (iL (b:=decide ((0:Int)<j)) (aA (Int.natCast_pos.mpr hj)) (bg h33 ?_))))));refine cD (b:=gz (.lst (more.map .bytes)) (.lst [])) (yv more []) ?_
 cases more with
 | nil=>exact lR (q rfl)
 | cons U z1=>exact qB h (qf (a7 _ _))
theorem GT {b:Bool} {i' j':Nat} (h:Rd Y a dx R n) (h30:H 30=some (.ref a)) (h31:H 31=some (bc i')) (h32:H 32=some (bc j')) (h19:H 19=some (bc i)) (h16:H 16=some (bc j)) (h33:H 33=some (.lst ((ow b::more).map .bytes))) (hi:i<i') (hj:j<j') (qf:more≠[]->X (bc n) Y) (q:more=[]->exDs tab (Gm 35) r H Y K X):exDs tab (Gm 35) (uV::r) H Y K X:=by
 refine bg h30 (bm h.at_ rfl (bg h19 (bg h31 (iL (b:=decide ((i:Int)<i')) (aA (Int.ofNat_lt.mpr hi)) (bg h16 (bg h32 (iL (b:=decide ((j:Int)<j')) (aA (Int.ofNat_lt.mpr hj)) (bg h33 ?_))))))));refine cD (b:=List.all [.lst [.bytes [115,104,111,119,110]], .lst [.bytes [104,105,100,100,101,110]]] (gz · (.lst ((ow b::more).map .bytes)))) ?_ ?_
 ·have g:=fun w=>yv [w] (ow b::more);exact ay.mpr ⟨g _,ay.mpr ⟨g _,rfl⟩⟩
 ·cases b<;>cases more with
  | nil=>exact lR (q rfl)
  | cons U z1=>exact qB h (qf (a7 _ _))
theorem l243 (q:∀C,Y C=none->∀S,(Y.set C (.list [])) S=none->∀W,((Y.set C (.list [])).set S (.list [])) W=none->exDs tab (Gm 35) r (((H.set 15 (.ref C)).set 34 (.ref S)).set 35 (.ref W)) (((Y.set C (.list [])).set S (.list [])).set W (.list [])) K X):exDs tab (Gm 35) (ue::r) H Y K X:=q
theorem qn {G:dW} {p1 p2 p3 p4 p5:Pos} {m k:Nat} {l:List V} {v:V} (h:H m=some (.ref C)) (hk:H k=some v) (hC:Y C=some (.list l)) (hl:l.length<=1000) (q:exDs tab G r H (Y.set C (.list (l++[v]))) K X):exDs tab G (.expr (.meth .append (.nm false m p1) [.nm false k p2] p3 p4) p5::r) H Y K X:=
 bg h (cD (ce hC) (bg hk (bg (bF hC) (bx (az hl (ad rfl)) q))))
theorem l249 (h:Rd Y a dx R n) (h30:H 30=some (.ref a)) (qf:n<R.length->X (bc (n+1)) Y) (q:R.length<=n->exDs tab (Gm 35) r H Y K X):exDs tab (Gm 35) (uJ::r) H Y K X:=by
 refine bg h30 (ch h.at_ rfl (bg h30 (ch h.at_ rfl (bx (kM h) ?_))));refine EA (p:=(n:Int)<((R.map V.bytes).length:Nat)) (fun e=> ?_) fun e=> ?_
 ·rw [ah] at e;exact bg h30 (ch h.at_ rfl (qf (Int.ofNat_lt.mp e)))
 ·rw [ah] at e;exact q (Nat.le_of_not_lt fun r=>e (Int.ofNat_lt.mpr r))
theorem l251 {P:Pc} (h30:H 31=some (bc P.ls.length)) (h32:H 32=some (bc P.c)) (h15:H 15=some (.lst (P.ls.map fun l=>bt l.cs))) (h34:H 34=some (.lst (P.ls.map fun l=> .str l.sz))) (h35:H 35=some (.lst (P.ls.map fun l=> .bool l.on))) (h19:H 19=some (bc P.r0)) (h16:H 16=some (bc P.c0)) (h33:H 33=some (.lst [.bytes (ow P.sh)])) (q:∀a Y',bJ Y' a P->du Y Y'->Q (.ref a) Y'):exDs tab (Gm 35) [vM] H Y (cQ Q) X:=by
 refine bg h30 (bg h32 (bg h15 (bg h34 (bg h35 (bg h19 (bg h16 (bg h33 ?_)))))));have g:bd (Gm 5) 5 [.int P.ls.length,bc P.c, .lst (P.ls.map fun l=>bt l.cs), .lst (P.ls.map fun l=> .str l.sz), .lst (P.ls.map fun l=> .bool l.on), .tup [bc P.r0,bc P.c0], .bool P.sh] Y (xA Q) X:=q05 rfl fun a Y' h1 h2=>bR (q a Y' h1 h2);revert g
 cases P.sh<;>exact id
end
noncomputable def qd (Y Y':be) (H:bv):List (Nat×V)->Prop
 | []=>True
 | p::r=>(∃v,H p.1=some v/\Fz Y Y' p.2 v)/\qd Y Y' H r
theorem i0.mkF {Y Y':be}:∀{l:List (Nat×V)} {H:bv},qd Y Y' H l->i0 Y Y' H (Mine.mk l):=by
 intro zl
 induction zl with
 | nil=>
  intro _ _;exact fun U U e=>bZ e
 | cons p r ih=>
  intro H h
  exact fun n v' e=>by
   have e:(Mine.mk r).set p.1 p.2 n=some v':=e
   by_cases q:n=p.1
   ·subst q;rw [bv.set_same] at e;(replace e:=bW e;subst e);exact h.1
   ·rw [bv.set_ne _ _ q] at e;exact ih h.2 n v' e
theorem qd.of {Y Y':be} {H:bv}:∀{l:List (Nat×V)},gn H l->qd Y Y' H l
 | [],U=>trivial
 | p::r,h=>⟨⟨_,h.1, .refl _ _ _⟩, .of h.2⟩
theorem EI {c:Cd} {W:bv->be->Prop} {H:bv} {Y Y':be} {l:List (Nat×V)} (w:W (mk l) Y') (z:ck Y Y') (sd:cb c Y') (h:qd Y Y' H l):CQ (fun Jj Jp=>cb c Jp/\W Jj Jp) H Y:=⟨mk l,Y',z, .mkF h,sd,w⟩
theorem ck.le {Y Y':be} (h:∀b o,Y' b=some o->Y b=some o):ck Y Y':=fun b o e=>⟨o,h b o e, .inl rfl⟩
theorem lm {Y:be} {a b:Addr} {o:O} (h:(Y.del a) b=some o):Y b=some o:=by
 delta be.del at h
 by_cases q:b=a
 ·rw [if_pos q] at h;exact bZ h
 ·rw [if_neg q] at h;exact h
theorem eF (Y:be) (a:Addr):(Y.del a) a=none:=if_pos rfl
theorem dn {Y:be} {a b:Addr} (h:b≠a):(Y.del a) b=Y b:=if_neg h
theorem eQ {Y:be} {a dx D:Addr} {Cc:Addr} {fs:List (Nat×V)} {l:List V} (h:InstAt Y a dx Cc fs) (hD:Y D=some (.list l)):a≠D/\dx≠D:=⟨fun r=>(by have:=h.1;rw [r,hD] at this;(replace this:=bW this;cases this)),fun r=>(by have:=h.2;rw [r,hD] at this;(replace this:=bW this;cases this))⟩
theorem Rd.del {Y:be} {a dx D:Addr} {R:List (List Nat)} {n:Nat} {l:List V} (h:Rd Y a dx R n) (hD:Y D=some (.list l)):Rd (Y.del D) a dx R n:=
 have ne:=eQ h.at_ hD
 ⟨⟨(dn ne.1).trans h.at_.1,(dn ne.2).trans h.at_.2⟩,h.ne,h.few⟩
theorem du.del {Y Y':be} {a:Addr} (x:du Y Y') (h:Y a=Option.none):du Y (Y'.del a):=fun b o e=>(dn fun r=>by subst r;rw [h] at e;exact bZ e).trans (x b o e)
theorem du.adv {Y Y':be} {dx:Addr} {R:List (List Nat)} {n:Nat} (x:du Y Y') (h:Y dx=Option.none):du Y (adv Y' dx R n):=x.set h
structure te (Y:be) (C S W:Addr) (l:List Ln):Prop where
 c:Y C=some (.list (l.map fun l=>bt l.cs))
 s:Y S=some (.list (l.map fun l=> .str l.sz))
 w:Y W=some (.list (l.map fun l=> .bool l.on))
structure S35 where
 (Y:be) (c s w:V)
structure P35 (Y:be) (a dx C S W:Addr) (R:List (List Nat)) (offs:Nat->Nat) (ls:List Ln) (J k:Nat) (s:S35):Prop where
 j:k<=J
 x:du Y s.Y
 rd:Rd s.Y a dx R (offs k)
 at_:k<ls.length->te s.Y C S W (ls.take k)/\s.c= .ref C/\s.s= .ref S/\s.w= .ref W
 fz:ls.length<=k->s.c= .lst (ls.map fun l=>bt l.cs)/\s.s= .lst (ls.map fun l=> .str l.sz)/\s.w= .lst (ls.map fun l=> .bool l.on)
section
variable {Y:be} {Q X:KV} {K:KF} {H:bv} {a dx C S W:Addr} {R:List (List Nat)} {r:List DS} {offs:Nat->Nat} {P:Pc} {l0:List (Nat×V)}
theorem l245 {c n:Nat} {l:Ln} {m:Nat} (h:Rd Y a dx R n) (h30:H 30=some (.ref a)) (h32:H 32=some (bc c)) (hl:jr R n c l m) (q:exDs tab (Gm 35) r (((H.set 2 (bt l.cs)).set 36 (.str l.sz)).set 27 (.bool l.on)) (adv Y dx R m) K X):exDs tab (Gm 35) (nO::r) H Y K X:=
 bg h30 (bm h.at_ rfl (bg h32 (hl a dx Y _ X h q)))
theorem FX {c n m:Nat} (h:Rd Y a dx R n) (h30:H 30=some (.ref a)) (h32:H 32=some (bc c)) (hl:f7 R n c m) (q:∀Y',Kp dx Y Y'->X (bc m) Y'):exDs tab (Gm 35) (nO::r) H Y K X:=
 bg h30 (bm h.at_ rfl (bg h32 (hl a dx Y _ X h q)))
theorem f35 {l:Ln} {ls:List Ln} (h15:H 15=some (.ref C)) (h34:H 34=some (.ref S)) (h35:H 35=some (.ref W)) (h2:H 2=some (bt l.cs)) (h36:H 36=some (.str l.sz)) (h27:H 27=some (.bool l.on)) (t:te Y C S W ls) (n1:S≠C) (n2:W≠C) (n3:W≠S) (hl:ls.length<=1000) (q:∀Y',te Y' C S W (ls++[l])->(∀b,b≠C->b≠S->b≠W->Y' b=Y b)->K .next H Y'):exDs tab (Gm 35) [tB,sZ,ul] H Y K X:=by
 refine qn h15 h2 t.c (by rw [ah];exact hl) (qn h34 h36 ((be.set_ne _ _ n1).trans t.s) (by rw [ah];exact hl) (qn h35 h27 ((be.set_ne _ _ n3).trans ((be.set_ne _ _ n2).trans t.w)) (by rw [ah];exact hl) (q _ ⟨?_, ?_, ?_⟩ ?_)))
 ·rw [bq];exact (be.set_ne _ _ (aS n2)).trans ((be.set_ne _ _ (aS n1)).trans (be.set_same _ _ _))
 ·rw [bq];exact (be.set_ne _ _ (aS n3)).trans (be.set_same _ _ _)
 ·rw [bq];exact be.set_same _ _ _
 ·exact fun b m1 m2 m3=>(be.set_ne _ _ m3).trans ((be.set_ne _ _ m2).trans (be.set_ne _ _ m1))
theorem l244 {J:Nat} {σ0:be} (hρ:H=mk ((35, .ref W)::(34, .ref S)::(15, .ref C)::l0)) (hl:∀H',(∀n,(Nat.beq n 35 || (Nat.beq n 34 || (Nat.beq n 15 || (Nat.beq n 0 || (Nat.beq n 2 || (Nat.beq n 36 || Nat.beq n 27))))))=false->H' n=mk l0 n)->gn H' l0/\H' 31=some (bc P.ls.length)/\H' 32=some (bc P.c)/\H' 30=some (.ref a)/\H' 19=some (bc P.r0)/\H' 16=some (bc P.c0)/\H' 33=some (.lst [.bytes (ow P.sh)])) (x:du σ0 Y) (h:Rd Y a dx R (offs 0)) (hd:σ0 dx=none) (hC:σ0 C=none) (hS:σ0 S=none) (hW:σ0 W=none) (n1:S≠C) (n2:W≠C) (n3:W≠S) (t:te Y C S W []) (h0:0<P.ls.length) (h3:P.ls.length<=3) (hJ:J<=P.ls.length) (good:∀k l,k<J->P.ls[k]? =some l->jr R (offs k) P.c l (offs (k+1))) (bad:J<P.ls.length->∃m,f7 R (offs J) P.c m/\∀Y',qi σ0 Y'->X (bc m) Y') (ex:J=P.ls.length->offs J<R.length->∀Y',qi σ0 Y'->X (bc (offs J+1)) Y') (eq:J=P.ls.length->R.length<=offs J->∀a Y',bJ Y' a P->du σ0 Y'->Q (.ref a) Y'):exDs tab (Gm 35) (uZ::Cn) H Y (cQ Q) X:=by
 have ho:∀(c s w:V) (n:Nat),(Nat.beq n 35 || (Nat.beq n 34 || (Nat.beq n 15 || (Nat.beq n 0 || (Nat.beq n 2 || (Nat.beq n 36 || Nat.beq n 27))))))=false->mk ((35,w)::(34,s)::(15,c)::l0) n=mk l0 n:=fun c s w n e=>by
  refine cr fun hn=> ?_;refine fI (aT.mp e) fun e1 e=> ?_;refine fI (aT.mp e) fun e2 e=> ?_;refine fI (aT.mp e) fun e3 e=> ?_;refine hn ?_;show cond (Nat.beq n 35) _ (cond (Nat.beq n 34) _ (cond (Nat.beq n 15) _ (mk l0 n)))=_;refine bi e1 ?_;refine bi e2 ?_;refine bi e3 ?_;rfl
 subst hρ;have zz:=hl _ (ho (.ref C) (.ref S) (.ref W));have g31:=zz.2.1;refine bg g31 (bx (p:=((P.ls.length:Int)<=2 ^ 24)) (bb.mpr (bz h3 rfl)) ?_);refine dE (fun s:S35=>(35,s.w)::(34,s.s)::(15,s.c)::l0) S35.Y (P35 σ0 a dx C S W R offs P.ls J) ?_ ?_ ⟨Y, .ref C, .ref S, .ref W⟩ ⟨aX _,x,h,fun U=>⟨t,rfl,rfl,rfl⟩,fun e=>absurd h0 (Nat.not_lt.mpr e)⟩ rfl rfl
 ·intro s hs;refine cr fun hn=> ?_;refine lL (hs.fz (av _)) fun f1 f2 f3=> ?_;refine Dg (hl _ (ho s.c s.s s.w)) fun U g31 g32 g30 y41=> ?_;refine lL y41 fun g19 g16 g33=> ?_;refine hn ?_;have hJ':J=P.ls.length:=Nat.le_antisymm hJ hs.j;exact l249 hs.rd g30 (fun e=>hJ'▸ex hJ' (hJ'▸e) _ (.ext hs.x)) fun e=>l251 g31 g32 (aB some f1) (aB some f2) (aB some f3) g19 g16 g33 fun a' Y' p1 p2=>eq hJ' (hJ'▸e) a' Y' p1 (hs.x.trans p2)
 ·intro k s hk hs Wk hWk;clear g31 hJ h0 eq;refine Ad (hs.at_ hk) fun t e1 e2 e3=> ?_
  have ho':∀(v:V) (n:Nat),(Nat.beq n 35 || (Nat.beq n 34 || (Nat.beq n 15 || (Nat.beq n 0 || (Nat.beq n 2 || (Nat.beq n 36 || Nat.beq n 27))))))=false->(mk ((35,s.w)::(34,s.s)::(15,s.c)::l0)).set 0 v n=mk l0 n:=fun v n e=>by
   have h:=ho s.c s.s s.w n e;have zz:=aT.mp e;have e:=zz.2;have zz:=aT.mp e;have e:=zz.2;have e:=(aT.mp e).2;obtain ⟨e4,e⟩:=aT.mp e;show cond (Nat.beq n 0) _ _=_;refine bi e4 ?_;exact h
  have zz:=hl _ (ho' (bc k));have g32:=zz.2.2.1;have g30:=zz.2.2.2.1;rcases Nat.lt_or_eq_of_le hs.j with hkJ | rfl
  ·have hr:=an hk;refine l245 hs.rd g30 g32 (good k _ hkJ hr) ?_;have ne:=eQ hs.rd.at_ t.c;have ne2:=eQ hs.rd.at_ t.s;have ne3:=eQ hs.rd.at_ t.w;refine f35 (aB some e1) (aB some e2) (aB some e3) rfl rfl rfl ⟨(be.set_ne _ _ (aS ne.2)).trans t.c,(be.set_ne _ _ (aS ne2.2)).trans t.s,(be.set_ne _ _ (aS ne3.2)).trans t.w⟩ n1 n2 n3 ?_ fun Y' t' fr=> ?_
   ·exact aj (List.length_take_le' k _) (aj h3 (ad rfl))
   ·have et:P.ls.take k++[P.ls[k]]=P.ls.take (k+1):=by refine bi List.take_succ ?_;refine bi hr ?_;rfl
    rw [et] at t'
    have rd:Rd Y' a dx R (offs (k+1)):=
     have r:=hs.rd.adv
     ⟨⟨(fr a ne.1 ne2.1 ne3.1).trans r.at_.1,(fr dx ne.2 ne2.2 ne3.2).trans r.at_.2⟩,r.ne,r.few⟩
    have x':du σ0 Y':=fun b o e=>(fr b (fun r=>by subst r;rw [hC] at e;exact bZ e) (fun r=>by subst r;rw [hS] at e;exact bZ e) (fun r=>by subst r;rw [hW] at e;exact bZ e)).trans (hs.x.adv hd b o e)
    have al:∀H',H'=((((mk ((35,s.w)::(34,s.s)::(15,s.c)::l0)).set 0 (bc k)).set 2 (bt P.ls[k].cs)).set 36 (.str P.ls[k].sz)).set 27 (.bool P.ls[k].on)->gn H' l0:=fun H' e=>by
     refine (hl H' fun n en=> ?_).1;have h:=ho' (bc k) n en;have zz:=aT.mp en;have e:=zz.2;have zz:=aT.mp e;have e:=zz.2;have e:=(aT.mp e).2;have e:=(aT.mp e).2;obtain ⟨e5,e⟩:=aT.mp e;obtain ⟨e6,e7⟩:=aT.mp e;subst H';show cond (Nat.beq n 27) _ (cond (Nat.beq n 36) _ (cond (Nat.beq n 2) _ _))=_;refine bi e5 ?_;refine bi e6 ?_;refine bi e7 ?_;exact h
    by_cases hlast:k+1<P.ls.length
    ·exact cV (hWk ⟨Y',s.c,s.s,s.w⟩ ⟨hkJ,x',rd,fun U=>⟨t',e1,e2,e3⟩,fun e=>absurd hlast (Nat.not_lt.mpr e)⟩) ⟨rfl,rfl,rfl,al _ rfl⟩
    ·have full:P.ls.take (k+1)=P.ls:=List.take_of_length_le (Nat.le_of_not_lt hlast);rw [full] at t'
     refine EI (l:=(35, .lst (P.ls.map fun l=> .bool l.on))::(34, .lst (P.ls.map fun l=> .str l.sz))::(15, .lst (P.ls.map fun l=>bt l.cs))::l0) (hWk ⟨((Y'.del C).del S).del W,_,_,_⟩ ⟨hkJ,((x'.del hC).del hS).del hW,((rd.del t'.c).del ((dn n1).trans t'.s)).del ((dn n3).trans ((dn n2).trans t'.w)),fun e=>absurd e hlast,fun U=>⟨rfl,rfl,rfl⟩⟩) (.le fun b o e=>lm (lm (lm e))) trivial
      ⟨⟨s.w,rfl,e3▸ .inr ⟨W,_,rfl,t'.w,(eF _ _), .self _ _ _⟩⟩,⟨s.s,rfl,e2▸ .inr ⟨S,_,rfl,t'.s,((dn (aS n3)).trans (eF _ _)), .self _ _ _⟩⟩,⟨s.c,rfl,e1▸ .inr ⟨C,_,rfl,t'.c,((dn (aS n2)).trans ((dn (aS n1)).trans (eF _ _))), .self _ _ _⟩⟩, .of (al _ rfl)⟩
  ·refine bu (bad hk) fun m b1 b2=> ?_;exact FX hs.rd g30 g32 b1 fun Y' k=>b2 Y' (.of hs.x k hd)
end
section
variable {Y:be} {Q X:KV} {R:List (List Nat)} {P:Pc} {t x0 x1:List Nat} {m0 m1:List (List Nat)}
theorem Db {H:bv} {K:KF} {r:List DS} (h3:H 3=some (.bytes t)) (ht:t.length<16777216) (hf:(bn 10 t).length<=1000) (q:∀a dx Y',Y dx=none->Rd Y' a dx (bn 10 t) 0->du Y Y'->exDs tab (Gm 35) r (H.set 30 (.ref a)) Y' K X):exDs tab (Gm 35) (tm::r) H Y K X:=by
 have g:bd (Gm 28) 28 [.bytes t] Y (fun v Jo=>exDs tab (Gm 35) r (H.set 30 v) Jo K X) X:=q28 ht hf fun a dx Y' h1 h2 h3=>q a dx Y' h1 h2 h3;exact bg h3 g
structure Txt (t:List Nat) (R:List (List Nat)) (P:Pc) (m0 m1:List (List Nat)):Prop where
 sp:bn 10 t=R
 tl:t.length<16777216
 few:R.length<=1000
 row:∀r∈R,r.length<=10000
 r0:∃x,R[0]? =some x/\bn 32 x=BR::bo P.ls.length::bo P.c::m0
 r1:∃x,R[1]? =some x/\bn 32 x=B8::bo P.r0::bo P.c0::ow P.sh::m1
 n0:0<P.ls.length
 n3:P.ls.length<=3
 c0:P.c0<P.c
 c6:P.c<=6
 p0:P.r0<P.ls.length
theorem q35a (T:Txt t R P m0 m1) (ne:m0≠[]) (q:∀Y',qi Y Y'->X (bc 1) Y'):bd (Gm 35) 35 [.bytes t] Y Q X:=by
 refine bu (T.r0) fun x e es=> ?_;refine ⟨rfl,Db rfl T.tl (T.sp.symm▸T.few) fun a dx Y' hd h x'=> ?_⟩;rw [T.sp] at h;refine Eh h T.row rfl e es (aj T.n3 (by decide)) T.c6 ?_;exact Ex (h.adv) rfl rfl rfl rfl T.n0 (az (aX _) T.c0) (fun U=>q _ (.ext (x'.adv hd))) fun e=>absurd e ne
theorem q35b (T:Txt t R P [] m1) (ne:m1≠[]) (q:∀Y',qi Y Y'->X (bc 2) Y'):bd (Gm 35) 35 [.bytes t] Y Q X:=by
 refine bu (T.r0) fun x e es=> ?_;refine bu (T.r1) fun y f fs=> ?_;have n6:P.ls.length<=6:=aj T.n3 (by decide);refine ⟨rfl,Db rfl T.tl (T.sp.symm▸T.few) fun a dx Y' hd h x'=> ?_⟩;replace h:=T.sp▸h;refine Eh h T.row rfl e es n6 T.c6 ?_;refine Ex (h.adv) rfl rfl rfl rfl T.n0 (az (aX _) T.c0) (fun e=>absurd rfl e) fun U=> ?_;refine GQ (h.adv) T.row rfl f fs (aj (a6 T.p0) n6) (aj (a6 T.c0) T.c6) ?_;exact GT ((h.adv).adv) rfl rfl rfl rfl rfl rfl T.p0 T.c0 (fun U=>q _ (.ext ((x'.adv hd).adv hd))) fun e=>absurd e ne
theorem q35 {J:Nat} {offs:Nat->Nat} (T:Txt t R P [] []) (o0:offs 0=2) (hJ:J<=P.ls.length) (good:∀k l,k<J->P.ls[k]? =some l->jr R (offs k) P.c l (offs (k+1))) (bad:J<P.ls.length->∃m,f7 R (offs J) P.c m/\∀Y',qi Y Y'->X (bc m) Y') (ex:J=P.ls.length->offs J<R.length->∀Y',qi Y Y'->X (bc (offs J+1)) Y') (eq:J=P.ls.length->R.length<=offs J->∀a Y',bJ Y' a P->du Y Y'->Q (.ref a) Y'):bd (Gm 35) 35 [.bytes t] Y Q X:=by
 refine bu (T.r0) fun x e es=> ?_;refine bu (T.r1) fun y f fs=> ?_;have n6:P.ls.length<=6:=aj T.n3 (by decide);refine ⟨rfl,Db rfl T.tl (T.sp.symm▸T.few) fun a dx Y' hd h x'=> ?_⟩;replace h:=T.sp▸h;refine Eh h T.row rfl e es n6 T.c6 ?_;refine Ex (h.adv) rfl rfl rfl rfl T.n0 (az (aX _) T.c0) (fun e=>absurd rfl e) fun U=> ?_;refine GQ (h.adv) T.row rfl f fs (aj (a6 T.p0) n6) (aj (a6 T.c0) T.c6) ?_;refine GT ((h.adv).adv) rfl rfl rfl rfl rfl rfl T.p0 T.c0 (fun e=>absurd rfl e) fun U=> ?_;refine l243 fun C hC S hS W hW=> ?_;have h2:=(h.adv (m:=1)).adv (m:=2);have x2:du Y (adv (adv Y' dx R 1) dx R 2):=(x'.adv hd).adv hd;have n1:S≠C:=fun r=>by rw [r,be.set_same] at hS;exact gq hS
 have n3:W≠S:=fun r=>by rw [r,be.set_same] at hW;exact gq hW
 have hW1:=(be.set_ne _ _ n3).symm.trans hW;have n2:W≠C:=fun r=>by rw [r,be.set_same] at hW1;exact gq hW1
 have cC:=x2.none hC;have cS:=x2.none ((be.set_ne _ _ n1).symm.trans hS);have cW:=x2.none ((be.set_ne _ _ n2).symm.trans hW1)
 refine l244 (l0:=[(16,bc P.c0),(19,bc P.r0),(33, .lst [.bytes (ow P.sh)]),(32,bc P.c),(31,bc P.ls.length),(30, .ref a),(3, .bytes t)])
  (aB (fun H=>((bv.set H 15 (.ref C)).set 34 (.ref S)).set 35 (.ref W)) (zO 33 (.lst [.bytes (ow P.sh)]) [(16,bc P.c0),(19,bc P.r0),(33, .lst []),(32,bc P.c),(31,bc P.ls.length),(30, .ref a),(3, .bytes t)])) (fun H' g=> ?_) ((((x2.set cC).set cS).set cW)) (by refine bi o0 ?_;exact (xO (l:=[]) (xO (xO h2 hC) hS) hW)) hd cC cS cW n1 n2 n3 ⟨(be.set_ne _ _ (aS n2)).trans ((be.set_ne _ _ (aS n1)).trans (be.set_same _ _ _)),(be.set_ne _ _ (aS n3)).trans (be.set_same _ _ _),be.set_same _ _ _⟩ T.n0 T.n3 hJ good bad ex eq
 exact ⟨⟨g 16 rfl,g 19 rfl,g 33 rfl,g 32 rfl,g 31 rfl,g 30 rfl,g 3 rfl,trivial⟩,g 31 rfl,g 32 rfl,g 30 rfl,g 19 rfl,g 16 rfl,g 33 rfl⟩
theorem q50 {v:V} (q:bd (Gm 35) 35 [v] Y (fun U Y'=>Q .none Y') Q):bd (Gm 50) 50 [v] Y Q X:=⟨v,rfl,q⟩
end
noncomputable def hY (l:Ln):V:= .lst [bt l.cs, .str l.sz, .bool l.on]
noncomputable def bP (P:Pc):V:= .lst [.lst (P.ls.map hY),bO P, .bool P.sh]
noncomputable def l5 (k:Nat) (v:V):V:=((jf v).bind (·[k]?)).getD .none
theorem q36 {Y:be} {Q X:KV} (q:Q iP Y):bd (Gm 36) 36 [] Y Q X:=⟨rfl,bR q⟩
theorem q37 {Y:be} {Q X:KV} (q:Q (.int 4000) Y):bd (Gm 37) 37 [] Y Q X:=⟨rfl,bR q⟩
section
variable {Y:be} {Q X:KV} {K:KF} {H:bv} {P:Pc} {r:List DS}
theorem l326 (h:H 48=some (bP P)) (q:exDs tab (Gm 44) r (((H.set 47 (.lst (P.ls.map hY))).set 45 (bO P)).set 49 (.bool P.sh)) Y K X):exDs tab (Gm 44) (sf::r) H Y K X:=bg h q
theorem lnl {α:Type} (hp:PcOk P) (f:Ln->α):(P.ls.map f).length<=16777216:=hp.lines f
theorem Dh (hp:PcOk P):P.ls.length<=16777216:=bz hp.n rfl
theorem l327 (hp:PcOk P) (h:H 47=some (.lst (P.ls.map hY))) (q:exDs tab (Gm 44) r (H.set 31 (.lst (P.ls.map fun l=>bt l.cs))) Y K X):exDs tab (Gm 44) (rY::r) H Y K X:=by
 refine bg h (cj (l5 0) (Dh hp) (fun U e=>bZ e) (fun D hD l hl acc K K' q=> ?_) q);exact bx (by rw [ah,hp.cs l hl];exact bz hp.c rfl) q
theorem l328 (hp:PcOk P) (h0:0<P.ls.length) (h47:H 47=some (.lst (P.ls.map hY))) (h31:H 31=some (.lst (P.ls.map fun l=>bt l.cs))) (h45:H 45=some (bO P)) (h49:H 49=some (.bool P.sh)) (q:∀a Y',bJ Y' a P->du Y Y'->Q (.ref a) Y'):exDs tab (Gm 44) [s6] H Y (cQ Q) X:=by
 have hc:=hp.cs _ (List.getElem_mem h0);refine bg h47 (bx (lnl hp _) ?_);refine bg h31 (bD (lnl hp _) rfl (bM (an h0)) ?_);refine bx (by rw [ah,hc];exact bz hp.c rfl) ?_;refine bg h31 ?_;refine bg h47 (cj (l5 1) (Dh hp) (fun U e=>bZ e) (fun D hD l hl acc K K' q=>q) ?_);refine bg h47 (cj (l5 2) (Dh hp) (fun U e=>bZ e) (fun D hD l hl acc K K' q=>q) ?_);refine bg h45 (bg h49 ?_);have g:bd (Gm 5) 5 [.int P.ls.length,bc P.c, .lst (P.ls.map fun l=>bt l.cs), .lst (P.ls.map fun l=> .str l.sz), .lst (P.ls.map fun l=> .bool l.on), .tup [bc P.r0,bc P.c0], .bool P.sh] Y (xA Q) X:=q05 rfl fun a Y' h1 h2=>bR (q a Y' h1 h2);rw [(show ((P.ls.map hY).length:Int)=P.ls.length by rw [ah]),(show ((P.ls[0].cs.map bh.v).length:Int)=P.c by rw [ah,hc])];exact g
theorem q44 (hp:PcOk P) (h0:0<P.ls.length) (q:∀a Y',bJ Y' a P->du Y Y'->Q (.ref a) Y'):bd (Gm 44) 44 [bP P] Y Q X:=
 ⟨rfl,l326 (P:=P) rfl (l327 hp rfl (l328 hp h0 rfl rfl rfl rfl q))⟩
end
theorem Gg {Y:be} {Q X:KV} {l:Ln} {c:Nat} (hc:l.cs.length=c) (h6:c<=6) (q:Q (bt (l.shc c)) Y):bd (Gm 51) 51 [hY l] Y Q X:=by
 have hl':(l.cs.map bh.v).length<=16777216:=by rw [ah,hc];exact bz h6 rfl
 unfold Ln.shc Ln.wd at q;refine ⟨rfl,cu (b:=l.sz==single) (fun e=> ?_) fun e=> ?_⟩
 ·rw [e] at q;have e2:l.cs.take (cond true c (c / 2))=l.cs:=List.take_of_length_le (Nat.le_of_eq hc);rw [e2] at q;exact bR q
 ·rw [e] at q;refine bx hl' (bx hl' ?_)
  have e3:(if ((l.cs.map bh.v).length:Int) / 2<0 then (l.cs.map bh.v).length - (-(((l.cs.map bh.v).length:Int) / 2)).toNat else (((l.cs.map bh.v).length:Int) / 2).toNat)=c / 2:=by
   rw [ah,hc];show (if ((c / 2:Nat):Int)<0 then _ else ((c / 2:Nat):Int).toNat)=_;rw [if_neg (Int.not_lt.mpr (Int.natCast_nonneg _)),Int.toNat_natCast]
  have q:Q (.lst ((l.cs.take (c / 2)).map bh.v)) Y:=q;rw [List.map_take,<-e3] at q;exact bx ((fun n=>bz (by rw [aV,ah,hc];exact aj (Nat.min_le_right _ _) h6) rfl:∀n,((l.cs.map bh.v).take n).length<=16777216) _) (bR q)
theorem q48 {Y:be} {Q X:KV} {rows:List (List Nat)} (hn:rows.length<=1000) (hw:∀r∈rows,r.length<=10000) (hb:∀x∈bk [10] rows,x<256) (q:Q (.bytes (bk [10] rows)) Y):bd (Gm 48) 48 [.lst (rows.map .str)] Y Q X:=by
 have hj:(bk [10] rows).length<=10001000:=aj (li (b:=10000) hw) (Nat.mul_le_mul_left _ hn);have hj':(bk [10] rows).length<=16777216:=aj hj (ad rfl);refine ⟨rfl,bg (allS rows) (bx (aj (nz (b:=10000) hw) (aj (Nat.mul_le_mul_left _ hn) (ad rfl))) ?_)⟩;refine cj (fun v=>match lM v with | some [c]=> .int c | _=> .none) hj' (fun U e=>bZ e) (fun D hD n hn acc K K' q=>q) ?_;refine bg (eW (f:=gA) fun U U=>rfl) (cD (pN hb) (bx (p:=((bk [10] rows).map fun n:Nat=>(n:Int)).length<=16777216) (by rw [ah];exact hj') ?_));rw [CN];exact bR q
structure bK (Y:be) (D R:Addr):Prop where
 ne:D≠R
 d:∃m t:Int,Y D=some (.list [.ref R, .int m, .int t])
 r:∃is:List Int,Y R=some (.list (is.map .int))/\is.length<=20
noncomputable def fB (D R:Addr) (Y Y':be):Prop:=∀b,b≠D->b≠R->Y' b=Y b
section
variable {Y:be} {Q X:KV} {K:KF} {H:bv} {D R:Addr} {r:List DS} {below:Nat} {m t fig:Int} {l:List V}
theorem fB.refl:fB D R Y Y:=fun U U U=>rfl
theorem fB.trans {Jo Jp Jq:be} (a:fB D R Jo Jp) (b:fB D R Jp Jq):fB D R Jo Jq:=fun x h1 h2=>(b x h1 h2).trans (a x h1 h2)
theorem yd (x:Int) (h:0<below):∃v,v<below/\x % (below:Int)=(v:Int):=
 have hb:(0:Int)<(below:Int):=Int.ofNat_lt.mpr h
 ⟨(x % (below:Int)).toNat,(Int.toNat_lt (Int.emod_nonneg x (Int.ne_of_gt hb))).mpr (Int.emod_lt_of_pos x hb),(Int.toNat_of_nonneg (Int.emod_nonneg x (Int.ne_of_gt hb))).symm⟩
theorem l266 (h39:H 39=some (.ref D)) (hD:Y D=some (.list [.ref R, .int m, .int t])) (q:exDs tab (Gm 39) r H (Y.set D (.list [.ref R, .int m, .int (t+1)])) K X):exDs tab (Gm 39) (sD::r) H Y K X:=by
 refine bg h39 ?_;refine dq hD (ad rfl) rfl ?_;refine bg h39 ?_;exact iD hD (ad rfl) (ad rfl) q
theorem Gi (h39:H 39=some (.ref D)) (hD:Y D=some (.list [.ref R, .int m, .int t])) (q:exDs tab (Gm 39) r (H.set 41 (.int (m+10007*t))) Y K X):exDs tab (Gm 39) (uM::r) H Y K X:=by
 refine bg h39 ?_;refine dq (k:=1) hD (ad rfl) rfl ?_;refine bg h39 ?_;exact dq (k:=2) hD (ad rfl) rfl q
theorem l274 (h39:H 39=some (.ref D)) (h41:H 41=some (.int fig)) (hD:Y D=some (.list [.ref R, .int m, .int t])) (q:∀m',exDs tab (Gm 39) r H (Y.set D (.list [.ref R, .int m', .int t])) K X):exDs tab (Gm 39) (n9::r) H Y K X:=by
 refine bg h41 ?_;refine cD (Bool.or_true _) ?_;refine bg h39 ?_;exact iD hD (ad rfl) (ad rfl) (q _)
theorem l275 (h39:H 39=some (.ref D)) (h40:H 40=some (bc below)) (hb:0<below) (hD:Y D=some (.list [.ref R, .int m, .int t])) (q:∀v,v<below->Q (bc v) Y):exDs tab (Gm 39) [nS] H Y (cQ Q) X:=by
 refine bg h39 ?_;refine dq hD (ad rfl) rfl ?_;refine bg h40 (bx (Int.ofNat_lt.mpr hb) ?_);refine bu (yd (m / 64) hb) fun v hv e=> ?_;refine bi e ?_;exact bR (q v hv)
theorem A4 {T:eT} {G:dW} {x:V} (hR:Y R=some (.list (l++[x]))) (hl:l.length<=100) (q:Q x (Y.set R (.list l))):gd (CB tab.cls .pop (.ref R) Y) (evs T G [] H Y (fun vs Jp=>xQ G .pop (.ref R) vs Jp Q X) X):=by
 refine cD (ce hR) (bg (bF hR) (bx (by refine bi ai ?_;exact aj (Nat.add_le_add_right hl 1) (ad rfl)) (bg (x:=x) ?_ ?_)))
 ·refine ak (List.getLast?_append ..) ?_;rfl
 ·refine bi List.dropLast_concat ?_;exact q
theorem zi (is:List Int):iu (.lst (is.map .int)) 8=true:=cB fun U=>rfl
theorem g7:∀l:List V,bw (.lst l) (.lst [])=l.isEmpty
 | []=>rfl
 | U::z1=>rfl
theorem Bc {is:List Int} {T:eT} {G:dW} {p:Pos} (hR:Y R=some (.list (is.map .int))) (q:Q (.bool (!is.isEmpty)) Y):dO T G (.lst false [] p) H Y (fun b Jp=>BN .NotEq (.ref R) b Jp Q) X:=by
 have e:=gV hR;refine cD (b:=gz (deref (.ref R) Y) (.lst [])) (by refine bi e ?_;exact bY (zi is) rfl) ?_;refine bi (show fl true (bw (deref (.ref R) Y) (deref (.lst []) Y))= !is.isEmpty by rw [e];show (!(bw (.lst (is.map .int)) (.lst [])))=_;rw [g7];cases is<;>rfl) ?_;exact q
theorem gdJ {i:Int} {P:Prop} (h:i<1073741824) (q:P):gd (decide (i<1073741824)) P:=by refine bi (aA h) ?_;exact q
theorem Fp (h39:H 39=some (.ref D)) (hD:Y D=some (.list [.ref R, .int m, .int t])) (hR:Y R=some (.list [])) (q:exDs tab (Gm 39) r H Y K X):exDs tab (Gm 39) (m4::r) H Y K X:=by
 refine bg h39 ?_;refine dq (k:=0) hD (ad rfl) rfl ?_;refine Bc (is:=[]) hR ?_;exact q
theorem l267 {pre:List Int} {x:Int} (h39:H 39=some (.ref D)) (h40:H 40=some (bc below)) (hb:0<below) (hb'':(below:Int)<1073741824) (hD:Y D=some (.list [.ref R, .int m, .int t])) (ne:D≠R) (hR:Y R=some (.list ((pre++[x]).map .int))) (hl:pre.length<20) (q:exDs tab (Gm 39) r H Y (cQ Q) X) (qb:∀v y,v<below->Q (bc v) (Y.set R (.list ((pre++[y]).map .int)))):exDs tab (Gm 39) (m4::r) H Y (cQ Q) X:=by
 have hpl:(pre.map V.int).length<=100:=by rw [ah];exact aj (a6 hl) (by decide)
 have e0:(!(pre++[x]).isEmpty)=true:=by cases pre<;>rfl
 have hR2:=hR;rw [aJ] at hR2;refine bg h39 ?_;refine dq hD (ad rfl) rfl ?_;refine Bc hR ?_;refine iL e0 ?_;refine bg h39 ?_;refine dq hD (ad rfl) rfl ?_;refine eB hR2 (az hpl (ad rfl)) ?_;refine EA (fun U=> ?_) fun U=>q;refine bg h39 ?_;refine dq hD (ad rfl) rfl ?_;refine A4 hR2 hpl ?_;refine bg (o:=bv.set H 11 (.int x) 39) h39 ?_;refine dq ((be.set_ne _ _ ne).trans hD) (ad rfl) rfl ?_;refine cD (ce (be.set_same _ _ _)) ?_;refine bg h40 ?_;refine bx (Int.ofNat_lt.mpr hb) ?_
 with_reducible refine gdJ hb'' ?_
 refine bg (bF (be.set_same _ _ _)) (bx (az hpl (ad rfl)) ?_);refine bg h40 (bx (Int.ofNat_lt.mpr hb) ?_);refine cr fun hn=> ?_;obtain ⟨v,hv,e⟩:=yd x hb;refine hn ?_;rw [e,be.set_set];have:=qb v (x / below) hv;rw [bq] at this;exact bR this
theorem Ft (h39:H 39=some (.ref D)) (hD:Y D=some (.list [.ref R, .int m, .int t])) (hR:Y R=some (.list [])) (q:exDs tab (Gm 39) r H Y K X):exDs tab (Gm 39) (nq::r) H Y K X:=by
 refine bg h39 ?_;refine dq (k:=0) hD (ad rfl) rfl ?_;refine Bc (is:=[]) hR ?_;exact q
theorem l272 {pre:List Int} {x:Int} (h39:H 39=some (.ref D)) (h41:H 41=some (.int fig)) (hD:Y D=some (.list [.ref R, .int m, .int t])) (hR:Y R=some (.list ((pre++[x]).map .int))) (hl:pre.length<20) (q:∀f,exDs tab (Gm 39) r (H.set 41 (.int f)) (Y.set R (.list (pre.map .int))) K X):exDs tab (Gm 39) (nq::r) H Y K X:=by
 have e0:(!(pre++[x]).isEmpty)=true:=by cases pre<;>rfl
 have hR2:=hR;rw [aJ] at hR2;refine bg h39 ?_;refine dq hD (ad rfl) rfl ?_;refine Bc hR ?_;refine iL e0 ?_;refine bg h41 ?_;refine bg h39 ?_;refine dq hD (ad rfl) rfl ?_;refine A4 hR2 (show (pre.map V.int).length<=100 by rw [ah];exact aj (a6 hl) (by decide)) ?_;exact q _
theorem jV (h:bK Y D R) (hb:0<below) (hb':below<=1000) (q:∀v Y',v<below->bK Y' D R->fB D R Y Y'->Q (bc v) Y'):bd (Gm 39) 39 [.ref D,bc below] Y Q X:=by
 refine cr fun hn=> ?_;obtain ⟨ne,⟨m,t,hD⟩,is,hR,hl⟩:=h;refine hn ⟨rfl,l266 rfl hD ?_⟩;have oD:∀{o} {Y:be},fB D R Y (Y.set D o):=fun b h1 h2=>be.set_ne _ _ h1;have oR:∀{o} {Y:be},fB D R Y (Y.set R o):=fun b h1 h2=>be.set_ne _ _ h2;have hR1:(Y.set D (.list [.ref R, .int m, .int (t+1)])) R=some (.list (is.map .int)):=(be.set_ne _ _ (aS ne)).trans hR;have hD1:(Y.set D (.list [.ref R, .int m, .int (t+1)])) D=_:=be.set_same _ _ _
 have fin:∀(H:bv) (Jp:be) (is:List Int) (fig:Int),H 39=some (.ref D)->H 40=some (bc below)->H 41=some (.int fig)->Jp D=some (.list [.ref R, .int m, .int (t+1)])->Jp R=some (.list (is.map .int))->is.length<=20->fB D R Y Jp->exDs tab (Gm 39) [n9,nS] H Jp (cQ Q) X:=fun H Jp is fig h1 h2 h3 h4 h5 h6 h7=>
  l274 h1 h3 h4 fun m'=>l275 h1 h2 hb (be.set_same _ _ _) fun v hv=>q v _ hv ⟨ne,⟨_,_,be.set_same _ _ _⟩,is,(be.set_ne _ _ (aS ne)).trans h5,h6⟩ (h7.trans oD)
 clear hR hD;rcases List.eq_nil_or_concat is with rfl | ⟨pre,x,rfl⟩
 ·refine Fp rfl hD1 hR1 (Gi rfl hD1 (Ft rfl hD1 hR1 ?_));exact fin _ _ [] _ rfl rfl rfl hD1 hR1 (aX _) oD
 ·rw [List.concat_eq_append] at hR1 hl;have hp:pre.length<20:=by rw [ai] at hl;exact hl
  refine l267 rfl rfl hb (by lia) hD1 ne hR1 hp (Gi rfl hD1 (l272 rfl rfl hD1 hR1 hp fun f=> ?_)) fun v y hv=> ?_
  ·exact fin _ _ pre f rfl rfl rfl ((be.set_ne _ _ ne).trans hD1) (be.set_same _ _ _) (a6 hp) (oD.trans oR)
  ·exact q v _ hv ⟨ne,⟨_,_,(be.set_ne _ _ ne).trans hD1⟩,_,be.set_same _ _ _,by refine bi ai ?_;exact hp⟩ (oD.trans oR)
end
theorem fM {α:Type} {ifsK eltK:bv->be->KV->Prop} {tg:TT} {c:Cd} {H:bv} {Y:be} {Q:KV} {l:List α} {g:α->V} {L:List V} (hL:L=l.map g) (f:V->V) (hl:l.length<=16777216) (h0:∀d,c=some d->d.2≠ .hid/\Y d.1=some d.2) (h:∀D,Y D=none->∀y∈l,on (dT tg (g y) H) fun H'=>∀acc (K:KV) (K':be->Prop),K (f (g y)) (Y.set D (.list acc))->ifsK H' (Y.set D (.list acc)) (fun b Jo=>pK b (eltK H' Jo K) (K' Jo))) (q:Q (.lst (l.map fun y=>f (g y))) Y):∀D,Y D=none->dQ ifsK eltK tg c D L H (Y.set D (.list [])) (fun Jq=>kK false D (unhid c Jq) Q):=by
 subst hL;exact cj f hl h0 h q
section
variable {Y:be} {Q X:KV} {K:KF} {H:bv} {D R:Addr} {r:List DS}
theorem ev38 {T:eT} {G:dW} {x:Int} (h:H 11=some (.int x)) (q:Q (.int (x % 1000000000000000000000000000000)) Y):dO T G Cj H Y Q X:=bg h q
theorem l261 {l:List Int} (hl:l.length<=63) (h37:H 37=some (.lst (l.map .int))) (q:∀cs:List Int,cs.length<=20->exDs tab (Gm 38) r ((H.set 15 (.lst (cs.map .int))).set 38 (.int 1009)) Y K X):exDs tab (Gm 38) (tQ::r) H Y K X:=by
 refine bg h37 (bx (by rw [ah];exact bz hl rfl) (bx (p:=((l.map V.int).take 20).length<=16777216) ?_ ?_))
 ·rw [aV];exact aj (Nat.min_le_left _ _) (ad rfl)
 refine fM (List.map_take (l:=l) (i:=20)).symm (fun v=> .int (((gA v).getD 0) % 1000000000000000000000000000000)) (bz (List.length_take_le _ _) rfl) (fun U e=>bZ e) (fun D hD n hn acc K K' q=>ji (ev38 (x:=n) rfl q)) ?_;have:=q ((l.take 20).map (· % 1000000000000000000000000000000)) (by rw [ah];exact List.length_take_le _ _);rw [List.map_map] at this;exact this
theorem l262 {cs:List Int} (h15:H 15=some (.lst (cs.map .int))) (h:H=mk [(38, .int 1009),(15, .lst (cs.map .int)),(37,(H 37).getD .none)]) (q:∀H' m,H' 15=some (.lst (cs.map .int))->H' 38=some (.int m)->exDs tab (Gm 38) r H' Y K X):exDs tab (Gm 38) (uv::r) H Y K X:=by
 refine bg h15 ?_;refine eM (fun m:Int=>[(38, .int m),(15, .lst (cs.map .int)),(37,(H 37).getD .none)]) (fun U=>Y) (fun r U=>∃l:List Int,r=l.map .int) ?_ ?_ 1009 ⟨cs,rfl⟩ h rfl
 ·intro m _;exact q _ m rfl rfl
 ·intro v r m zp1 W hW;obtain ⟨l,e⟩:=zp1
  cases l with
  | nil=>exact qm e
  | cons x l=>
   obtain ⟨rfl,rfl⟩:=List.cons.inj e;refine cD (Bool.or_true _) ?_;exact cV (hW _ ⟨l,rfl⟩) ⟨rfl,rfl,rfl,trivial⟩
theorem l264 {cs:List Int} {m:Int} (hl:cs.length<=20) (h15:H 15=some (.lst (cs.map .int))) (h38:H 38=some (.int m)) (q:∀D R Y',bK Y' D R->du Y Y'->Q (.ref D) Y'):exDs tab (Gm 38) [uh] H Y (cQ Q) X:=by
 refine bg h15 (bx (by rw [ah];exact bz hl rfl) (bx (by refine bi List.length_reverse ?_;rw [ah];exact bz hl rfl) fun R hR=> ?_));refine bg h38 fun D hD=> ?_;have ne:D≠R:=fun r=>by subst r;rw [be.set_same] at hD;exact gq hD
 refine bR (q D R _ ⟨ne,⟨m,0,be.set_same _ _ _⟩,cs.reverse, ?_,by refine bi List.length_reverse ?_;exact hl⟩ ((du.new hR).trans (du.new hD)));refine bi List.map_reverse ?_;exact (be.set_ne _ _ (aS ne)).trans (be.set_same _ _ _)
theorem q38 {l:List Int} (hl:l.length<=63) (q:∀D R Y',bK Y' D R->du Y Y'->Q (.ref D) Y'):bd (Gm 38) 38 [.lst (l.map .int)] Y Q X:=
 ⟨rfl,l261 hl rfl fun cs hc=>l262 rfl rfl fun H' m h1 h2=>l264 hc h1 h2 q⟩
end
noncomputable def flL:List Nat:=[0,0,1,32,128,512,257,1568]
noncomputable def flG:List Nat:=[0,1,32,128,256,257,512,1568]
noncomputable def foL:List Int:=[-1,1,16843267]
noncomputable def bL:List Int:=[-1,4,200]
noncomputable def uL:List Int:=[-1,2]
structure fi (e:Bool) (p:fg):Prop where
 f:p.f∈flG
 o:p.o∈foL
 b:p.b∈bL
 u:p.u∈uL
 n:oS p e=p
theorem eY {L:List V} {v:Nat} {f:V->Prop} (hl:L.length<=16777216) (hv:v<L.length) (q:∀x,x∈L->f x):gd (decide (L.length<=16777216)) (on (dk (v:Int) L.length) fun k=>on L[k]? f):=bD hl rfl (an hv) (q _ (List.getElem_mem hv))
section
variable {Y:be} {Q X:KV} {K:KF} {H:bv} {D R:Addr} {r:List DS}
theorem l277 (h39:H 39=some (.ref D)) (h:bK Y D R) (q:∀f∈flL,∀o∈foL,∀Y',bK Y' D R->fB D R Y Y'->exDs tab (Gm 40) r ((H.set 7 (bc f)).set 8 (.int o)) Y' K X):exDs tab (Gm 40) (u4::r) H Y K X:=by
 refine bg h39 (jV h (by decide) (by decide) fun v σ1 hv d1 o1=> ?_);refine eY (L:=flL.map bc) (ad rfl) hv fun x hx=> ?_;refine bg h39 (jV d1 (by decide) (by decide) fun w σ2 hw d2 o2=> ?_);refine eY (L:=foL.map V.int) (ad rfl) hw fun y hy=> ?_;obtain ⟨f,hf,rfl⟩:=aN.mp hx;obtain ⟨o,ho,rfl⟩:=aN.mp hy;exact q f hf o ho σ2 d2 (o1.trans o2)
theorem l278 (h39:H 39=some (.ref D)) (h:bK Y D R) (q:∀f∈bL,∀o∈uL,∀Y',bK Y' D R->fB D R Y Y'->exDs tab (Gm 40) r ((H.set 9 (.int f)).set 10 (.int o)) Y' K X):exDs tab (Gm 40) (ud::r) H Y K X:=by
 refine bg h39 (jV h (by decide) (by decide) fun v σ1 hv d1 o1=> ?_);refine eY (L:=bL.map V.int) (ad rfl) hv fun x hx=> ?_;refine bg h39 (jV d1 (by decide) (by decide) fun w σ2 hw d2 o2=> ?_);refine eY (L:=uL.map V.int) (ad rfl) hw fun y hy=> ?_;obtain ⟨f,hf,rfl⟩:=aN.mp hx;obtain ⟨o,ho,rfl⟩:=aN.mp hy;exact q f hf o ho σ2 d2 (o1.trans o2)
noncomputable def lE (e:Bool) (f:Nat) (o b u:Int):fg:=
 let g:=cond e (f &&& 4000) f
 ⟨g,cond e (cond (decide ((0:Int)<g)) o (-1)) o,b,cond (decide ((512:Int)<=g)) u (-1)⟩
theorem E0 {f:Nat} {o b u:Int} (h7:H 7=some (bc f)) (h8:H 8=some (.int o)) (h9:H 9=some (.int b)) (h10:H 10=some (.int u)) (q:Q (fg.v ⟨f,o,b,cond (decide ((512:Int)<=f)) u (-1)⟩) Y):exDs tab (Gm 40) [mU] H Y (cQ Q) X:=by
 refine bg h7 (bg h8 (bg h9 (bg h7 ?_)));refine cu (b:=decide ((512:Int)<=f)) (fun e=>bg h10 ?_) fun e=> ?_<;>(rw [e] at q;exact bR q)
theorem l280 {f:Nat} (h7:H 7=some (bc f)) (q:exDs tab (Gm 40) r (H.set 7 (bc (f &&& 4000))) Y K X):exDs tab (Gm 40) (sB::r) H Y K X:=bg h7 (q37 q)
theorem l281 {g:Nat} {o:Int} (h7:H 7=some (bc g)) (h8:H 8=some (.int o)) (q:exDs tab (Gm 40) r (H.set 8 (.int (cond (decide ((0:Int)<g)) o (-1)))) Y K X):exDs tab (Gm 40) (vH::r) H Y K X:=by
 refine bg h7 (cu (b:=decide ((0:Int)<g)) (fun e=>bg h8 ?_) fun e=> ?_)<;>(replace q:=e▸q;exact q)
theorem l279 {e:Bool} {f:Nat} {o b u:Int} (h42:H 42=some (.bool e)) (h7:H 7=some (bc f)) (h8:H 8=some (.int o)) (h9:H 9=some (.int b)) (h10:H 10=some (.int u)) (q:Q (lE e f o b u).v Y):exDs tab (Gm 40) [u9,mU] H Y (cQ Q) X:=by
 cases e with
 | false=>exact bg h42 (fP (E0 h7 h8 h9 h10 q))
 | true=>
  refine bg h42 (ji (l280 h7 (l281 rfl h8 ?_)));exact E0 rfl rfl h9 h10 q
theorem xE {p q:fg} (h1:p.f=q.f) (h2:p.o=q.o) (h3:p.b=q.b) (h4:p.u=q.u):p=q:=by
 show fg.mk p.f p.o p.b p.u=⟨q.f,q.o,q.b,q.u⟩;refine bi h1 ?_;refine bi h2 ?_;refine bi h3 ?_;refine bi h4 ?_;rfl
theorem penF:∀e:Bool,∀f∈flL,∀o∈foL,∀b∈bL,∀u∈uL,(lE e f o b u).f∈flG/\(lE e f o b u).o∈foL/\(lE e f o b u).b∈bL/\(lE e f o b u).u∈uL/\((oS (lE e f o b u) e).f=(lE e f o b u).f/\(oS (lE e f o b u) e).o=(lE e f o b u).o/\(oS (lE e f o b u) e).u=(lE e f o b u).u):=by decide+kernel
theorem q40 {e:Bool} (h:bK Y D R) (q:∀p Y',fi e p->bK Y' D R->fB D R Y Y'->Q p.v Y'):bd (Gm 40) 40 [.ref D, .bool e] Y Q X:=by
 refine ⟨rfl,l277 rfl h fun f hf o ho σ1 d1 o1=>l278 rfl d1 fun b hb u hu σ2 d2 o2=>l279 rfl rfl rfl rfl rfl (q _ _ ?_ d2 (o1.trans o2))⟩;have zz:=penF e f hf o ho b hb u hu;exact ⟨(zz.1),(zz.2.1),(zz.2.2.1),(zz.2.2.2.1),xE (zz.2.2.2.2.1) (zz.2.2.2.2.2.1) rfl (zz.2.2.2.2.2.2)⟩
end
noncomputable def yB:List (List Nat):=[[97],[98],[99],[97,769],[98,769],[99,769]]
noncomputable def yU:List (List Nat):=[[19968],[19969],[19970]]
noncomputable def One (c:bh):Prop:=c.w=1/\((c.s=[]/\fi true c.p)\/(c.s∈yB/\fi false c.p))
noncomputable def Two (c:bh):Prop:=c.w=2/\c.s∈yU/\fi false c.p
structure xy (sz:List Nat) (c:bh):Prop where
 one:One c\/(sz=single/\Two c)
structure LnG (c:Nat) (l:Ln):Prop where
 sz:l.sz∈qS
 len:l.cs.length=c
 bs:∃bs,(∀c∈bs,xy l.sz c)/\l.cs=bV bs
theorem fQ (bs:List bh) (c:bh):bV (bs++[c])=bV bs++dK c:=by unfold bV;refine bi aJ ?_;refine bi List.flatten_append ?_;exact aB (_++ ·) (aE _)
theorem yA:One ⟨[],1,nrm⟩:=⟨rfl, .inl ⟨rfl,⟨.head _, .head _, .head _, .head _,rfl⟩⟩⟩
section
variable {Y:be} {Q X:KV} {K:KF} {H:bv} {D R F:Addr} {r:List DS} {sz:List Nat} {c k:Nat} {p:fg} {s:List Nat} {acc:List V}
theorem l286 (h39:H 39=some (.ref D)) (h:bK Y D R) (q:∀v Y',v<5->bK Y' D R->fB D R Y Y'->exDs tab (Gm 41) r (H.set 43 (bc v)) Y' K X):exDs tab (Gm 41) (rX::r) H Y K X:=
 bg h39 (jV (below:=5) h (by decide) (by decide) fun v Y' hv d o=>q v Y' hv d o)
theorem GJ (h43:H 43=some (bc 0)) (h2:H 2=some (.ref F)) (hF:Y F=some (.list acc)) (hl:acc.length<=100) (q:K .cont H (Y.set F (.list (acc++[iP])))):exDs tab (Gm 41) (nU::r) H Y K X:=
 bg h43 (bg h2 (cD (ce hF) (q36 (bg (bF hF) (bx (az hl (ad rfl)) q)))))
theorem l287 (h43:H 43=some (bc (k+1))) (q:exDs tab (Gm 41) r H Y K X):exDs tab (Gm 41) (nU::r) H Y K X:=bg h43 q
theorem Gq (h43:H 43=some (bc 1)) (q:exDs tab (Gm 41) r (H.set 25 (.tup [])) Y K X):exDs tab (Gm 41) (nK::r) H Y K X:=bg h43 q
theorem l290 (h43:H 43=some (bc k)) (hk:k=2\/k=3\/k=4) (h39:H 39=some (.ref D)) (h:bK Y D R) (q:∀s Y',s=[97]\/s=[98]\/s=[99]->bK Y' D R->fB D R Y Y'->exDs tab (Gm 41) r (H.set 25 (.tup (s.map bc))) Y' K X):exDs tab (Gm 41) (nK::r) H Y K X:=by
 have g:bd (Gm 39) 39 [.ref D,bc 3] Y (fun v Jo=>on (gA v) fun i=>exDs tab (Gm 41) r (H.set 25 (.tup [.int (97+i)])) Jo K X) X:=jV h (by decide) (by decide) fun v Y' hv d o=>
  match v,hv with
  | 0,U=>q [97] Y' (.inl rfl) d o
  | 1,U=>q [98] Y' (.inr (.inl rfl)) d o
  | 2,U=>q [99] Y' (.inr (.inr rfl)) d o
 rcases hk with rfl | rfl | rfl<;>exact bg h43 (bg h39 g)
theorem EY (h39:H 39=some (.ref D)) (h43:H 43=some (bc k)) (h:bK Y D R) (q:∀p Y',fi (decide ((k:Int)=1)) p->bK Y' D R->fB D R Y Y'->exDs tab (Gm 41) r (H.set 5 p.v) Y' K X):exDs tab (Gm 41) (tM::r) H Y K X:=
 bg h39 (bg h43 (q40 (e:=decide ((k:Int)=1)) h q))
theorem l295 (h2:H 2=some (.ref F)) (h25:H 25=some (.tup (s.map bc))) (h43:H 43=some (bc k)) (h5:H 5=some p.v) (hF:Y F=some (.list acc)) (hl:acc.length<=100) (hs:s.length<=2) (q:K .next H (Y.set F (.list (acc++[bh.v ⟨s++cond (decide ((k:Int)=3)) [769] [],1,p⟩])))):exDs tab (Gm 41) [uT] H Y K X:=by
 have hl':=az hl (ad rfl:101<=16777216);refine bg h2 (cD (ce hF) (bg h25 (bg h43 ?_)));have e:∀t:List Nat,bh.v ⟨s++t,1,p⟩= .tup [.tup (s.map bc++t.map bc), .int 1,p.v]:=fun t=>by rw [<-aJ];rfl
 refine cu (b:=decide ((k:Int)=3)) (fun e3=> ?_) fun e3=> ?_
 ·rw [e3] at q;refine bx (by rw [ah];exact aj (aO hs) (ad rfl)) (bg h5 (bg (bF hF) (bx hl' ?_)));rw [e] at q;exact q
 ·rw [e3] at q;refine bx (by rw [ah];exact aj hs (ad rfl)) (bg h5 (bg (bF hF) (bx hl' ?_)));rw [e] at q;exact q
theorem DQ {w:Nat} (hw:s=[97]/\w=19968\/s=[98]/\w=19969\/s=[99]/\w=19970) (h2:H 2=some (.ref F)) (h25:H 25=some (.tup (s.map bc))) (h5:H 5=some p.v) (hF:Y F=some (.list acc)) (hl:acc.length<=100) (q:K .next H (Y.set F (.list (acc++[bh.v ⟨[w],2,p⟩,tail0.v])))):exDs tab (Gm 41) [tu] H Y K X:=by
 refine bg h2 (cD (ce hF) ?_);refine bg h25 ?_;rcases hw with ⟨rfl,rfl⟩ | ⟨rfl,rfl⟩ | ⟨rfl,rfl⟩<;>exact bg h5 (bg (bF hF) (bx (aj (Nat.add_le_add_right hl 2) (ad rfl)) q))
theorem l292 (h2:H 2=some (.ref F)) (h25:H 25=some (.tup (s.map bc))) (h43:H 43=some (bc k)) (h5:H 5=some p.v) (h36:H 36=some (.str sz)) (h32:H 32=some (bc c)) (hF:Y F=some (.list acc)) (hl:acc.length<=100) (hs:s.length<=2) (hs':k=4->s=[97]\/s=[98]\/s=[99]) (qw:k=4->sz=single->acc.length+1<c->∀w,[w]∈yU->K .next H (Y.set F (.list (acc++[bh.v ⟨[w],2,p⟩,tail0.v])))) (q:K .next H (Y.set F (.list (acc++[bh.v ⟨s++cond (decide ((k:Int)=3)) [769] [],1,p⟩])))):exDs tab (Gm 41) [mY] H Y K X:=by
 have el:=l295 (X:=X) h2 h25 h43 h5 hF hl hs q;refine bg h43 (cu (b:=decide ((k:Int)=4)) (fun e4=> ?_) fun e4=> ?_)
 ·have hk:k=4:=Int.ofNat_inj.mp (aU e4);refine bg h36 (cu (fun e5=> ?_) fun e5=> ?_)
  ·refine bg h2 (bg (iE hF) (bx (aj hl (ad rfl)) (bg h32 ?_)));refine cu (b:=decide ((acc.length:Int)+1<c)) (fun e6=>ji ?_) fun e6=>fP el;have h6:acc.length+1<c:=Int.ofNat_lt.mp (aU e6);have h5':sz=single:=eq_of_beq e5;rcases hs' hk with rfl | rfl | rfl
   ·exact DQ (.inl ⟨rfl,rfl⟩) h2 h25 h5 hF hl (qw hk h5' h6 _ (.head _))
   ·exact DQ (.inr (.inl ⟨rfl,rfl⟩)) h2 h25 h5 hF hl (qw hk h5' h6 _ (.tail _ (.head _)))
   ·exact DQ (.inr (.inr ⟨rfl,rfl⟩)) h2 h25 h5 hF hl (qw hk h5' h6 _ (.tail _ (.tail _ (.head _))))
  ·exact fP el
 ·exact fP el
end
theorem wa {Y:be} {D R F:Addr} (h:bK Y D R) (hF:Y F=none):F≠D/\F≠R:=by
 obtain ⟨U,⟨m,t,hD⟩,is,hR,U⟩:=h;exact ⟨fun r=>(by rw [r,hD] at hF;exact gq hF),fun r=>(by rw [r,hR] at hF;exact gq hF)⟩
theorem bK.new {Y:be} {D R F:Addr} {o:O} (h:bK Y D R) (nD:F≠D) (nR:F≠R):bK (Y.set F o) D R:=
 let ⟨ne,⟨m,t,hD⟩,is,hR,hl⟩:=h
 ⟨ne,⟨m,t,(be.set_ne _ _ (aS nD)).trans hD⟩,is,(be.set_ne _ _ (aS nR)).trans hR,hl⟩
theorem bK.del {Y:be} {D R F:Addr} (h:bK Y D R) (nD:F≠D) (nR:F≠R):bK (Y.del F) D R:=
 let ⟨ne,⟨m,t,hD⟩,is,hR,hl⟩:=h
 ⟨ne,⟨m,t,(dn (aS nD)).trans hD⟩,is,(dn (aS nR)).trans hR,hl⟩
theorem letF:∀k∈[2,3,4],∀sg∈[[97],[98],[99]],sg++cond (decide (((k:Nat):Int)=3)) [769] []∈yB:=by decide+kernel
structure S41 where
 (Y:be) (bs:List bh)
structure Fu (Y:be) (D R F:Addr) (c:Nat) (sz:List Nat) (s:S41):Prop where
 d:bK s.Y D R
 off:∀b,b≠D->b≠R->b≠F->s.Y b=Y b
 f:s.Y F=some (.list ((bV s.bs).map bh.v))
 ok:∀c∈s.bs,xy sz c
 le:(bV s.bs).length<=c
section
variable {Y:be} {Q X:KV} {K:KF} {H:bv} {D R F:Addr} {sz:List Nat} {c:Nat} {s:S41}
theorem AA {Y':be} {x:bh} (hs:Fu Y D R F c sz s) (hσ:bK Y' D R) (off:fB D R s.Y Y') (nD:F≠D) (nR:F≠R) (hx:xy sz x) (hl:(bV s.bs).length+(dK x).length<=c):Fu Y D R F c sz ⟨Y'.set F (.list ((bV s.bs).map bh.v++(dK x).map bh.v)),s.bs++[x]⟩:=
 ⟨hσ.new nD nR,fun b h1 h2 h3=>(be.set_ne _ _ h3).trans ((off b h1 h2).trans (hs.off b h1 h2 h3)),by
  (refine ak (be.set_same ..) ?_;rw [fQ,aJ]),fun y hy=>(aD.mp hy).elim (hs.ok y) fun h=>ao.mp h▸hx,by show (bV (s.bs++[x])).length<=c;rw [fQ,ai];exact hl⟩
theorem Er {W:S41->Prop} (h39:H 39=some (.ref D)) (h2:H 2=some (.ref F)) (h36:H 36=some (.str sz)) (h32:H 32=some (bc c)) (c6:c<=6) (hs:Fu Y D R F c sz s) (hlt:(bV s.bs).length<c) (nD:F≠D) (nR:F≠R) (hW:∀s',Fu Y D R F c sz s'->(bV s.bs).length<(bV s'.bs).length->W s') (hK:∀fl H' s',(fl= .next\/fl= .cont)->W s'->(∀n,(Nat.beq n 43 || (Nat.beq n 25 || Nat.beq n 5))=false->H' n=H n)->K fl H' s'.Y):exDs tab (Gm 41) CJ H s.Y K X:=by
 have hl:((bV s.bs).map bh.v).length<=100:=by rw [ah];exact aj hs.le (aj c6 (by decide))
 have n43:∀(v:V) (n:Nat),(Nat.beq n 43 || (Nat.beq n 25 || Nat.beq n 5))=false->(H.set 43 v) n=H n:=fun v n e=>by
  show cond (Nat.beq n 43) _ _=_;refine bi ((aT.mp e).1) ?_;rfl
 have n3:∀(v w u:V) (n:Nat),(Nat.beq n 43 || (Nat.beq n 25 || Nat.beq n 5))=false->(((H.set 43 v).set 25 w).set 5 u) n=H n:=fun v w u n e=>by
  refine fI (aT.mp e) fun a1 a2=> ?_;have zz:=aT.mp a2;show cond (Nat.beq n 5) _ (cond (Nat.beq n 25) _ (cond (Nat.beq n 43) _ _))=_;refine bi a1 ?_;refine bi (zz.1) ?_;refine bi (zz.2) ?_;rfl
 refine l286 h39 hs.d fun k σ1 hk d1 o1=> ?_
 have fin:∀(k:Nat) (sg:List Nat) (p:fg) (σ2:be),(k=1/\sg=[]/\fi true p)\/((k=2\/k=3\/k=4)/\(sg=[97]\/sg=[98]\/sg=[99])/\fi false p)->bK σ2 D R->fB D R s.Y σ2->exDs tab (Gm 41) [mY] (((H.set 43 (bc k)).set 25 (.tup (sg.map bc))).set 5 p.v) σ2 K X:=by
  intro k sg p σ2 hk d2 o2;refine l292 (c:=c) h2 rfl rfl rfl h36 h32 ((o2 F nD nR).trans hs.f) hl ?_ ?_ ?_ ?_
  ·rcases hk with ⟨U,rfl,U⟩ | ⟨U,rfl | rfl | rfl,U⟩<;>exact ad rfl
  ·rintro rfl
   rcases hk with ⟨h,U⟩ | ⟨U,h,U⟩
   ·contradiction
   ·exact h
  ·intro h4 hsz hc w hw
   have hp:fi false p:=by
    rcases hk with ⟨h,U⟩ | ⟨U,U,h⟩
    ·rw [h4] at h;contradiction
    ·exact h
   rw [ah] at hc;have x2:dK ⟨[w],2,p⟩=[⟨[w],2,p⟩,tail0]:=(fun {x} h=>by delta dK;rw [h];rfl:∀{x:bh},x.w=2->dK x=[x,tail0]) rfl;refine hK .next _ _ (.inl rfl) (hW _ (AA hs d2 o2 nD nR ⟨.inr ⟨hsz,rfl,hw,hp⟩⟩ (by refine bi x2 ?_;exact hc)) ?_) (n3 _ _ _);rw [fQ];refine bi ai ?_;exact Nat.lt_add_of_pos_right (Nat.succ_pos 1)
  ·have x1:∀s',dK ⟨s',1,p⟩=[⟨s',1,p⟩]:=fun s'=>(fun {x} h=>by delta dK;rw [h];rfl:∀{x:bh},x.w=1->dK x=[x]) rfl
   have hx:xy sz ⟨sg++cond (decide ((k:Int)=3)) [769] [],1,p⟩:=by
    rcases hk with ⟨rfl,rfl,hp⟩ | ⟨h1,h2,hp⟩
    ·exact ⟨.inl ⟨rfl, .inl ⟨rfl,hp⟩⟩⟩
    ·refine ⟨.inl ⟨rfl, .inr ⟨?_,hp⟩⟩⟩;exact letF k (by simpa only [au,List.not_mem_nil,or_false] using h1) sg (by simpa only [au,List.not_mem_nil,or_false] using h2)
   refine hK .next _ _ (.inl rfl) (hW _ (AA (x:=⟨sg++cond (decide ((k:Int)=3)) [769] [],1,p⟩) hs d2 o2 nD nR hx (by rw [x1];exact hlt)) ?_) (n3 _ _ _);rw [fQ];refine bi ai ?_;exact Nat.lt_succ_self _
 cases k with
 | zero=>
  refine GJ (F:=F) rfl h2 ((o1 F nD nR).trans hs.f) hl (hK .cont _ _ (.inr rfl) (hW _ (AA hs d1 o1 nD nR ⟨.inl yA⟩ hlt) ?_) (n43 _));rw [fQ];refine bi ai ?_;exact Nat.lt_succ_self _
 | succ k=>
  refine l287 (k:=k) rfl ?_
  cases k with
  | zero=>exact Gq rfl (EY (k:=1) h39 rfl d1 fun p σ2 hp d2 o2=>fin 1 [] p σ2 (.inl ⟨rfl,rfl,hp⟩) d2 (o1.trans o2))
  | succ k=>
   have hk':k+1+1=2\/k+1+1=3\/k+1+1=4:=by lia
   refine l290 (D:=D) rfl hk' h39 d1 fun sg σ2 hsg d2 o2=> ?_;refine EY h39 rfl d2 fun p σ3 hp d3 o3=>fin _ sg p σ3 (.inr ⟨hk',hsg, ?_⟩) d3 ((o1.trans o2).trans o3);rw [(show decide (((k+1+1:Nat):Int)=1)=false from decide_eq_false fun e=>nomatch Int.ofNat_inj.mp e)] at hp;exact hp
theorem q41 (h:bK Y D R) (hc:2<=c) (c6:c<=6) (hz:sz∈qS) (q:∀l Y',LnG c l->l.sz=sz->bK Y' D R->fB D R Y Y'->Q (bt l.cs) Y'):bd (Gm 41) 41 [.ref D,bc c, .str sz] Y Q X:=by
 refine ⟨rfl,fun F hF=> ?_⟩;have zz:=wa h hF;have nD:=zz.1;have nR:=zz.2;refine eX (fun _:S41=>[(2, .ref F),(36, .str sz),(32,bc c),(39, .ref D)]) S41.Y (Fu Y D R F c sz) (fun s=>c - (bV s.bs).length) ?_ ⟨Y.set F (.list []),[]⟩ ⟨h.new nD nR,fun b U U n=>be.set_ne _ _ n,be.set_same _ _ _,(fun U h=>fh h),aX _⟩ rfl rfl;intro s hs W hW;refine bg (iE hs.f) (bx (p:=((bV s.bs).map bh.v).length<=16777216) (by rw [ah];exact bz (aj hs.le c6) rfl) ?_);refine EA (p:=(((bV s.bs).map bh.v).length:Int)<c) (fun e=> ?_) fun e=> ?_
 ·rw [ah] at e;have e:=Int.ofNat_lt.mp e;refine Er (W:=fun s'=>W (mk [(2, .ref F),(36, .str sz),(32,bc c),(39, .ref D)]) s'.Y) rfl rfl rfl rfl c6 hs e nD nR (fun s' hs' hlt=>hW s' hs' (Nat.sub_lt_sub_left e hlt)) fun fl H' s' hfl hw hρ=> ?_;rcases hfl with rfl | rfl<;>exact (cV hw ⟨hρ 2 rfl,hρ 36 rfl,hρ 32 rfl,hρ 39 rfl,trivial⟩)
 ·rw [ah] at e;have e:(bV s.bs).length=c:=Nat.le_antisymm hs.le (Nat.le_of_not_lt fun r=>e (Int.ofNat_lt.mpr r));refine qP (q ⟨bV s.bs,sz,false⟩ (s.Y.del F) ⟨hz,e,s.bs,hs.ok,rfl⟩ rfl (hs.d.del nD nR) fun b h1 h2=> ?_) (.le fun b o e=>lm e) (.inr ⟨F,_,rfl,hs.f,eF _ _, .self _ _ _⟩)
  by_cases hb:b=F
  ·rw [hb,eF,hF]
  ·exact (dn hb).trans (hs.off b h1 h2 hb)
end
structure cL (P:Pc):Prop where
 n1:0<P.ls.length
 n3:P.ls.length<=3
 c2:2<=P.c
 c6:P.c<=6
 ls:∀l∈P.ls,LnG P.c l
 r0:P.r0<P.ls.length
 c0:P.c0<P.c
noncomputable def sz6:List (List Nat):=[[115,105,110,103,108,101],[115,105,110,103,108,101],[115,105,110,103,108,101],[119,105,100,101],[116,111,112],[98,111,116,116,111,109]]
theorem FF:∀s∈sz6,s∈qS:=by decide+kernel
structure P42 (Y:be) (D R L:Addr) (c k:Nat) (s:be×List Ln):Prop where
 d:bK s.1 D R
 off:∀b,b≠D->b≠R->b≠L->s.1 b=Y b
 l:s.1 L=some (.list (s.2.map hY))
 ok:∀l∈s.2,LnG c l
 n:s.2.length=k
section
variable {Y:be} {Q X:KV} {K:KF} {H:bv} {D R L:Addr} {r:List DS} {sz:List Nat} {c n:Nat} {s:be×List Ln}
theorem l298 (h39:H 39=some (.ref D)) (h:bK Y D R) (q:∀v w Y' L,v<3->w<5->bK Y' D R->fB D R Y Y'->Y' L=none->exDs tab (Gm 42) r (((H.set 46 (bc (1+v))).set 32 (bc (2+w))).set 47 (.ref L)) (Y'.set L (.list [])) K X):exDs tab (Gm 42) (sW::r) H Y K X:=
 bg h39 (jV h (by decide) (by decide) fun v σ1 hv d1 o1=>bg h39 (jV d1 (by decide) (by decide) fun w σ2 hw d2 o2 L hL=>q v w σ2 L hv hw d2 (o1.trans o2) hL))
theorem l300 (h39:H 39=some (.ref D)) (h:bK Y D R) (q:∀sz Y',sz∈qS->bK Y' D R->fB D R Y Y'->exDs tab (Gm 42) r (H.set 36 (.str sz)) Y' K X):exDs tab (Gm 42) (r8::r) H Y K X:=by
 refine bg h39 (jV h (by decide) (by decide) fun v σ1 hv d1 o1=> ?_);refine eY (L:=sz6.map V.str) (ad rfl) hv fun x hx=> ?_;obtain ⟨f,hf,rfl⟩:=aN.mp hx;exact q f σ1 (FF f hf) d1 o1
theorem l301 (h39:H 39=some (.ref D)) (h:bK Y D R) (q:∀b Y',bK Y' D R->fB D R Y Y'->exDs tab (Gm 42) r (H.set 27 (.bool b)) Y' K X):exDs tab (Gm 42) (v4::r) H Y K X:=
 bg h39 (jV (below:=2) h (by decide) (by decide) fun v σ1 hv d1 o1=>q _ σ1 d1 o1)
theorem l302 {b:Bool} {l:List V} (h47:H 47=some (.ref L)) (h39:H 39=some (.ref D)) (h32:H 32=some (bc c)) (h36:H 36=some (.str sz)) (h27:H 27=some (.bool b)) (hc:2<=c) (c6:c<=6) (hz:sz∈qS) (h:bK Y D R) (hL:Y L=some (.list l)) (nD:L≠D) (nR:L≠R) (hl:l.length<=100) (q:∀ln Y',LnG c ln->bK Y' D R->fB D R Y Y'->K .next H (Y'.set L (.list (l++[hY ln])))):exDs tab (Gm 42) [tG] H Y K X:=by
 refine bg h47 (cD (ce hL) (bg h39 (bg h32 (bg h36 (q41 h hc c6 hz fun ln Y' h1 h2 h3 h4=> ?_)))));have hL':=(h4 L nD nR).trans hL;have q:=q ⟨ln.cs,sz,b⟩ Y' ⟨hz,h1.len,by have:=h1.bs;replace this:=h2▸this;exact this⟩ h3 h4;exact bg h36 (bg h27 (bg (bF hL') (bx (az hl (ad rfl)) q)))
theorem l303 (h39:H 39=some (.ref D)) (h46:H 46=some (bc n)) (h32:H 32=some (bc c)) (hn:0<n) (hn':n<=100) (hc:0<c) (hc':c<=100) (h:bK Y D R) (q:∀v w Y',v<n->w<c->bK Y' D R->fB D R Y Y'->exDs tab (Gm 42) r (H.set 45 (.tup [bc v,bc w])) Y' K X):exDs tab (Gm 42) (wb::r) H Y K X:=
 bg h39 (bg h46 (jV h hn (aj hn' (by decide)) fun v σ1 hv d1 o1=>bg h39 (bg h32 (jV d1 hc (aj hc' (by decide)) fun w σ2 hw d2 o2=>q v w σ2 hv hw d2 (o1.trans o2)))))
theorem l304 {v:V} (h39:H 39=some (.ref D)) (h47:H 47=some (.ref L)) (h45:H 45=some v) (h:bK Y D R) (q:∀b Y',bK Y' D R->fB D R Y Y'->xA Q (.lst [.ref L,v, .bool b]) Y'):exDs tab (Gm 42) [tY] H Y (cQ Q) X:=
 bg h47 (bg h45 (bg h39 (jV (below:=3) h (by decide) (by decide) fun w σ1 hv d1 o1=>q _ σ1 d1 o1)))
theorem q42 (h:bK Y D R) (q:∀P Y',cL P->bK Y' D R->fB D R Y Y'->Q (bP P) Y'):bd (Gm 42) 42 [.ref D] Y Q X:=by
 refine ⟨rfl,l298 rfl h fun v w σ1 L hv hw d1 o1 hL=> ?_⟩;have zz:=wa d1 hL;have nD:=zz.1;have nR:=zz.2;have hn:1+v<=3:=by lia
 have hc:2+w<=6:=by lia
 refine bx (p:=(((1+v:Nat):Int)<=2 ^ 24)) (bb.mpr (bz hn rfl)) ?_;refine dE (n:=1+v) (fun _:be×List Ln=>[(47, .ref L),(32,bc (2+w)),(46,bc (1+v)),(39, .ref D)]) (·.1) (P42 σ1 D R L (2+w)) ?_ ?_ (σ1.set L (.list []),[]) ⟨d1.new nD nR,fun b U U n=>be.set_ne _ _ n,be.set_same _ _ _,(fun U h=>fh h),rfl⟩ rfl rfl
 ·intro s hs;refine l303 rfl rfl rfl (by exact aP _ _) (by exact aj ‹_› (ad rfl)) (by lia) (by exact aj ‹_› (ad rfl)) hs.d fun r0 c0 σ2 hr hcc d2 o2=> ?_;refine l304 rfl rfl rfl d2 fun b σ3 d3 o3=> ?_;refine qP (q ⟨2+w,s.2,r0,c0,b⟩ (σ3.del L) ⟨by refine bi hs.n ?_;exact aP _ _,by refine bi hs.n ?_;exact hn,by show 2<=2+w;exact aP _ _,hc,hs.ok,by refine bi hs.n ?_;exact hr,hcc⟩ (d3.del nD nR) fun b h1 h2=> ?_) (.le fun b o e=>lm e) (.inl ⟨_,rfl,⟨.inr ⟨L,_,rfl,((o3 L nD nR).trans ((o2 L nD nR).trans hs.l)),eF _ _, .self _ _ _⟩, .refl _ _ _,rfl,rfl⟩⟩)
  by_cases hb:b=L
  ·refine bi hb ?_;rw [eF];exact (hL▸(o1 L nD nR) :)
  ·exact (dn hb).trans ((o3 b h1 h2).trans ((o2 b h1 h2).trans ((hs.off b h1 h2 hb).trans (o1 b h1 h2))))
 ·intro k s hk hs W hW;refine l300 rfl hs.d fun sz σ2 hz d2 o2=>l301 rfl d2 fun b σ3 d3 o3=> ?_;refine l302 (sz:=sz) (b:=b) rfl rfl rfl rfl rfl (by exact aP _ _) hc hz d3 ((o3 L nD nR).trans ((o2 L nD nR).trans hs.l)) nD nR (by rw [ah];refine bi hs.n ?_;lia) fun ln σ4 hl d4 o4=> ?_;refine cV (hW (_,s.2++[ln]) ⟨d4.new nD nR,fun b h1 h2 h3=>(be.set_ne _ _ h3).trans ((o4 b h1 h2).trans ((o3 b h1 h2).trans ((o2 b h1 h2).trans (hs.off b h1 h2 h3)))), ?_,fun y hy=>(aD.mp hy).elim (hs.ok y) fun h=>ao.mp h▸hl, ?_⟩) ⟨rfl,rfl,rfl,rfl,trivial⟩
  ·rw [bq];exact be.set_same _ _ _
  ·(refine ak (ai ..) ?_;refine bi hs.n ?_);rfl
end
theorem cq (b:bh) (r:List bh):bV (b::r)=dK b++bV r:=rfl
theorem fU (a b:List bh):bV (a++b)=bV a++bV b:=by delta bV;(refine bi aJ ?_;refine ak (List.flatten_append ..) ?_;rfl)
theorem kL {c:bh} (h:c.w=1):dK c=[c]:=by delta dK;rw [h];rfl
theorem Dv {c:bh} (h:c.w=2):dK c=[c,tail0]:=by delta dK;rw [h];rfl
theorem iB (c:bh):dK c=[c]\/(c.w=2/\dK c=[c,tail0]):=by
 delta dK
 cases e:decide ((c.w:Int)=2)
 ·exact .inl rfl
 ·exact .inr ⟨Int.ofNat_inj.mp (aU e),rfl⟩
theorem loc:∀(bs:List bh) (at_:Nat) (x:bh),(bV bs)[at_]? =some x->x.w≠0->∃pre post,bs=pre++x::post/\(bV pre).length=at_:=by
 intro zl
 induction zl with
 | nil=>
  intro _ _ h _;exact bZ h
 | cons b r ih=>
  intro at_ x h hx;dsimp only [cq] at h;rcases iB b with e | ⟨U,e⟩<;>rw [e] at h
  ·cases at_ with
   | zero=>(replace h:=bW h;subst h);exact ⟨[],r,rfl,rfl⟩
   | succ k=>
    refine cr fun hn=> ?_;obtain ⟨pre,post,h1,h2⟩:=ih k x h hx;exact hn ⟨b::pre,post,by rw [h1];rfl,by (rw [cq,e];refine ak (ai ..) ?_;rw [h2];refine ak (Nat.add_comm ..) ?_);rfl⟩
  ·match at_,h with
   | 0,h=>(replace h:=bW h;subst h);exact ⟨[],r,rfl,rfl⟩
   | 1,h=>(replace h:=bW h;subst h);exact absurd rfl hx
   | k+2,h=>
    refine cr fun hn=> ?_;obtain ⟨pre,post,h1,h2⟩:=ih k x h hx;exact hn ⟨b::pre,post,by rw [h1];rfl,by (rw [cq,e];refine ak (ai ..) ?_;rw [h2];refine ak (Nat.add_comm ..) ?_);rfl⟩
theorem Bk {α:Type} (a:List α) (x y:α) (b:List α):(a++x::b).set a.length y=a++y::b:=by
 (refine ak (List.set_append_right _ _ (av _)) ?_;rw [Nat.sub_self]);rfl
theorem LnG.set {c at_:Nat} {l:Ln} {x y:bh} (h:LnG c l) (hx:l.cs[at_]? =some x) (h0:x.w≠0) (hw:y.w=x.w) (hy:xy l.sz x->xy l.sz y):LnG c ⟨l.cs.set at_ y,l.sz,l.on⟩:=by
 refine cr fun hn=> ?_;obtain ⟨bs,hb,e⟩:=h.bs;rw [e] at hx;obtain ⟨pre,post,rfl,hl⟩:=loc bs at_ x hx h0;refine hn ?_
 have ex:∃t,dK x=x::t/\dK y=y::t:=by
  delta dK;rw [hw];cases decide ((x.w:Int)=2)
  ·exact ⟨[],rfl,rfl⟩
  ·exact ⟨[tail0],rfl,rfl⟩
 clear h0 hx hw;obtain ⟨t,e1,e2⟩:=ex;refine ⟨h.sz,by show (l.cs.set at_ y).length=c;refine ak (List.length_set ..) ?_;exact h.len,pre++y::post,fun d hd=> ?_, ?_⟩
 ·rcases aD.mp hd with hd | hd
  ·exact hb d (aD.mpr (.inl hd))
  ·rcases au.mp hd with rfl | hd
   ·exact hy (hb x (aD.mpr (.inr (.head _))))
   ·exact hb d (aD.mpr (.inr (.tail _ hd)))
 ·show l.cs.set at_ y=_;rw [e,fU,fU,cq,cq,e1,e2,<-hl];exact Bk _ _ _ _
theorem yy:fi false nrm:=⟨.head _, .head _, .head _, .head _,rfl⟩
theorem tP:fi false ⟨1,-1,4,-1⟩:=⟨.tail _ (.head _), .head _, .tail _ (.head _), .head _,rfl⟩
theorem LnG.w0 {c at_ v:Nat} {l:Ln} {x:bh} (h:LnG c l) (hx:l.cs[at_]? =some x) (h1:x.w=1) (hv:[v]∈yB):LnG c ⟨l.cs.set at_ ⟨[v],1,nrm⟩,l.sz,l.on⟩:=
 h.set hx (by refine bi h1 ?_;decide) h1.symm fun U=>⟨.inl ⟨rfl, .inr ⟨hv,yy⟩⟩⟩
theorem LnG.w1 {c at_:Nat} {l:Ln} {x:bh} (h:LnG c l) (hx:l.cs[at_]? =some x) (h0:x.s≠[]):LnG c ⟨l.cs.set at_ ⟨x.s,x.w,⟨1,-1,4,-1⟩⟩,l.sz,l.on⟩:=by
 have hw:x.w≠0:=by
  intro h
  have:∀bs:List bh,(∀d∈bs,xy l.sz d)->∀d∈bV bs,d.w=0->d.s=[]:=fun bs hb d hd hw=>by
   obtain ⟨z,hz,hd⟩:=List.mem_flatten.mp hd;obtain ⟨b,hbm,rfl⟩:=aN.mp hz;clear hz;rcases iB b with e | ⟨U,e⟩<;>rw [e] at hd
   ·cases ao.mp hd
    rcases (hb _ hbm).one with h | h
    ·rw [h.1] at hw;contradiction
    ·rw [h.2.1] at hw;contradiction
   ·rcases au.mp hd with rfl | hd
    ·rcases (hb _ hbm).one with h | h
     ·rw [h.1] at hw;contradiction
     ·rw [h.2.1] at hw;contradiction
    ·cases ao.mp hd;rfl
  obtain ⟨bs,hb,e⟩:=LnG.bs ‹LnG c l›;exact h0 (this bs hb x (e▸aq hx) h)
 refine h.set hx hw rfl fun b=> ?_;rcases b.one with ⟨a1,⟨a2,U⟩ | ⟨a2,U⟩⟩ | ⟨z,a1,a2,U⟩
 ·exact absurd a2 h0
 ·exact ⟨.inl ⟨a1, .inr ⟨a2,tP⟩⟩⟩
 ·exact ⟨.inr ⟨z,a1,a2,tP⟩⟩
theorem Fd:Two ⟨[19968],2,nrm⟩:=⟨rfl, .head _,yy⟩
theorem LnG.w2 {c at_:Nat} {l:Ln} {x y:bh} (h:LnG c l) (hx:l.cs[at_]? =some x) (hy:l.cs[at_+1]? =some y) (x1:x.w=1) (y1:y.w=1) (hz:l.sz=single):LnG c ⟨l.cs.take at_++[⟨[19968],2,nrm⟩,tail0]++l.cs.drop (at_+2),l.sz,l.on⟩:=by
 refine cr fun hn=> ?_;refine bu (h.bs) fun bs hb e=> ?_;rw [e] at hx hy;refine gU (loc bs at_ x hx (by rw [x1];decide)) fun pre post y11 hl=> ?_;subst y11;refine hn ?_
 have hy':(bV post)[0]? =some y:=by
  rw [fU,cq,kL x1,List.getElem?_append_right (by lia),<-hl,Nat.add_sub_cancel_left] at hy;exact hy
 clear hy hx;refine gU (loc post 0 y hy' (by rw [y1];decide)) fun pre2 post2 y21 hl2=> ?_;subst y21
 have hp2:pre2=[]:=by
  clear hy'
  cases pre2 with
  | nil=>rfl
  | cons b r=>
   dsimp only [cq] at hl2;rcases iB b with e | ⟨U,e⟩<;>(rw [e] at hl2;cases hl2)
 subst hp2;have e3:l.cs=bV pre++(x::y::bV post2):=by rw [e,fU,cq,kL x1,List.nil_append,cq,kL y1];rfl
 refine ⟨h.sz, ?_,pre++⟨[19968],2,nrm⟩::post2,fun d hd=> ?_, ?_⟩
 ·have hn:=h.len;rw [e3,ai] at hn;rw [e3,<-hl,List.take_left,ai,ai,List.drop_append,List.drop_of_length_le (aP _ 2),Nat.add_sub_cancel_left];have:(x::y::bV post2).length=(bV post2).length+2:=rfl;show (bV pre).length+2+(bV post2).length=c;lia
 ·rcases aD.mp hd with hd | hd
  ·exact hb d (aD.mpr (.inl hd))
  ·rcases au.mp hd with rfl | hd
   ·exact ⟨.inr ⟨hz,Fd⟩⟩
   ·exact hb d (aD.mpr (.inr (.tail _ (.tail _ hd))))
 ·show List.take at_ l.cs++_++List.drop (at_+2) l.cs=_;rw [e3,<-hl,List.take_left,List.drop_append,List.drop_of_length_le (aP _ 2),Nat.add_sub_cancel_left,fU,aw];rfl
theorem LnG.w3 {c:Nat} {l:Ln} {sz:List Nat} (h:LnG c l) (hn:∀d∈l.cs,d.w=1) (hz:sz∈qS):LnG c ⟨l.cs,sz,l.on⟩:=by
 refine bu (h.bs) fun bs hb e=> ?_;refine ⟨hz,h.len,bs,fun d hd=> ?_,e⟩;have hd1:d.w=1:=hn d (e▸List.mem_flatten.mpr ⟨dK d,List.mem_map_of_mem hd,by rcases iB d with e | ⟨U,e⟩<;>(refine bi e ?_;exact .head _)⟩);rcases (hb d hd).one with h | h
 ·exact ⟨.inl h⟩
 ·rw [h.2.1] at hd1;contradiction
noncomputable abbrev ou:=List (Addr×Addr)
structure px (Y:be) (ids:ou) (ls:List Ln):Prop where
 len:ids.length=ls.length
 at_:∀(i:Nat) (p:Addr×Addr) (l:Ln),ids[i]? =some p->ls[i]? =some l->Y p.1=some (.list [.ref p.2, .str l.sz, .bool l.on])/\Y p.2=some (.list (l.cs.map bh.v))
structure y4 (σ0:be) (ids:ou):Prop where
 fr:∀p∈ids,σ0 p.1=none/\σ0 p.2=none
 d:∀(i j:Nat) (p q:Addr×Addr),ids[i]? =some p->ids[j]? =some q->p.1≠q.2/\(p.1=q.1->i=j)/\(p.2=q.2->i=j)
noncomputable def mB (ids:ou) (b:Addr):Prop:=∀p∈ids,b≠p.1/\b≠p.2
theorem uR {α:Type} {l:List α} {i j:Nat} {x y:α} (h:(l.set i x)[j]? =some y):(i=j/\y=x)\/(i≠j/\l[j]? =some y):=by
 rw [List.getElem?_set] at h
 by_cases e:i=j
 ·rw [if_pos e] at h
  by_cases e2:i<l.length
  ·rw [if_pos e2] at h;exact .inl ⟨e,(Option.some.inj h).symm⟩
  ·rw [if_neg e2] at h;exact bZ h
 ·rw [if_neg e] at h;exact .inr ⟨e,h⟩
section
variable {Y σ0 Y':be} {ids:ou} {ls:List Ln} {i:Nat} {p:Addr×Addr} {l:Ln}
theorem px.setC (h:px Y ids ls) (I:y4 σ0 ids) (hi:ids[i]? =some p) (hl:ls[i]? =some l) {cs:List bh}:px (Y.set p.2 (.list (cs.map bh.v))) ids (ls.set i ⟨cs,l.sz,l.on⟩):=by
 refine ⟨by refine bi List.length_set ?_;exact h.len,fun j q m hq hm=> ?_⟩;refine lL (I.d i j p q hi hq) fun d1 d2 d3=> ?_;have zz:=I.d j i q p hq hi;have d4:=zz.1;clear zz d2 d1 I;rcases uR hm with ⟨e,rfl⟩ | ⟨e,hm⟩
 ·subst e;have:q=p:=Option.some.inj (hq.symm.trans hi);clear hi;subst this;exact ⟨(be.set_ne _ _ d4).trans (h.at_ i q l hq hl).1,be.set_same _ _ _⟩
 ·refine fI (h.at_ j q m hq hm) fun g1 g2=> ?_;exact ⟨(be.set_ne _ _ d4).trans g1,(be.set_ne _ _ fun r=>e (d3 r.symm)).trans g2⟩
theorem px.setL (h:px Y ids ls) (I:y4 σ0 ids) (hi:ids[i]? =some p) (hl:ls[i]? =some l) {sz:List Nat} {on:Bool}:px (Y.set p.1 (.list [.ref p.2, .str sz, .bool on])) ids (ls.set i ⟨l.cs,sz,on⟩):=by
 refine ⟨by refine bi List.length_set ?_;exact h.len,fun j q m hq hm=> ?_⟩;refine lL (I.d i j p q hi hq) fun d1 d2 d3=> ?_;have zz:=I.d j i q p hq hi;clear zz d3 I;rcases uR hm with ⟨e,rfl⟩ | ⟨e,hm⟩
 ·subst e;have:q=p:=Option.some.inj (hq.symm.trans hi);clear hi;subst this;exact ⟨be.set_same _ _ _,(be.set_ne _ _ (aS d1)).trans (h.at_ i q l hq hl).2⟩
 ·obtain ⟨g1,g2⟩:=h.at_ j q m hq hm;exact ⟨(be.set_ne _ _ fun r=>e (d2 r.symm)).trans g1,(be.set_ne _ _ (aS d1)).trans g2⟩
theorem px.off (h:px Y ids ls) (e:∀p∈ids,Y' p.1=Y p.1/\Y' p.2=Y p.2):px Y' ids ls:=
 ⟨h.len,fun i p l hi hl=>let ⟨e1,e2⟩:=e p (aq hi);let ⟨g1,g2⟩:=h.at_ i p l hi hl;⟨e1.trans g1,e2.trans g2⟩⟩
structure Gk (σ0:be) (M:Addr) (Y:be) (ids:ou) (ls:List Ln):Prop where
 m:Y M=some (.list (ids.map fun p=> .ref p.1))
 l:px Y ids ls
 i:y4 σ0 ids
 o:mB ids M
 x:∀b,b≠M->mB ids b->Y b=σ0 b
theorem gP {α:Type} {l:List α} {x y:α} {i:Nat} (h:(l++[x])[i]? =some y):l[i]? =some y\/(i=l.length/\y=x):=by
 rw [List.getElem?_append] at h
 by_cases e:i<l.length
 ·rw [if_pos e] at h;exact .inl h
 ·rw [if_neg e] at h
  cases k:i - l.length with
  | zero=>rw [k] at h;exact .inr ⟨by lia,(Option.some.inj h).symm⟩
  | succ n=>rw [k] at h;exact bZ h
theorem Gk.next {M C L:Addr} (h:Gk σ0 M Y ids ls) (hM:σ0 M=none) (hC:Y C=none) (hL:(Y.set C (.list (l.cs.map bh.v))) L=none):Gk σ0 M (((Y.set C (.list (l.cs.map bh.v))).set L (.list [.ref C, .str l.sz, .bool l.on])).set M (.list (ids.map (fun p=> .ref p.1)++[.ref L]))) (ids++[(L,C)]) (ls++[l]):=by
 have nLC:L≠C:=fun r=>by rw [r,be.set_same] at hL;exact gq hL
 have hL':Y L=none:=(be.set_ne _ _ nLC).symm.trans hL;have nCM:C≠M:=fun r=>by rw [r,h.m] at hC;exact gq hC
 have nLM:L≠M:=fun r=>by rw [r,h.m] at hL';exact gq hL'
 have has:∀p∈ids,Y p.1≠none/\Y p.2≠none:=fun p hp=>by
  refine cr fun hn=> ?_;obtain ⟨i,hi,e⟩:=List.getElem_of_mem hp;have hi':i<ls.length:=h.l.len▸hi;refine fI (h.l.at_ i p ls[i] (by refine rt e ?_;exact an hi) (an hi')) fun g1 g2=> ?_;refine hn ?_;refine bi g1 ?_;refine bi g2 ?_;exact ⟨nofun,nofun⟩
 have oC:mB ids C:=fun p hp=>⟨fun r=>(has p hp).1 (r▸hC),fun r=>(has p hp).2 (r▸hC)⟩;have oL:mB ids L:=fun p hp=>⟨fun r=>(has p hp).1 (r▸hL'),fun r=>(has p hp).2 (r▸hL')⟩;have s3:∀b,b≠M->b≠L->b≠C->(((Y.set C (.list (l.cs.map bh.v))).set L (.list [.ref C, .str l.sz, .bool l.on])).set M (.list (ids.map (fun p=> .ref p.1)++[.ref L]))) b=Y b:=fun b h1 h2 h3=>(be.set_ne _ _ h1).trans ((be.set_ne _ _ h2).trans (be.set_ne _ _ h3));refine ⟨by rw [bq];exact be.set_same _ _ _,⟨by (refine ak (ai ..) ?_;refine bi ai ?_;refine bi h.l.len ?_);rfl,fun i p m hp hm=> ?_⟩,⟨fun p hp=> ?_,fun i j p q hp hq=> ?_⟩,fun p hp=> ?_,fun b h1 h2=> ?_⟩
 ·rcases gP hp with hp | ⟨ei,rfl⟩<;>rcases gP hm with hm | ⟨ej,rfl⟩
  ·refine fI (h.l.at_ i p m hp hm) fun g1 g2=> ?_;have hpm:=aq hp;exact ⟨(s3 _ (aS (h.o p hpm).1) (aS (oL p hpm).1) (aS (oC p hpm).1)).trans g1,(s3 _ (aS (h.o p hpm).2) (aS (oL p hpm).2) (aS (oC p hpm).2)).trans g2⟩
  ·exact absurd (aM.mp hp).1 (by refine bi h.l.len ?_;refine bi ej ?_;exact Nat.lt_irrefl _)
  ·exact absurd (aM.mp hm).1 (by refine rt h.l.len ?_;refine bi ei ?_;exact Nat.lt_irrefl _)
  ·exact ⟨(be.set_ne _ _ nLM).trans (be.set_same _ _ _),(be.set_ne _ _ nCM).trans ((be.set_ne _ _ (aS nLC)).trans (be.set_same _ _ _))⟩
 ·rcases aD.mp hp with hp | hp
  ·exact h.i.fr p hp
  ·cases ao.mp hp
   exact ⟨(h.x L nLM oL).symm.trans hL',(h.x C nCM oC).symm.trans hC⟩
 ·rcases gP hp with hp | ⟨ei,rfl⟩<;>rcases gP hq with hq | ⟨ej,rfl⟩
  ·exact h.i.d i j p q hp hq
  ·have o1:=oC p (aq hp);exact ⟨aS o1.1,fun r=>absurd r (aS (oL p (aq hp)).1),fun r=>absurd r (aS o1.2)⟩
  ·have o1:=oC q (aq hq);have o2:=oL q (aq hq);exact ⟨o2.2,fun r=>absurd r o2.1,fun r=>absurd r o1.2⟩
  ·exact ⟨nLC,fun U=>ei.trans ej.symm,fun U=>ei.trans ej.symm⟩
 ·rcases aD.mp hp with hp | hp
  ·exact h.o p hp
  ·cases ao.mp hp;exact ⟨aS nLM,aS nCM⟩
 ·refine cr fun hn=> ?_;refine fI (h2 (L,C) (aD.mpr (.inr (.head _)))) fun b1 b2=> ?_;exact hn ((s3 b h1 b1 b2).trans (h.x b h1 fun p hp=>h2 p (aD.mpr (.inl hp))))
theorem Bf {M:Addr} {H:bv} {Q:be->Prop} {pp:Pos} (hM:σ0 M=none):∀(rest ls:List Ln) (ids:ou) (Y:be),(∀l∈rest,l.cs.length<=6)->ls.length+rest.length<=100->Gk σ0 M Y ids ls->(∀ids' Y',Gk σ0 M Y' ids' (ls++rest)->Q Y')->dQ (fun H' Y' Q'=>evB tab (Gm 43) true [] H' Y' Q' (fun U U=>False)) (fun H' Y' Q'=>dO tab (Gm 43) Cy H' Y' Q' (fun U U=>False)) (.n false 52 pp) none M (rest.map hY) H Y Q:=by
 intro zl
 induction zl with
 | nil=>
  exact fun ls ids Y U U h q=>q ids Y (by rw [aE];exact h)
 | cons l rest ih=>
  intro ls ids Y hl hn h q;have hn':ls.length+(rest.length+1)<=100:=hn;refine bx (show (l.cs.map bh.v).length<=16777216 by rw [ah];exact bz (hl l (.head _)) rfl) fun C hC L hL=> ?_;have hL':Y L=none:=(be.set_ne _ _ (fun r=>by rw [r,be.set_same] at hL;exact gq hL:L≠C)).symm.trans hL;refine ⟨trivial,_,(be.set_ne _ _ (fun r=>by rw [<-r,h.m] at hL';exact gq hL':M≠L)).trans ((be.set_ne _ _ (fun r=>by rw [<-r,h.m] at hC;exact gq hC:M≠C)).trans h.m), ?_, ?_⟩
  ·rw [ah];refine bi h.l.len ?_;lia
  ·refine ih (ls++[l]) (ids++[(L,C)]) _ (fun y hy=>hl y (.tail _ hy)) (by refine bi ai ?_;show _+1+_<=_;lia) (h.next hM hC hL) fun ids' Y' h'=>q ids' Y' ?_;rw [aw] at h';exact h'
end
noncomputable def Kn (K K':KF):Prop:=∀H Y,K .next H Y->K' .next H Y
noncomputable def wV (v:V):V:=((vW v).bind (·[1]?)).getD .none
theorem yY {α:Type} (l:List α) (a b:Nat):l4 l (bc a) (bc b)=some ((l.take b).drop a):=by
 show some (Em l (some (if (a:Int)<0 then _ else (a:Int).toNat)) (some (if (b:Int)<0 then _ else (b:Int).toNat)))=_;rw [Int.toNat_natCast];rfl
section
variable {Y:be} {Q X:KV} {K:KF} {H:bv} {D R C L:Addr} {r:List DS} {sz:List Nat} {on_:Bool} {at_ n k way:Nat} {ids:ou} {cs:List bh} {x:bh} {l:List V}
theorem iF {T:eT} {G:dW} {p:Pos} {F:Addr} {v:V} (hn:H n=some (bc k)) (h:Y F=some (.list l)) (hl:l.length<=16777216) (hx:l[k]? =some v) (q:Q v Y):dO T G (.nm false n p) H Y (fun j Jp=>l6 (.ref F) j Jp Q) X:=by
 refine bg hn ?_;show (match cI (.ref F) Y with | some l=>on (gA (bc k)) fun i=>gd (decide (l.length<=16777216)) (on (dk i l.length) fun k=>on l[k]? fun x=>Q x Y) | none=>_);refine bi (jw h) ?_;exact bD hl rfl hx q
theorem k9 {T:eT} {G:dW} {p:Pos} {F:Addr} {y:V} {P:be->Prop} (hn:H n=some (bc k)) (h:Y F=some (.list l)) (hl:l.length<=16777216) (hk:k<l.length) (q:P (Y.set F (.list (l.set k y)))):dO T G (.nm false n p) H Y (fun j Jq=>jS (.ref F) j y Jq P) X:=bg hn (iD h hl hk q)
theorem l308 (h47:H 47=some (.lst (ids.map fun p=> .ref p.1))) (h39:H 39=some (.ref D)) (h:bK Y D R) (h0:0<ids.length) (h3:ids.length<=3) (q:∀(i:Nat) (p:Addr×Addr) (way:Nat) (Y':be),ids[i]? =some p->way<6->bK Y' D R->fB D R Y Y'->exDs tab (Gm 43) r ((H.set 52 (.ref p.1)).set 53 (bc way)) Y' K X):exDs tab (Gm 43) (u3::r) H Y K X:=by
 have hl:(ids.map fun p=>V.ref p.1).length<=16777216:=by rw [ah];exact bz h3 rfl
 refine bg h47 (bg h39 (bg h47 (bx hl ?_)));rw [(show ((ids.map fun p=>V.ref p.1).length:Int)=(ids.length:Int) by rw [ah])];refine jV h h0 (aj h3 (by decide)) fun i σ1 hi d1 o1=> ?_;have hi':=an hi;refine bD hl rfl (by (refine ak (List.getElem?_map ..) ?_;rw [hi']);rfl) ?_;exact bg h39 (jV d1 (by decide) (by decide) fun w σ2 hw d2 o2=>q i _ w σ2 hi' hw d2 (o1.trans o2))
theorem l309 (h52:H 52=some (.ref L)) (hL:Y L=some (.list [.ref C, .str sz, .bool on_])) (q:exDs tab (Gm 43) r (H.set 15 (.ref C)) Y K X):exDs tab (Gm 43) (sP::r) H Y K X:=by
 refine bg h52 ?_;exact dq (k:=0) hL (ad rfl) rfl q
theorem l310 (h39:H 39=some (.ref D)) (h15:H 15=some (.ref C)) (hC:Y C=some (.list (cs.map bh.v))) (h:bK Y D R) (h0:0<cs.length) (h6:cs.length<=6) (q:∀at_ Y',at_<cs.length->bK Y' D R->fB D R Y Y'->exDs tab (Gm 43) r (H.set 50 (bc at_)) Y' K X):exDs tab (Gm 43) (tC::r) H Y K X:=by
 refine bg h39 (bg h15 (bg (iE hC) (bx (by rw [ah];exact bz h6 rfl) ?_)));rw [(show ((cs.map bh.v).length:Int)=(cs.length:Int) by rw [ah])];exact jV h h0 (aj h6 (by decide)) fun i σ1 hi d1 o1=>q i σ1 hi d1 o1
noncomputable def jQ (v:V):Option V:=cond (!(bw (wV v) (.int 1))) (some (.int 1)) none
theorem xf:∀cs:List bh,((cs.map bh.v).filterMap jQ).isEmpty=true->∀d∈cs,d.w=1:=by
 intro zl
 induction zl with
 | nil=>
  exact fun U U h=>fh h
 | cons c r ih=>
  intro h d hd;replace h:=aR▸h
  cases e:decide ((c.w:Int)=1) with
  | false=>
   have:jQ c.v=some (.int 1):=by show cond (!(decide ((c.w:Int)=1))) _ _=_;refine bi e ?_;rfl
   rw [List.filterMap_cons_some this] at h;exact cR h
  | true=>
   have:jQ c.v=none:=by show cond (!(decide ((c.w:Int)=1))) _ _=_;refine bi e ?_;rfl
   replace h:=(List.filterMap_cons_none this)▸h;rcases au.mp hd with rfl | hd
   ·exact Int.ofNat_inj.mp (aU e)
   ·exact ih h d hd
theorem l311 (h15:H 15=some (.ref C)) (hC:Y C=some (.list (cs.map bh.v))) (h6:cs.length<=6) (q:∀b,(b=false->∀d∈cs,d.w=1)->exDs tab (Gm 43) r (H.set 51 (.bool b)) Y K X):exDs tab (Gm 43) (tO::r) H Y K X:=by
 have hi:yk (.ref C) Y=some (cs.map bh.v,some (C, .list (cs.map bh.v))):=by
  show (fG (.ref C) Y).map _=_;refine bi (bF hC) ?_;rfl
 refine bg h15 (bg hi ?_);refine fS jQ (cs.map bh.v) (by rw [ah];exact bz h6 rfl) (fun d e=>by (replace e:=bW e;subst e);exact ⟨(fun h=>nomatch h),hC⟩) (fun M hM x hx=> ?_) ?_
 ·refine bu (aN.mp hx) fun c hc y1=> ?_;subst y1;intro acc K K' q;have q:kU (cond (!(decide ((c.w:Int)=1))) (some (V.int 1)) none) (K · (Y.set M (.list acc))) (K' (Y.set M (.list acc))):=q;refine cu (b:= !(decide ((c.w:Int)=1))) (fun e=> ?_) fun e=> ?_<;>(rw [e] at q;exact q)
 ·refine cD (bY (mR fun y hy=> ?_) rfl) ?_
  ·obtain ⟨z,U,e⟩:=List.mem_filterMap.mp hy;delta jQ at e
   cases k:(!(bw (wV z) (.int 1))) with
   | true=>rw [k] at e;(replace e:=bW e;subst e);rfl
   | false=>rw [k] at e;exact bZ e
  ·have e:fl true (bw (.lst ((cs.map bh.v).filterMap jQ)) (.lst []))= !((cs.map bh.v).filterMap jQ).isEmpty:=by rw [g7];rfl
   refine q (fl true (bw (.lst ((cs.map bh.v).filterMap jQ)) (.lst []))) fun h=> ?_;rw [e] at h;exact xf cs (Bool.not_eq_false' _ |>.mp h)
theorem l312 (h53:H 53=some (bc way)) (h15:H 15=some (.ref C)) (h50:H 50=some (bc at_)) (hC:Y C=some (.list (cs.map bh.v))) (h6:cs.length<=6) (hx:cs[at_]? =some x) (q0:way=0->x.w=1->∀K',Kn K K'->exDs tab (Gm 43) [mT] H Y K' X) (qe:∀K',Kn K K'->exDs tab (Gm 43) [oh] H Y K' X):exDs tab (Gm 43) [sN] H Y K X:=by
 refine bg h53 (cu (b:=decide ((way:Int)=0)) (fun e=> ?_) fun U=>fP (qe _ fun U U h=>h));refine bg h15 ?_;refine iF h50 hC (show (cs.map bh.v).length<=16777216 by rw [ah];exact bz h6 rfl) (bM hx) ?_;refine cu (b:=decide ((x.w:Int)=1)) (fun e'=>ji ?_) fun U=>fP (qe _ fun U U h=>h);exact q0 (Int.ofNat_inj.mp (aU e)) (Int.ofNat_inj.mp (aU e')) _ fun U U h=>h
theorem l314 (h53:H 53=some (bc way)) (h15:H 15=some (.ref C)) (h50:H 50=some (bc at_)) (hC:Y C=some (.list (cs.map bh.v))) (h6:cs.length<=6) (hx:cs[at_]? =some x) (q1:x.s≠[]->∀K',Kn K K'->exDs tab (Gm 43) [ng] H Y K' X) (qe:∀K',Kn K K'->exDs tab (Gm 43) [nu] H Y K' X):exDs tab (Gm 43) [oh] H Y K X:=by
 refine bg h53 (cu (b:=decide ((way:Int)=1)) (fun e=> ?_) fun U=>fP (qe _ fun U U h=>h));refine bg h15 ?_;refine iF h50 hC (show (cs.map bh.v).length<=16777216 by rw [ah];exact bz h6 rfl) (bM hx) ?_;refine cD (b:=gz (.tup (x.s.map bc)) (.tup [])) (bY (cX 7 _) rfl) ?_;refine cu (b:= !(eqVs (x.s.map bc) [])) (fun e'=>ji ?_) fun U=>fP (qe _ fun U U h=>h);exact q1 (fun r=>by rw [r] at e';exact cR e') _ fun U U h=>h
theorem l318 {b:Bool} (h53:H 53=some (bc way)) (h51:H 51=some (.bool b)) (q3:b=false->∀K',Kn K K'->exDs tab (Gm 43) [oa] H Y K' X) (qe:∀K',Kn K K'->exDs tab (Gm 43) [oj] H Y K' X):exDs tab (Gm 43) [nt] H Y K X:=by
 refine bg h53 (cu (b:=decide ((way:Int)=3)) (fun e=> ?_) fun U=>fP (qe _ fun U U h=>h));refine bg h51 ?_;refine cu (fun e'=>ji ?_) fun U=>fP (qe _ fun U U h=>h);exact q3 ((aZ _).mp e') _ fun U U h=>h
theorem l320 (h53:H 53=some (bc way)) (q4:∀K',Kn K K'->exDs tab (Gm 43) [mL] H Y K' X) (q5:∀K',Kn K K'->exDs tab (Gm 43) [m5] H Y K' X) (q:K .next H Y):exDs tab (Gm 43) [oj] H Y K X:=by
 refine bg h53 (cu (b:=decide ((way:Int)=4)) (fun e=>q4 _ fun U U h=>h) fun U=> ?_);refine bg h53 (cu (b:=decide ((way:Int)=5)) (fun e=> ?_) fun U=>q);exact q5 _ fun U U h=>h
theorem l316 (h53:H 53=some (bc way)) (h15:H 15=some (.ref C)) (h50:H 50=some (bc at_)) (h52:H 52=some (.ref L)) (hL:Y L=some (.list [.ref C, .str sz, .bool on_])) (hC:Y C=some (.list (cs.map bh.v))) (h6:cs.length<=6) (q2:sz=single->∀x y,cs[at_]? =some x->cs[at_+1]? =some y->x.w=1->y.w=1->∀K',Kn K K'->exDs tab (Gm 43) [nI] H Y K' X) (qe:∀K',Kn K K'->exDs tab (Gm 43) [nt] H Y K' X):exDs tab (Gm 43) [nu] H Y K X:=by
 refine bg h53 (cu (b:=decide ((way:Int)=2)) (fun e=> ?_) fun U=>fP (qe _ fun U U h=>h));refine bg h52 ?_;refine dq (k:=1) hL (ad rfl) rfl ?_;refine cu (b:=sz==single) (fun e1=> ?_) fun U=>fP (qe _ fun U U h=>h);refine bg h15 (bg h50 (bg h50 (bg (gb hC) (bx (show (cs.map bh.v).length<=16777216 by rw [ah];exact bz h6 rfl) (bg (yY _ at_ (at_+2)) ?_)))));have em:((cs.map bh.v).take (at_+2)).drop at_=((cs.take (at_+2)).drop at_).map bh.v:=by rw [List.map_drop,List.map_take]
 have hd:((cs.take (at_+2)).drop at_).length<=16777216:=by rw [List.length_drop,aV];omega
 refine bx (p:=(((cs.map bh.v).take (at_+2)).drop at_).length<=16777216) (by rw [em,ah];exact hd) ?_;refine fM (l:=(cs.take (at_+2)).drop at_) em wV hd (fun U e=>bZ e) (fun M hM d hd acc K K' q=>q) ?_;refine cD (bY (cB fun U=>rfl) rfl) ?_;refine cu (b:=eqVs (((cs.take (at_+2)).drop at_).map fun d=>wV d.v) [.int 1, .int 1]) (fun e2=>ji ?_) fun U=>fP (qe _ fun U U h=>h)
 have ge:∀k,k<2->((cs.take (at_+2)).drop at_)[k]? =cs[at_+k]? :=fun k hk=>by
  (refine ak (List.getElem?_drop ..) ?_;refine ak (List.getElem?_take ..) ?_;rw [if_pos (Nat.add_lt_add_left hk _)])
 revert ge e2
 match (cs.take (at_+2)).drop at_ with
 | []=>exact fun e2=>cR e2
 | [x]=>intro e2;have e2:(decide ((x.w:Int)=1) && false)=true:=e2;rw [Bool.and_false] at e2;exact cR e2
 | x::y::t=>
  intro e2 ge;obtain ⟨a1,a2⟩:=ay.mp e2;exact q2 (eq_of_beq e1) x y (ge 0 (by decide)).symm (ge 1 (by decide)).symm (Int.ofNat_inj.mp (aU a1)) (Int.ofNat_inj.mp (aU (ay.mp a2).1)) _ fun U U h=>h
end
section
variable {Y:be} {Q X:KV} {K:KF} {H:bv} {D R C L:Addr} {r:List DS} {sz:List Nat} {on_:Bool} {at_ n k way:Nat} {ids:ou} {cs:List bh} {x:bh} {l:List V}
theorem l313 (h39:H 39=some (.ref D)) (h15:H 15=some (.ref C)) (h50:H 50=some (bc at_)) (h:bK Y D R) (hC:Y C=some (.list (cs.map bh.v))) (nD:C≠D) (nR:C≠R) (h6:cs.length<=6) (ha:at_<cs.length) (q:∀v Y',[v]∈yB->bK Y' D R->fB D R Y Y'->K .next H (Y'.set C (.list ((cs.set at_ ⟨[v],1,nrm⟩).map bh.v)))):exDs tab (Gm 43) [mT] H Y K X:=by
 have hl:(cs.map bh.v).length<=16777216:=by rw [ah];exact bz h6 rfl
 refine bg h39 (jV h (by decide) (by decide) fun v Y' hv d o=> ?_);refine bg h15 ?_;refine k9 h50 ((o C nD nR).trans hC) hl (by rw [ah];exact ha) ?_;have q:=fun w h=>q w Y' h d o;simp only [List.map_set] at q
 match v,hv with
 | 0,U=>exact q 97 (.head _)
 | 1,U=>exact q 98 (.tail _ (.head _))
 | 2,U=>exact q 99 (.tail _ (.tail _ (.head _)))
theorem l315 (h15:H 15=some (.ref C)) (h50:H 50=some (bc at_)) (hC:Y C=some (.list (cs.map bh.v))) (h6:cs.length<=6) (hx:cs[at_]? =some x) (q:K .next H (Y.set C (.list ((cs.set at_ ⟨x.s,x.w,⟨1,-1,4,-1⟩⟩).map bh.v)))):exDs tab (Gm 43) [ng] H Y K X:=by
 have hl:(cs.map bh.v).length<=16777216:=by rw [ah];exact bz h6 rfl
 refine bg h15 ?_;refine iF h50 hC hl (bM hx) ?_;refine bg h15 ?_;refine iF h50 hC hl (bM hx) ?_;refine bg h15 ?_;refine k9 h50 hC hl (by rw [ah];exact (aM.mp hx).1) ?_;rw [List.map_set] at q;exact q
theorem l317 (h15:H 15=some (.ref C)) (h50:H 50=some (bc at_)) (hC:Y C=some (.list (cs.map bh.v))) (h6:cs.length<=6) (ha:at_+2<=cs.length) (q:K .next H (Y.set C (.list ((cs.take at_++[⟨[19968],2,nrm⟩,tail0]++cs.drop (at_+2)).map bh.v)))):exDs tab (Gm 43) [nI] H Y K X:=by
 refine bg h15 (bg h50 (bg h50 (bg (bF hC) ?_)));refine bx (p:=(0:Int)<=at_) (Int.natCast_nonneg _) (bx (p:=(at_:Int)<=(at_:Int)+2) (by lia) (bx (p:=(at_:Int)+2<=((cs.map bh.v).length:Nat)) (by rw [ah];exact bb.mpr ‹_›) (bx (by rw [ah];exact aj (Nat.add_le_add_right h6 2) (ad rfl)) ?_)));rw [aJ,aJ,List.map_take,List.map_drop] at q;exact q
theorem l319 (h39:H 39=some (.ref D)) (h52:H 52=some (.ref L)) (h:bK Y D R) (hL:Y L=some (.list [.ref C, .str sz, .bool on_])) (nD:L≠D) (nR:L≠R) (q:∀sz' Y',sz'∈qS->bK Y' D R->fB D R Y Y'->K .next H (Y'.set L (.list [.ref C, .str sz', .bool on_]))):exDs tab (Gm 43) [oa] H Y K X:=by
 refine bg h39 (jV h (by decide) (by decide) fun v σ1 hv d1 o1=> ?_);refine eY (L:=sz6.map V.str) (ad rfl) hv fun x hx=> ?_;obtain ⟨f,hf,rfl⟩:=aN.mp hx;refine bg h52 ?_;exact iD ((o1 L nD nR).trans hL) (ad rfl) (ad rfl) (q f σ1 (FF f hf) d1 o1)
theorem l321 (h52:H 52=some (.ref L)) (hL:Y L=some (.list [.ref C, .str sz, .bool on_])) (q:K .next H (Y.set L (.list [.ref C, .str sz, .bool !on_]))):exDs tab (Gm 43) [mL] H Y K X:=by
 refine bg h52 ?_;refine dq (k:=2) hL (ad rfl) rfl ?_;refine bg h52 ?_;exact iD (k:=2) hL (ad rfl) (ad rfl) q
theorem l323 (h47:H 47=some (.lst (ids.map fun p=> .ref p.1))) (h39:H 39=some (.ref D)) (h50:H 50=some (bc at_)) (h:bK Y D R) (h0:0<ids.length) (h3:ids.length<=3) (q:∀v b Y',v<ids.length->bK Y' D R->fB D R Y Y'->K .next ((H.set 45 (.tup [bc v,bc at_])).set 49 (.bool b)) Y'):exDs tab (Gm 43) [m5] H Y K X:=by
 refine bg h39 (bg h47 (bx (show (ids.map fun p=>V.ref p.1).length<=16777216 by rw [ah];exact bz h3 rfl) ?_));refine bi (show ((ids.map fun p=>V.ref p.1).length:Int)=(ids.length:Int) by rw [ah]) ?_;refine jV h h0 (aj h3 (by decide)) fun i σ1 hi d1 o1=>bg h50 (bg h39 (jV d1 (by decide) (by decide) fun w σ2 hw d2 o2=>q i _ σ2 hi d2 (o1.trans o2)))
end
noncomputable def ku (ids:ou) (Y:be):be:=fun b=>cond (ids.any fun p=>Nat.beq b p.1 || Nat.beq b p.2) none (Y b)
theorem yP {a b:Nat} (h:a≠b):Nat.beq a b=false:=Bool.eq_false_iff.mpr fun r=>h (aQ r)
theorem AI {ids:ou} {Y:be} {p:Addr×Addr} (h:p∈ids):ku ids Y p.1=none/\ku ids Y p.2=none:=by
 have g:∀b,(Nat.beq b p.1 || Nat.beq b p.2)=true->ku ids Y b=none:=fun b e=>by
  delta ku;rw [List.any_eq_true.mpr ⟨p,h,e⟩];rfl
 exact ⟨g _ (aY.mpr (.inl (Nat.beq_refl _))),g _ (aY.mpr (.inr (Nat.beq_refl _)))⟩
theorem iM {ids:ou} {Y:be} {b:Addr} (h:mB ids b):ku ids Y b=Y b:=by
 delta ku;rw [List.any_eq_false.mpr fun p hp=>by refine bi (yP (h p hp).1) ?_;refine bi (yP (h p hp).2) ?_;exact Bool.false_ne_true];rfl
theorem Ba {ids:ou} {Y:be} {b:Addr} {o:O} (h:ku ids Y b=some o):Y b=some o:=by
 delta ku at h;revert h
 cases (ids.any fun p=>Nat.beq b p.1 || Nat.beq b p.2) with
 | true=>exact fun h=>bZ h
 | false=>exact id
theorem B9 (ids:ou) (Y:be) (b:Addr):mB ids b\/ku ids Y b=none:=by
 delta ku
 cases e:(ids.any fun p=>Nat.beq b p.1 || Nat.beq b p.2) with
 | true=>exact .inr rfl
 | false=>
  refine .inl fun p hp=> ?_;obtain ⟨h1,h2⟩:=aT.mp (Bool.eq_false_iff.mpr (List.any_eq_false.mp e p hp));exact ⟨fun r=>(by rw [r,Nat.beq_refl] at h1;exact lN h1),fun r=>(by rw [r,Nat.beq_refl] at h2;exact lN h2)⟩
theorem Fzs.lines {Y Y':be} {ids:ou}:∀{ls:List Ln},ids.length=ls.length->(∀(i:Nat) (p:Addr×Addr) (l:Ln),ids[i]? =some p->ls[i]? =some l->Fz Y Y' (hY l) (.ref p.1))->Fzs Y Y' (ls.map hY) (ids.map fun p=> .ref p.1):=by
 induction ids with
 | nil=>
  intro ls h _;rw [List.length_eq_zero_iff.mp h.symm];rfl
 | cons p ids ih=>
  intro ls h g
  cases ls with
  | nil=>exact absurd h (Nat.succ_ne_zero _)
  | cons l ls=>exact ⟨g 0 p l rfl rfl,ih (Nat.succ.inj h) fun i=>g (i+1)⟩
structure Dx (σ0:be) (D R:Addr) (ids:ou) (P0:Pc) (s:be×Pc):Prop where
 d:bK s.1 D R
 l:px s.1 ids s.2.ls
 x:∀b,b≠D->b≠R->mB ids b->s.1 b=σ0 b
 g:cL s.2
 c:s.2.c=P0.c
 n:s.2.ls.length=P0.ls.length
section
variable {Y σ0:be} {Q X:KV} {K:KF} {H:bv} {D R C L:Addr} {ids:ou} {P0:Pc} {s:be×Pc} {i:Nat} {p:Addr×Addr} {l:Ln}
noncomputable abbrev AL (D:Addr) (v:V) (ids:ou) (P:Pc):List (Nat×V):=[(49, .bool P.sh),(45,bO P),(47, .lst (ids.map fun p=> .ref p.1)),(48,v),(39, .ref D)]
theorem Dx.line {σ1:be} {l':Ln} (h:Dx σ0 D R ids P0 s) (d:bK σ1 D R) (hl:s.2.ls[i]? =some l) (hl':LnG s.2.c l->LnG s.2.c l') (lns:px σ1 ids (s.2.ls.set i l')) (x:∀b,b≠D->b≠R->mB ids b->σ1 b=s.1 b):Dx σ0 D R ids P0 (σ1,⟨s.2.c,s.2.ls.set i l',s.2.r0,s.2.c0,s.2.sh⟩):=by
 have hn:(s.2.ls.set i l').length=s.2.ls.length:=List.length_set;refine ⟨d,lns,fun b h1 h2 h3=>(x b h1 h2 h3).trans (h.x b h1 h2 h3),⟨?_, ?_,h.g.c2,h.g.c6,fun m hm=> ?_, ?_,h.g.c0⟩,h.c,hn.trans h.n⟩
 ·show 0<(s.2.ls.set i l').length;refine bi hn ?_;exact h.g.n1
 ·show (s.2.ls.set i l').length<=3;refine bi hn ?_;exact h.g.n3
 ·rcases List.mem_or_eq_of_mem_set hm with hm | rfl
  ·exact h.g.ls m hm
  ·exact hl' (h.g.ls l (aq hl))
 ·show s.2.r0<(s.2.ls.set i l').length;refine bi hn ?_;exact h.g.r0
theorem DI {v:V} (al:gn H (AL D v ids s.2)) (I:y4 σ0 ids) (oD:mB ids D) (oR:mB ids R) (hs:Dx σ0 D R ids P0 s) (hK:∀H' s',Dx σ0 D R ids P0 s'->gn H' (AL D v ids s'.2)->K .next H' s'.1):exDs tab (Gm 43) yw H s.1 K X:=by
 have h47:H 47=some (.lst (ids.map fun p=> .ref p.1)):=al.2.2.1;have h39:H 39=some (.ref D):=al.2.2.2.2.1;have hid:ids.length=s.2.ls.length:=hs.l.len;refine l308 h47 h39 hs.d (hid▸hs.g.n1) (hid▸hs.g.n3) fun i p way σ1 hi hway d1 o1=> ?_;have hpm:=aq hi;have hlt:i<s.2.ls.length:=hid▸(aM.mp hi).1;obtain ⟨l,hl⟩:∃l,s.2.ls[i]? =some l:=⟨_,an hlt⟩;have hg:=hs.g.ls l (aq hl);have cne:p.2≠D/\p.2≠R:=⟨aS (oD p hpm).2,aS (oR p hpm).2⟩;have lne:p.1≠D/\p.1≠R:=⟨aS (oD p hpm).1,aS (oR p hpm).1⟩;have mv:∀{σa σb:be} {ls:List Ln},px σa ids ls->fB D R σa σb->px σb ids ls:=fun h o=>h.off fun q hq=>⟨o _ (aS (oD q hq).1) (aS (oR q hq).1),o _ (aS (oD q hq).2) (aS (oR q hq).2)⟩;have l1:=mv hs.l o1;refine l309 rfl ((l1.at_ i p l hi hl).1) ?_;refine l310 h39 rfl (l1.at_ i p l hi hl).2 d1 (by refine bi hg.len ?_;exact a8 (by decide) hs.g.c2) (by refine bi hg.len ?_;exact hs.g.c6) fun at_ σ2 hat d2 o2=> ?_;have l2:=mv l1 o2;refine fI (l2.at_ i p l hi hl) fun hL2 hC2=> ?_;have c6:l.cs.length<=6:=by refine bi hg.len ?_;exact hs.g.c6
 refine l311 rfl hC2 c6 fun b hb=> ?_;have o12:fB D R s.1 σ2:=o1.trans o2;obtain ⟨x,hx⟩:∃x,l.cs[at_]? =some x:=⟨_,an hat⟩
 have fin:∀(H':bv) (σ3:be) (l':Ln),H'=((((H.set 52 (.ref p.1)).set 53 (bc way)).set 15 (.ref p.2)).set 50 (bc at_)).set 51 (.bool b)->(LnG s.2.c l->LnG s.2.c l')->bK σ3 D R->px σ3 ids (s.2.ls.set i l')->(∀b,b≠D->b≠R->mB ids b->σ3 b=s.1 b)->K .next H' σ3:=fun H' σ3 l' hρ hl' d lns hx=>by
  subst hρ;exact hK _ _ (hs.line d hl hl' lns hx) al
 have offC:∀(σ3:be) (o:O),fB D R s.1 σ3->∀b,b≠D->b≠R->mB ids b->(σ3.set p.2 o) b=s.1 b:=fun σ3 o h b h1 h2 h3=>(be.set_ne _ _ (h3 p hpm).2).trans (h b h1 h2);have offL:∀(σ3:be) (o:O),fB D R s.1 σ3->∀b,b≠D->b≠R->mB ids b->(σ3.set p.1 o) b=s.1 b:=fun σ3 o h b h1 h2 h3=>(be.set_ne _ _ (h3 p hpm).1).trans (h b h1 h2);refine l312 rfl rfl rfl hC2 c6 hx (fun U x1 K' hK'=> ?_) fun K1 k1=> ?_
 ·refine l313 h39 rfl rfl d2 hC2 cne.1 cne.2 c6 hat fun v σ3 hv d3 o3=>hK' _ _ (fin _ _ ⟨l.cs.set at_ ⟨[v],1,nrm⟩,l.sz,l.on⟩ rfl (fun g=>g.w0 hx x1 hv) (d3.new cne.1 cne.2) ((mv l2 o3).setC I hi hl) (offC σ3 _ (o12.trans o3)))
 refine l314 rfl rfl rfl hC2 c6 hx (fun xs K' hK'=> ?_) fun K2 k2=> ?_
 ·exact l315 rfl rfl hC2 c6 hx (hK' _ _ (k1 _ _ (fin _ _ ⟨l.cs.set at_ ⟨x.s,x.w,⟨1,-1,4,-1⟩⟩,l.sz,l.on⟩ rfl (fun g=>g.w1 hx xs) (d2.new cne.1 cne.2) (l2.setC I hi hl) (offC σ2 _ o12))))
 refine l316 rfl rfl rfl rfl hL2 hC2 c6 (fun hsz y z hy hz y1 z1 K' hK'=> ?_) fun K3 k3=> ?_
 ·have ha:at_+2<=l.cs.length:=(aM.mp hz).1;exact l317 rfl rfl hC2 c6 ha (hK' _ _ (k2 _ _ (k1 _ _ (fin _ _ ⟨l.cs.take at_++[⟨[19968],2,nrm⟩,tail0]++l.cs.drop (at_+2),l.sz,l.on⟩ rfl (fun g=>g.w2 hy hz y1 z1 hsz) (d2.new cne.1 cne.2) (l2.setC I hi hl) (offC σ2 _ o12)))))
 refine l318 rfl rfl (fun hbf K' hK'=> ?_) fun K4 k4=> ?_
 ·exact l319 h39 rfl d2 hL2 lne.1 lne.2 fun sz' σ3 hz d3 o3=>hK' _ _ (k3 _ _ (k2 _ _ (k1 _ _ (fin _ _ ⟨l.cs,sz',l.on⟩ rfl (fun g=>g.w3 (hb hbf) hz) (d3.new lne.1 lne.2) ((mv l2 o3).setL I hi hl) (offL σ3 _ (o12.trans o3))))))
 refine l320 rfl (fun K' hK'=> ?_) (fun K' hK'=> ?_) (k4 _ _ (k3 _ _ (k2 _ _ (k1 _ _ ?_))))
 ·exact l321 rfl hL2 (hK' _ _ (k4 _ _ (k3 _ _ (k2 _ _ (k1 _ _ (fin _ _ ⟨l.cs,l.sz, !l.on⟩ rfl (fun g=>⟨g.sz,g.len,g.bs⟩) (d2.new lne.1 lne.2) (l2.setL I hi hl) (offL σ2 _ o12)))))))
 ·refine l323 h47 h39 rfl d2 (hid▸hs.g.n1) (hid▸hs.g.n3) fun r0 sb σ3 hr d3 o3=>hK' _ _ (k4 _ _ (k3 _ _ (k2 _ _ (k1 _ _ (hK _ (σ3,⟨s.2.c,s.2.ls,r0,at_,sb⟩) ⟨d3,mv l2 o3,fun b h1 h2 h3=>((o12.trans o3) b h1 h2).trans (hs.x b h1 h2 h3),⟨hs.g.n1,hs.g.n3,hs.g.c2,hs.g.c6,hs.g.ls,hid▸hr,hg.len▸hat⟩,hs.c,hs.n⟩ ⟨rfl,rfl,al.2.2⟩)))))
 ·have es:s.2.ls.set i l=s.2.ls:=by
   refine List.ext_getElem? fun j=> ?_;refine ak (List.getElem?_set ..) ?_
   by_cases e:i=j
   ·subst e;refine bi (if_pos rfl) ?_;refine bi (if_pos hlt) ?_;refine bi hl ?_;rfl
   ·refine bi (if_neg e) ?_;rfl
  exact fin _ _ l rfl id d2 (es.symm▸l2) fun b h1 h2 U=>o12 b h1 h2
end
section
variable {Y:be} {Q X:KV} {K:KF} {H:bv} {D R:Addr} {r:List DS} {P:Pc}
theorem l306 (h48:H 48=some (bP P)) (h:bK Y D R) (hp:cL P) (q:∀ids Y',bK Y' D R->px Y' ids P.ls->y4 Y ids->mB ids D->mB ids R->(∀b,mB ids b->Y' b=Y b)->exDs tab (Gm 43) r (((H.set 47 (.lst (ids.map fun p=> .ref p.1))).set 45 (bO P)).set 49 (.bool P.sh)) Y' K X):exDs tab (Gm 43) (uY::r) H Y K X:=by
 refine bg h48 fun M hM=> ?_;refine Bf hM P.ls [] [] _ (fun l hl=>by rw [(hp.ls l hl).len];exact hp.c6) (by rw [List.length_nil,Nat.zero_add];exact aj hp.n3 (by decide)) ⟨be.set_same _ _ _,⟨rfl,fun i p l h=>bZ h⟩,⟨fun p h=>(fh h),fun i j p q h=>bZ h⟩,fun p h=>(fh h),fun b h1 U=>be.set_ne _ _ h1⟩ fun ids Y' b=> ?_
 have om:∀{b},mB ids b->(Y'.del M) b=Y b:=fun {b'} ho=>by
  by_cases e:b'=M
  ·rw [e,eF,hM]
  ·exact (dn e).trans (b.x b' e ho)
 refine cr fun hn=> ?_;obtain ⟨ne,⟨m,t,hD⟩,is,hR,hl⟩:=h;refine hn ?_;have oD:mB ids D:=fun p hp=>⟨fun r=>(by have:=(b.i.fr p hp).1;rw [<-r,hD] at this;exact gq this),fun r=>(by have:=(b.i.fr p hp).2;rw [<-r,hD] at this;exact gq this)⟩;have oR:mB ids R:=fun p hp=>⟨fun r=>(by have:=(b.i.fr p hp).1;rw [<-r,hR] at this;exact gq this),fun r=>(by have:=(b.i.fr p hp).2;rw [<-r,hR] at this;exact gq this)⟩;refine ⟨_,b.m, ?_⟩;refine bg h48 (bg h48 ?_);exact q ids (Y'.del M) ⟨ne,⟨m,t,(om oD).trans hD⟩,is,(om oR).trans hR,hl⟩ (b.l.off fun p hp=>⟨dn (aS (b.o p hp).1),dn (aS (b.o p hp).2)⟩) b.i oD oR fun U h=>om h
theorem l324 {ids:ou} {P':Pc} {σ0:be} (h47:H 47=some (.lst (ids.map fun p=> .ref p.1))) (h45:H 45=some (bO P')) (h49:H 49=some (.bool P'.sh)) (l:px Y ids P'.ls) (q:Q (bP P') (ku ids Y)):exDs tab (Gm 43) [tF] H Y (cQ Q) X:=by
 refine bg h47 (bg h45 (bg h49 (qP q (.le fun b o e=>Ba e) (.inl ⟨_,rfl, .inl ⟨_,rfl,Fzs.lines l.len fun i p l' hi hl=> ?_⟩, .refl _ _ _,rfl,rfl⟩))));obtain ⟨g1,g2⟩:=l.at_ i p l' hi hl;obtain ⟨d1,d2⟩:=AI (aq hi);exact .inr ⟨p.1,_,rfl,g1,d1, .inr ⟨p.2,_,rfl,g2,d2, .self _ _ _⟩,rfl,rfl,rfl⟩
theorem l307 (h39:H 39=some (.ref D)) (h:bK Y D R) (q:∀(k:Nat) (Y':be),k<4->bK Y' D R->fB D R Y Y'->fZ (fun H' Y' Q'=>exDs tab (Gm 43) yw H' Y' Q' X) (.n false 44 ⟨307,8,307,12⟩) none (dl 0 k) H Y' (fun fl H' Y'=>(fun fl Ji Jo=>match fl with | .next=>exDs tab (Gm 43) r Ji Jo K X | fl=>K fl Ji Jo) fl H' (unhid none Y'))):exDs tab (Gm 43) (tL::r) H Y K X:=by
 refine bg h39 (jV h (by decide) (by decide) fun k σ2 hk d2 o2=> ?_);exact bx (p:=((k:Int)<=2 ^ 24)) (bb.mpr (bz (a6 hk) rfl)) (q k σ2 hk d2 o2)
theorem q43 (h:bK Y D R) (hp:cL P) (q:∀P' Y',cL P'->P'.c=P.c->P'.ls.length=P.ls.length->bK Y' D R->fB D R Y Y'->Q (bP P') Y'):bd (Gm 43) 43 [.ref D,bP P] Y Q X:=by
 refine ⟨rfl,l306 rfl h hp fun ids σ1 d1 l1 I oD oR off=> ?_⟩
 have fin:∀(H':bv) (s:be×Pc),H'=mk (AL D (bP P) ids s.2)->Dx Y D R ids P s->exDs tab (Gm 43) CV H' s.1 (cQ Q) X:=fun H' s e hs=>by
  subst e;refine l324 (σ0:=Y) rfl rfl rfl hs.l (q s.2 _ hs.g hs.c hs.n ?_ fun b h1 h2=> ?_)
  ·refine cr fun hn=> ?_;obtain ⟨ne,⟨m,t,hD⟩,is,hR,hl⟩:=hs.d;exact hn (⟨ne,⟨m,t,(iM oD).trans hD⟩,is,(iM oR).trans hR,hl⟩)
  ·rcases B9 ids s.1 b with ho | hn
   ·exact (iM ho).trans (hs.x b h1 h2 ho)
   ·rw [hn]
    by_cases ho:mB ids b
    ·rw [iM ho] at hn;rw [<-hs.x b h1 h2 ho,hn]
    ·have:∃p∈ids,b=p.1\/b=p.2:=Classical.byContradiction fun no=>ho fun p hp=>⟨fun r=>no ⟨p,hp, .inl r⟩,fun r=>no ⟨p,hp, .inr r⟩⟩;obtain ⟨p,hp,rfl | rfl⟩:=this
     ·exact (I.fr p hp).1.symm
     ·exact (I.fr p hp).2.symm
 refine l307 rfl d1 fun k σ2 hk d2 o2=> ?_;refine dE (fun s:be×Pc=>AL D (bP P) ids s.2) (·.1) (fun U s=>Dx Y D R ids P s) ?_ ?_ (σ2,P) ⟨d2,l1.off fun p hp=>⟨o2 _ (aS (oD p hp).1) (aS (oR p hp).1),o2 _ (aS (oD p hp).2) (aS (oR p hp).2)⟩,fun b h1 h2 h3=>(o2 b h1 h2).trans (off b h3),hp,rfl,rfl⟩ rfl rfl
 ·exact fun s hs=>fin _ s rfl hs
 ·intro j s hj hs W hW;exact DI ⟨rfl,rfl,rfl,rfl,rfl,trivial⟩ I oD oR hs fun H' s' hs' al=>cV (hW s' hs') al
end
noncomputable def gp:List Nat:=[108,105,110,101]
noncomputable def iX:List Nat:=[114,117,110,32]
noncomputable def rU (R:List (List Nat)) (B:List (List Nat)) (m:Nat):Prop:=
 (∃(k:Nat) (x:List Nat),k<2/\R[k]? =some x/\B=R.take k++[x++[32,49]]++R.drop (k+1)/\m=k+1)\/
 (∃(k:Nat) (x:List Nat),R[k]? =some x/\x.take 4=gp/\B=R.take k++[x++[32,111,110]]++R.drop (k+1)/\m=k+1)\/
 (∃(k:Nat) (x:List Nat),R[k]? =some x/\x.take 4=iX/\B=R.take k++[x++[32,50,48]]++R.drop (k+1)/\m=k+1)\/
 (∃(k:Nat) (x:List Nat),R[k]? =some x/\x.take 4=iX/\B=R.take (k+1)++R.drop k/\m=k+2)\/
 (∃(k:Nat) (x:List Nat),R[k]? =some x/\x.take 4=gp/\B=R.take k/\m=k+1)\/
 (∃(k:Nat) (x:List Nat),R[k]? =some x/\B=R++[x]/\m=R.length+1)\/
 (∃(k:Nat) (x:List Nat),R[k]? =some x/\x.take 4=iX/\B=R.take k++[[114,117,110,32,48]++x.drop 4]++R.drop (k+1)/\m=k+1)
theorem gF {α:Type} (l:List α) (a:Nat):l4 l .none (bc a)=some (l.take a):=by
 show some (Em l none (some (if (a:Int)<0 then _ else (a:Int).toNat)))=_;refine bi (if_neg (Int.not_lt.mpr (Int.natCast_nonneg a))) ?_;rw [Int.toNat_natCast];rfl
theorem iH {α:Type} (l:List α) (a:Nat):l4 l (bc a) .none=some (l.drop a):=by
 show some (Em l (some (if (a:Int)<0 then _ else (a:Int).toNat)) none)=_;refine bi (if_neg (Int.not_lt.mpr (Int.natCast_nonneg a))) ?_;rw [Int.toNat_natCast];rfl
section
variable {Y:be} {Q X:KV} {K:KF} {H:bv} {D R:Addr} {r:List DS} {T:List (List Nat)} {k:Nat} {x y:List Nat}
theorem kG {l:List V} {m n:Nat} (h:l.length<=100) (hm:Nat.ble (100+m) 16777216=true):(l.take n).length+m<=16777216:=aj (Nat.add_le_add_right (aj (List.length_take_le' n l) h) m) (ad hm)
theorem iw {l:List V} {n:Nat} (h:l.length<=100):(l.drop n).length<=100:=by refine bi List.length_drop ?_;exact aj (Nat.sub_le _ _) h
theorem n7 {l:List V} {v:V} {n m:Nat} (h:l.length<=100):(l.take n++[v]).length<=16777216/\(l.take n++[v]++l.drop m).length<=16777216:=by
 have h1:=aj (List.length_take_le' n l) h;have h2:=iw (n:=m) h
 constructor
 ·refine bi ai ?_;exact aj (aO h1) (ad rfl)
 ·refine bi ai ?_;refine bi ai ?_;exact aj (Nat.add_le_add (aO h1) h2) (ad rfl)
theorem l355 (h39:H 39=some (.ref D)) (h:bK Y D R) (q:∀v Y',v<8->bK Y' D R->fB D R Y Y'->exDs tab (Gm 49) r (H.set 53 (bc v)) Y' K X):exDs tab (Gm 49) (tc::r) H Y K X:=
 bg h39 (jV (below:=8) h (by decide) (by decide) fun v σ1 hv d o=>q v σ1 hv d o)
noncomputable def jL (way:Nat):List Nat:=cond (Nat.beq way 2 || Nat.beq way 5) gp iX
noncomputable def oz (T:List (List Nat)) (p:List Nat) (v:V):Option V:=cond ((T.getD (ED v) []).take 4==p) (some v) none
theorem l356 {way:Nat} (h53:H 53=some (bc way)) (h31:H 31=some (.lst (T.map .str))) (hn:T.length<=100) (hr:∀r∈T,r.length<=10000) (q:exDs tab (Gm 49) r (H.set 58 (.lst (((List.range T.length).map bc).filterMap (oz T (jL way))))) Y K X):exDs tab (Gm 49) (tI::r) H Y K X:=by
 have hl:(T.map V.str).length<=16777216:=by rw [ah];exact bz hn rfl
 refine bg h31 (bx hl (bx (p:=(((T.map V.str).length:Nat):Int)<=2 ^ 24) (bb.mpr hl) ?_));have e:dl 0 ((T.map V.str).length:Nat)=(List.range T.length).map bc:=by rw [ah];exact d7 _
 show ∀D,Y D=none->dQ _ _ _ none D (dl 0 ((T.map V.str).length:Nat)) _ _ _;rw [e];refine fS (oz T (jL way)) _ (by rw [ah,List.length_range];exact bz hn rfl) (fun U e=>bZ e) (fun M hM x hx=> ?_) q;obtain ⟨k,hk,rfl⟩:=aN.mp hx;have hk':=List.mem_range.mp hk;intro acc K K' q;have hx:=an hk';have q:kU (cond ((T.getD k []).take 4==jL way) (some (bc k)) none) (K · (Y.set M (.list acc))) (K' (Y.set M (.list acc))):=q;rw [List.getD_eq_getElem?_getD,hx] at q;refine bg h31 (bD hl rfl (bM hx) (bx (aj (hr _ (List.getElem_mem hk')) (ad rfl)) (bg (gF _ 4) (bg h53 ?_))))
 have ep:jL way=cond (decide ((2:Int)=way) || (decide ((5:Int)=way) || false)) gp iX:=by
  unfold jL;rw [Bool.or_false,show decide ((2:Int)=way)=Nat.beq 2 way from cJ 2 way,show decide ((5:Int)=way)=Nat.beq 5 way from cJ 5 way,sE 2,sE 5]
 rw [ep] at q
 have fin:∀p:List Nat,kU (cond (T[k].take 4==p) (some (bc k)) none) (K · (Y.set M (.list acc))) (K' (Y.set M (.list acc)))->pK (.bool (T[k].take 4==p)) (K (bc k) (Y.set M (.list acc))) (K' (Y.set M (.list acc))):=fun p q=>by
  cases e:T[k].take 4==p<;>(rw [e] at q;exact q)
 refine cu (b:=decide ((2:Int)=way) || (decide ((5:Int)=way) || false)) (fun e=> ?_) fun e=> ?_
 ·rw [e] at q;have g:=fin gp q;refine cu (b:=T[k].take 4==gp) (fun e=> ?_) fun e=> ?_<;>(rw [e] at g;exact g)
 ·rw [e] at q;have g:=fin iX q;refine cu (b:=T[k].take 4==iX) (fun e=> ?_) fun e=> ?_<;>(rw [e] at g;exact g)
end
section
variable {Y:be} {Q X:KV} {K:KF} {H:bv} {D R:Addr} {r:List DS} {T B:List (List Nat)} {k m:Nat} {x y:List Nat}
theorem zo {p:List Nat} {v:V} (h:v∈((List.range T.length).map bc).filterMap (oz T p)):∃(k:Nat) (x:List Nat),v=bc k/\T[k]? =some x/\x.take 4=p:=by
 refine cr fun hn=> ?_;refine bu (List.mem_filterMap.mp h) fun z hz e=> ?_;refine bu (aN.mp hz) fun k hk y11=> ?_;subst y11;refine hn ?_;have hx:=an (List.mem_range.mp hk);have e:cond ((T.getD k []).take 4==p) (some (bc k)) none=some v:=e;rw [List.getD_eq_getElem?_getD,hx] at e;have e:cond ((T[k]'(List.mem_range.mp hk)).take 4==p) (some (bc k)) none=some v:=e
 cases c:((T[k]'(List.mem_range.mp hk)).take 4==p) with
 | true=>rw [c] at e;exact ⟨k,_,(Option.some.inj e).symm,hx,eq_of_beq c⟩
 | false=>rw [c] at e;exact bZ e
theorem BY {p:List Nat} (hx:T[k]? =some x) (e:x.take 4=p):((List.range T.length).map bc).filterMap (oz T p)≠[]:=fun h=>by
 have:bc k∈((List.range T.length).map bc).filterMap (oz T p):=List.mem_filterMap.mpr ⟨bc k,aN.mpr ⟨k,List.mem_range.mpr ((aM.mp hx).1),rfl⟩,by
  show cond ((T.getD k []).take 4==p) (some (bc k)) none=_;refine bi (List.getD_eq_getElem?_getD) ?_;refine bi hx ?_;show cond (x.take 4==p) _ _=_;refine bi e ?_;rw [a9];rfl⟩
 rw [h] at this;exact fh this
theorem l357 {p:List Nat} (h39:H 39=some (.ref D)) (h58:H 58=some (.lst (((List.range T.length).map bc).filterMap (oz T p)))) (hn:T.length<=100) (hx:T[k]? =some x) (hp:x.take 4=p) (h:bK Y D R) (q:∀(k:Nat) (x:List Nat) (Y':be),T[k]? =some x->x.take 4=p->bK Y' D R->fB D R Y Y'->exDs tab (Gm 49) r (H.set 50 (bc k)) Y' K X):exDs tab (Gm 49) (u1::r) H Y K X:=by
 have hl:(((List.range T.length).map bc).filterMap (oz T p)).length<=100:=aj (List.length_filterMap_le _ _) (by rw [ah,List.length_range];exact hn);refine bg h58 (bg h39 (bg h58 (bx (bz hl rfl) ?_)));refine jV (below:=(((List.range T.length).map bc).filterMap (oz T p)).length) h (List.length_pos_iff.mpr (BY hx hp)) (aj hl (by decide)) fun i σ1 hi d1 o1=> ?_;refine eY (bz hl rfl) hi fun v hv=> ?_;obtain ⟨k,x,rfl,e1,e2⟩:=zo hv;exact q k x σ1 e1 e2 d1 o1
theorem l359 (h31:H 31=some (.lst (T.map .str))) (h53:H 53=some (bc k)) (hn:T.length<=100) (hx:T[k]? =some x) (hl:x.length<=10000) (q:Q (.tup [.lst ((T.take k++[x++[32,49]]++T.drop (k+1)).map .str),bc (k+1)]) Y):exDs tab (Gm 49) [ny] H Y (cQ Q) X:=by
 have hn':(T.map V.str).length<=100:=by rw [ah];exact hn
 have hb:(T.map V.str).length<=16777216:=bz hn' rfl;obtain ⟨m1,m2⟩:=n7 hn';refine bg h31 (bg h53 (bx hb (bg (gF _ k) (bx (kG (m:=0) hn' rfl) (bg h31 (bg h53 (bD hb rfl (bM hx) (bx (aj (Nat.add_le_add_right hl 2) (ad rfl)) ?_))))))));refine bx m1 (bg h31 (bg h53 (bx hb (bg (iH _ (k+1)) (bx (bz (iw hn') rfl) (bx m2 (bg h53 ?_)))))));rw [aJ,aJ,List.map_take,List.map_drop] at q;exact bR q
theorem FJ {way:Nat} {w:List Nat} (hw:way=2/\w=[32,111,110]\/way=3/\w=[32,50,48]) (h31:H 31=some (.lst (T.map .str))) (h53:H 53=some (bc way)) (h50:H 50=some (bc k)) (hn:T.length<=100) (hx:T[k]? =some x) (hl:x.length<=10000) (q:Q (.tup [.lst ((T.take k++[x++w]++T.drop (k+1)).map .str),bc (k+1)]) Y):exDs tab (Gm 49) [u0] H Y (cQ Q) X:=by
 have hn':(T.map V.str).length<=100:=by rw [ah];exact hn
 have hb:(T.map V.str).length<=16777216:=bz hn' rfl;refine fI (n7 (v:= .str (x++w)) (n:=k) (m:=k+1) hn') fun m1 m2=> ?_;have hxw:x.length+3<=16777216:=aj (Nat.add_le_add_right hl 3) (ad rfl);rw [aJ,aJ,List.map_take,List.map_drop] at q;refine bg h31 (bg h50 (bx hb (bg (gF _ k) (bx (kG (m:=0) hn' rfl) (bg h31 (bg h50 (bD hb rfl (bM hx) ?_)))))));rcases hw with ⟨rfl,rfl⟩ | ⟨rfl,rfl⟩
 ·refine bg h53 (bx hxw ?_);refine bx m1 (bg h31 (bg h50 (bx hb (bg (iH _ (k+1)) (bx (bz (iw hn') rfl) (bx m2 (bg h50 ?_)))))));exact bR q
 ·refine bg h53 (bx hxw ?_);refine bx m1 (bg h31 (bg h50 (bx hb (bg (iH _ (k+1)) (bx (bz (iw hn') rfl) (bx m2 (bg h50 ?_)))))));exact bR q
theorem l363 (h31:H 31=some (.lst (T.map .str))) (h50:H 50=some (bc k)) (hn:T.length<=100) (q:Q (.tup [.lst ((T.take (k+1)++T.drop k).map .str),bc (k+2)]) Y):exDs tab (Gm 49) [vo] H Y (cQ Q) X:=by
 have hn':(T.map V.str).length<=100:=by rw [ah];exact hn
 have hb:(T.map V.str).length<=16777216:=bz hn' rfl;refine bg h31 (bg h50 (bx hb (bg (gF _ (k+1)) (bx (kG (m:=0) hn' rfl) (bg h31 (bg h50 (bx hb (bg (iH _ k) (bx (bz (iw hn') rfl) (bx (p:=((T.map V.str).take (k+1)++(T.map V.str).drop k).length<=16777216) ?_ (bg h50 ?_)))))))))))
 ·refine bi ai ?_;exact aj (Nat.add_le_add (aj (List.length_take_le' _ _) hn') (iw hn')) (ad rfl)
 ·rw [aJ,List.map_take,List.map_drop] at q;exact bR q
theorem l365 (h31:H 31=some (.lst (T.map .str))) (h50:H 50=some (bc k)) (hn:T.length<=100) (q:Q (.tup [.lst ((T.take k).map .str),bc (k+1)]) Y):exDs tab (Gm 49) [vf] H Y (cQ Q) X:=by
 have hn':(T.map V.str).length<=100:=by rw [ah];exact hn
 refine bg h31 (bg h50 (bx (bz hn' rfl) (bg (gF _ k) (bx (kG (m:=0) hn' rfl) (bg h50 ?_)))));rw [List.map_take] at q;exact bR q
theorem l367 (h31:H 31=some (.lst (T.map .str))) (h39:H 39=some (.ref D)) (hn:T.length<=100) (h0:0<T.length) (h:bK Y D R) (q:∀(k:Nat) (x:List Nat) (Y':be),T[k]? =some x->bK Y' D R->fB D R Y Y'->Q (.tup [.lst ((T++[x]).map .str),bc (T.length+1)]) Y'):exDs tab (Gm 49) [sQ] H Y (cQ Q) X:=by
 have hn':(T.map V.str).length<=100:=by rw [ah];exact hn
 have hb:(T.map V.str).length<=16777216:=bz hn' rfl;have e:((T.map V.str).length:Int)=(T.length:Int):=by rw [ah]
 refine bg h31 (bg h31 (bg h39 (bg h31 (bx hb ?_))));rw [e];refine jV h h0 (aj hn (by decide)) fun i σ1 hi d1 o1=> ?_;have hx:=an hi;refine bD hb rfl (bM hx) (bx ?_ (bg h31 (bx hb ?_)))
 ·rw [ai];exact aj (aO hn') (ad rfl)
 ·rw [e];have q:=q i _ σ1 hx d1 o1;rw [bq] at q;exact bR q
theorem l368 (h31:H 31=some (.lst (T.map .str))) (h50:H 50=some (bc k)) (hn:T.length<=100) (hx:T[k]? =some x) (hl:x.length<=10000) (q:Q (.tup [.lst ((T.take k++[[114,117,110,32,48]++x.drop 4]++T.drop (k+1)).map .str),bc (k+1)]) Y):exDs tab (Gm 49) [nW] H Y (cQ Q) X:=by
 have hn':(T.map V.str).length<=100:=by rw [ah];exact hn
 have hb:(T.map V.str).length<=16777216:=bz hn' rfl;obtain ⟨m1,m2⟩:=n7 hn';refine bg h31 (bg h50 (bx hb (bg (gF _ k) (bx (kG (m:=0) hn' rfl) (bg h31 (bg h50 (bD hb rfl (bM hx) (bx (aj hl (ad rfl)) (bg (iH _ 4) (bx (show 5+(x.drop 4).length<=16777216 by rw [List.length_drop];omega) ?_))))))))));refine bx m1 (bg h31 (bg h50 (bx hb (bg (iH _ (k+1)) (bx (bz (iw hn') rfl) (bx m2 (bg h50 ?_)))))));rw [aJ,aJ,List.map_take,List.map_drop] at q;exact bR q
end
section
variable {Y:be} {Q X:KV} {K:KF} {H:bv} {D R:Addr} {T:List (List Nat)}
theorem l358 {way k:Nat} {x:List Nat} (hw:way<8) (h53:H 53=some (bc way)) (h31:H 31=some (.lst (T.map .str))) (h39:H 39=some (.ref D)) (h50:H 50=some (bc k)) (h:bK Y D R) (hn:T.length<=100) (h2:2<=T.length) (hr:∀r∈T,r.length<=10000) (hx:T[k]? =some x) (hp:x.take 4=jL way) (q:∀B m Y',rU T B m->bK Y' D R->fB D R Y Y'->Q (.tup [.lst (B.map .str),bc m]) Y'):exDs tab (Gm 49) [tj,tZ,s9,uU,s5,nW] H Y (cQ Q) X:=by
 have hl:=hr x (aq hx)
 have two:∀k,k<2->H 53=some (bc k)->exDs tab (Gm 49) [ny] H Y (cQ Q) X:=fun k hk h53=>by
  have hk':=a8 hk h2;have hx:=an hk';exact l359 h31 h53 hn hx (hr _ (List.getElem_mem hk')) (q _ _ Y (.inl ⟨k,_,hk,hx,rfl,rfl⟩) h .refl)
 have go:way=0\/way=1\/way=2\/way=3\/way=4\/way=5\/way=6\/way=7:=by lia
 rcases go with e | e | e | e | e | e | e | e<;>rw [e] at h53 hp
 ·exact bg h53 (two 0 (by decide) h53)
 ·exact bg h53 (two 1 (by decide) h53)
 ·exact bg h53 (bg h53 (FJ (.inl ⟨rfl,rfl⟩) h31 h53 h50 hn hx hl (q _ _ Y (.inr (.inl ⟨k,x,hx,hp,rfl,rfl⟩)) h .refl)))
 ·exact bg h53 (bg h53 (bg h53 (FJ (.inr ⟨rfl,rfl⟩) h31 h53 h50 hn hx hl (q _ _ Y (.inr (.inr (.inl ⟨k,x,hx,hp,rfl,rfl⟩))) h .refl))))
 ·exact bg h53 (bg h53 (bg h53 (bg h53 (l363 h31 h50 hn (q _ _ Y (.inr (.inr (.inr (.inl ⟨k,x,hx,hp,rfl,rfl⟩)))) h .refl)))))
 ·exact bg h53 (bg h53 (bg h53 (bg h53 (bg h53 (l365 h31 h50 hn (q _ _ Y (.inr (.inr (.inr (.inr (.inl ⟨k,x,hx,hp,rfl,rfl⟩))))) h .refl))))))
 ·exact bg h53 (bg h53 (bg h53 (bg h53 (bg h53 (bg h53 (l367 h31 h39 hn (a8 (by decide) h2) h fun k x Y' hx d o=>q _ _ Y' (.inr (.inr (.inr (.inr (.inr (.inl ⟨k,x,hx,rfl,rfl⟩)))))) d o))))))
 ·exact bg h53 (bg h53 (bg h53 (bg h53 (bg h53 (bg h53 (l368 h31 h50 hn hx hl (q _ _ Y (.inr (.inr (.inr (.inr (.inr (.inr ⟨k,x,hx,hp,rfl,rfl⟩)))))) h .refl)))))))
theorem q49 (h:bK Y D R) (hn:T.length<=100) (h2:2<=T.length) (hr:∀r∈T,r.length<=10000) (hl:∃(k:Nat) (x:List Nat),T[k]? =some x/\x.take 4=gp) (hu:∃(k:Nat) (x:List Nat),T[k]? =some x/\x.take 4=iX) (q:∀B m Y',rU T B m->bK Y' D R->fB D R Y Y'->Q (.tup [.lst (B.map .str),bc m]) Y'):bd (Gm 49) 49 [.ref D, .lst (T.map .str)] Y Q X:=by
 refine ⟨rfl,l355 rfl h fun way σ1 hw d1 o1=>l356 rfl rfl hn hr ?_⟩
 have ex:∃(k:Nat) (x:List Nat),T[k]? =some x/\x.take 4=jL way:=by
  unfold jL
  cases Nat.beq way 2 || Nat.beq way 5
  ·exact hu
  ·exact hl
 refine gU ex fun k0 x0 e0 p0=> ?_;exact l357 rfl rfl hn e0 p0 d1 fun k x σ2 e p d2 o2=>l358 hw rfl rfl rfl rfl d2 hn h2 hr e p fun B m σ3 b d3 o3=>q B m σ3 b d3 ((o1.trans o2).trans o3)
end
noncomputable def wF (cs:List bh) (k:Nat):Nat:=match cs[k]? with | some a=>a.w | none=>1
noncomputable def yq (a b:List bh) (k:Nat):Bool:=match a[k]? with | some x=>(match b[k]? with | some y=>bw x.v y.v | none=>true) | none=>true
noncomputable def wl (w:Nat->Nat):Nat->Nat
 | 0=>0
 | c+1=>cond (Nat.beq (w (c+1)) 0) c (c+1)
noncomputable def wr (w:Nat->Nat) (n c:Nat):Nat:=cond (Nat.beq (w c) 2 && Nat.blt (c+1) n) (c+1) c
noncomputable def rF (a b:Nat):Nat:=cond (Nat.blt b a) b a
noncomputable def kz (a b:Nat):Nat:=cond (Nat.blt a b) b a
noncomputable def push (l r:Nat) (f:List (Nat×Nat)):List (Nat×Nat):=match f.getLast? with
 | some p=>cond (Nat.ble l (p.2+1)) (f.dropLast++[(p.1,r)]) (f++[(l,r)])
 | none=>f++[(l,r)]
noncomputable def wZ (e:Nat->Bool) (a b:Nat->Nat) (n:Nat):Nat->Nat->List (Nat×Nat)->List (Nat×Nat)
 | 0,U,f=>f
 | k+1,c,f=>cond (Nat.blt c n) (cond (e c) (wZ e a b n k (c+1) f) (wZ e a b n k (kz (wr a n c) (wr b n c)+1) (push (rF (wl a c) (wl b c)) (kz (wr a n c) (wr b n c)) f))) f
noncomputable abbrev ij (p:Nat×Nat):V:= .tup [bc p.1,bc p.2]
section
variable {Y:be} {Q X:KV} {K:KF} {H:bv} {F:Addr} {r:List DS} {cs a b:List bh} {c n lft rgt:Nat} {x:bh} {f:List (Nat×Nat)}
theorem q12 (h6:cs.length<=6) (hx:cs[c]? =some x) (q:Q (bc (wl (wF cs) c)) Y):bd (Gm 12) 12 [bt cs,bc c] Y Q X:=by
 cases c with
 | zero=>exact ⟨rfl,bR q⟩
 | succ c=>
  have e:wl (wF cs) (c+1)=cond (Nat.beq x.w 0) c (c+1):=by show cond (Nat.beq (wF cs (c+1)) 0) _ _=_;delta wF;rw [hx]
  rw [e] at q;refine ⟨rfl,iL (b:=decide ((0:Int)<((c+1:Nat):Int))) (aA (Int.natCast_pos.mpr (Nat.succ_pos c))) (bD (show (cs.map bh.v).length<=16777216 by rw [ah];exact bz h6 rfl) rfl (bM hx) ?_)⟩;refine cu (b:=decide ((x.w:Int)=((0:Nat):Int))) (fun e=> ?_) fun e=> ?_
  ·rw [cJ] at e;rw [e] at q;have q:Q (.int (c:Int)) Y:=q;rw [<-(Int.add_sub_cancel (c:Int) 1)] at q;exact bR q
  ·rw [cJ] at e;rw [e] at q;exact bR q
theorem q13 (h6:cs.length<=6) (hx:cs[c]? =some x) (hn:cs.length=n) (q:Q (bc (wr (wF cs) n c)) Y):bd (Gm 13) 13 [bt cs,bc c] Y Q X:=by
 have hl:(cs.map bh.v).length<=16777216:=by rw [ah];exact bz h6 rfl
 have e:wr (wF cs) n c=cond (Nat.beq x.w 2 && Nat.blt (c+1) n) (c+1) c:=by delta wr wF;refine bi hx ?_;rfl
 replace q:=e▸q;refine ⟨rfl,bD hl rfl (bM hx) ?_⟩;refine cu (b:=decide ((x.w:Int)=((2:Nat):Int))) (fun e=>bx hl ?_) fun e=> ?_
 ·rw [cJ] at e;replace q:=e▸q;refine cu (b:=decide ((((c+1:Nat):Int))<((cs.map bh.v).length:Nat))) (fun e=> ?_) fun e=> ?_<;>(rw [ah,hn,dM] at e;rw [e] at q;exact bR q)
 ·rw [cJ] at e;replace q:=e▸q;exact bR q
theorem l99 {x y:bh} (h20:H 20=some (bt a)) (h21:H 21=some (bt b)) (h16:H 16=some (bc c)) (ha:a.length<=6) (hb:b.length<=6) (hx:a[c]? =some x) (hy:b[c]? =some y) (qt:yq a b c=true->K .cont (H.set 16 (bc (c+1))) Y) (qf:yq a b c=false->exDs tab (Gm 14) r H Y K X):exDs tab (Gm 14) (y7::r) H Y K X:=by
 have hla:(a.map bh.v).length<=16777216:=by rw [ah];exact bz ha rfl
 have hlb:(b.map bh.v).length<=16777216:=by rw [ah];exact bz hb rfl
 have e:yq a b c=bw x.v y.v:=by delta yq;refine bi hx ?_;refine bi hy ?_;rfl
 rw [e] at qt qf;refine bg h20 (bg h16 (bD hla rfl (bM hx) (bg h21 (bg h16 (bD hlb rfl (bM hy) (cD (bY (dI x 6) (dI y 6)) ?_))))));exact cu (fun e=>bg h16 (qt e)) fun e=>qf e
theorem Gh (a b:Nat):(if (b:Int)<(a:Int) then (b:Int) else a)=((rF a b:Nat):Int):=by
 delta rF;rw [<-dM]
 by_cases h:(b:Int)<a
 ·rw [if_pos h,aA h];rfl
 ·rw [if_neg h,decide_eq_false h];rfl
theorem FI (a b:Nat):(if (a:Int)<(b:Int) then (b:Int) else a)=((kz a b:Nat):Int):=by
 delta kz;rw [<-dM]
 by_cases h:(a:Int)<b
 ·rw [if_pos h,aA h];rfl
 ·rw [if_neg h,decide_eq_false h];rfl
theorem l102 {x y:bh} (h20:H 20=some (bt a)) (h21:H 21=some (bt b)) (h16:H 16=some (bc c)) (ha:a.length<=6) (hb:b.length<=6) (hx:a[c]? =some x) (hy:b[c]? =some y) (q:exDs tab (Gm 14) r (H.set 22 (bc (rF (wl (wF a) c) (wl (wF b) c)))) Y K X):exDs tab (Gm 14) (sI::r) H Y K X:=by
 refine bg h20 (bg h16 (q12 ha hx (bg h21 (bg h16 (q12 hb hy ?_)))));rw [bc,<-Gh] at q;exact q
theorem l103 {x y:bh} (h20:H 20=some (bt a)) (h21:H 21=some (bt b)) (h16:H 16=some (bc c)) (ha:a.length<=6) (hb:b.length<=6) (na:a.length=n) (nb:b.length=n) (hx:a[c]? =some x) (hy:b[c]? =some y) (q:exDs tab (Gm 14) r (H.set 23 (bc (kz (wr (wF a) n c) (wr (wF b) n c)))) Y K X):exDs tab (Gm 14) (vU::r) H Y K X:=by
 refine bg h20 (bg h16 (q13 ha hx na (bg h21 (bg h16 (q13 hb hy nb ?_)))));rw [bc,<-FI] at q;exact q
theorem E6 (h2:H 2=some (.ref F)) (h22:H 22=some (bc lft)) (h23:H 23=some (bc rgt)) (hF:Y F=some (.list (f.map ij))) (hl:f.length<=100) (q:exDs tab (Gm 14) r H (Y.set F (.list ((push lft rgt f).map ij))) K X):exDs tab (Gm 14) (sG::r) H Y K X:=by
 have hl':(f.map ij).length<16777216:=by rw [ah];exact az hl (ad rfl)
 have app:∀K:KF,K .next H (Y.set F (.list ((f++[(lft,rgt)]).map ij)))->exDs tab (Gm 14) [v7] H Y K X:=fun K q=>by
  rw [bq] at q;exact bg h2 (cD (ce hF) (bg h22 (bg h23 (bg (bF hF) (bx hl' q)))))
 have hd:=gV hF;refine bg h2 (cD (b:=gz (deref (.ref F) Y) (.lst [])) (by refine bi hd ?_;exact bY (cB fun U=>rfl) rfl) ?_);clear hl' E6;rcases List.eq_nil_or_concat f with rfl | ⟨pre,p,rfl⟩
 ·refine rq (b:=fl true (bw (deref (.ref F) Y) (.lst []))) (by refine bi hd ?_;rfl) (fP (app _ q))
 ·rw [List.concat_eq_append] at*;have hpre:(pre.map ij).length<16777216:=by rw [ah];rw [ai] at hl;exact a8 ‹_› (ad rfl)
  have hF':=hF;rw [bq] at hF'
  have eq_:push lft rgt (pre++[p])=cond (Nat.ble lft (p.2+1)) (pre++[(p.1,rgt)]) (pre++[p]++[(lft,rgt)]):=by
   delta push;refine bi (List.getLast?_append) ?_;refine bi List.dropLast_concat ?_;rfl
  replace q:=eq_▸q;refine iL (b:=fl true (bw (deref (.ref F) Y) (.lst []))) (by refine bi hd ?_;show (!(bw (.lst ((pre++[p]).map ij)) (.lst [])))=true;rw [g7];cases pre<;>rfl) ?_;refine bg h22 (bg h2 ?_);refine eB hF' hpre ?_;refine cu (b:=decide ((lft:Int)<=((p.2+1:Nat):Int))) (fun e=>ji ?_) fun e=>fP ?_
  ·rw [vx] at e;rw [e] at q;refine bg h2 ?_;refine eB hF' hpre ?_;refine bg h23 (bg h2 ?_);refine gE hF' hpre ?_;have q:exDs tab (Gm 14) r H (Y.set F (.list ((pre++[(p.1,rgt)]).map ij))) K X:=q;rw [bq] at q;exact q
  ·rw [vx] at e;rw [e] at q;exact app _ q
theorem l108 (h23:H 23=some (bc rgt)) (q:K .next (H.set 16 (bc (rgt+1))) Y):exDs tab (Gm 14) [u8] H Y K X:=bg h23 q
end
theorem E8 (w:Nat->Nat) (n c:Nat):c<=wr w n c:=by
 delta wr;cases Nat.beq (w c) 2 && Nat.blt (c+1) n
 ·exact av _
 ·exact Nat.le_succ _
theorem BC (a b:Nat):a<=kz a b:=by
 delta kz
 cases e:Nat.blt a b
 ·exact av _
 ·exact Nat.le_of_succ_le (ad e)
theorem oZ (l r:Nat) (f:List (Nat×Nat)):(push l r f).length<=f.length+1:=by
 delta push
 cases e:f.getLast? with
 | none=>show (f++[_]).length<=_;rw [ai];exact av _
 | some p=>
  show (cond (Nat.ble l (p.2+1)) (f.dropLast++[(p.1,r)]) (f++[(l,r)])).length<=_
  cases Nat.ble l (p.2+1)
  ·show (f++[_]).length<=_;rw [ai];exact av _
  ·show (f.dropLast++[_]).length<=_;rw [ai,List.length_dropLast];exact aO (Nat.sub_le _ _)
noncomputable def je (a b:List bh):List (Nat×Nat):=wZ (yq a b) (wF a) (wF b) a.length a.length 0 []
section
variable {Y:be} {Q X:KV} {K:KF} {H:bv} {F a a':Addr} {r:List DS} {P P':Pc} {l l':Ln} {row:Nat}
theorem ke (h:l.cs.length=P.c):(l.shc P.c).length=l.wd P.c:=by
 delta Ln.shc;(refine ak (aV ..) ?_;refine bi h ?_);delta Ln.wd
 cases l.sz==single
 ·exact Nat.min_eq_left (Nat.div_le_self _ _)
 ·exact Nat.min_self _
theorem De {u v w:V} {near far:List bh} (hF0:Y F=none) (hn:near.length<=6) (hnf:far.length=near.length) (q:Q (.lst ((je near far).map ij)) Y) (e:H=mk [(16,bc 0),(2, .ref F),(21,bt far),(20,bt near),(19,u),(18,v),(17,w)]):exDs tab (Gm 14) (zx::CR) H (Y.set F (.list [])) (cQ Q) X:=by
 have hf:far.length<=6:=hnf▸hn;refine eX (fun s:Nat×Nat×List (Nat×Nat)=>[(16,bc s.2.1),(2, .ref F),(21,bt far),(20,bt near),(19,u),(18,v),(17,w)]) (fun s=>Y.set F (.list (s.2.2.map ij))) (fun s=>wZ (yq near far) (wF near) (wF far) near.length s.1 s.2.1 s.2.2=je near far/\near.length<=s.2.1+s.1/\s.2.2.length+s.1<=20) (·.1) ?_ (near.length,0,[]) ⟨rfl,Nat.le_of_eq (Nat.zero_add _).symm,by show 0+near.length<=20;lia⟩ e rfl;intro zp1 zp2 W hW;obtain ⟨k,c,f⟩:=zp1;obtain ⟨h1,h2,h3⟩:=zp2;refine bx (by rw [ah];exact bz hf rfl) ?_;refine cu (b:=decide ((c:Int)<((far.map bh.v).length:Nat))) (fun e=> ?_) fun e=> ?_
 ·rw [ah,hnf,dM] at e;have hc:c<near.length:=ad e
  cases k with
  | zero=>exact absurd hc (Nat.not_lt.mpr h2)
  | succ k=>
   have hx:=an hc;have hy:=an (hnf.symm▸hc:c<far.length);have h1:cond (Nat.blt c near.length) (cond (yq near far c) _ _) f=je near far:=h1;rw [e] at h1;refine l99 rfl rfl rfl hn hf hx hy (fun e2=> ?_) fun e2=> ?_
   ·rw [e2] at h1;refine cV (hW (k,c+1,f) ⟨h1,by show _<=c+1+k;lia,by show f.length+k<=20;exact a6 ‹_›⟩ (Nat.lt_succ_self k)) ⟨rfl,rfl,rfl,rfl,rfl,rfl,rfl,trivial⟩
   ·rw [e2] at h1;refine l102 rfl rfl rfl hn hf hx hy (l103 rfl rfl rfl hn hf rfl hnf hx hy (E6 rfl rfl rfl (be.set_same _ _ _) (by lia) (l108 rfl ?_)));rw [be.set_set];have g1:=BC (wr (wF near) near.length c) (wr (wF far) near.length c);have g2:=E8 (wF near) near.length c;have g3:=oZ (rF (wl (wF near) c) (wl (wF far) c)) (kz (wr (wF near) near.length c) (wr (wF far) near.length c)) f;refine cV (hW (k,_,_) ⟨h1, ?_, ?_⟩ (Nat.lt_succ_self k)) ⟨rfl,rfl,rfl,rfl,rfl,rfl,rfl,trivial⟩
    ·show near.length<=kz (wr (wF near) near.length c) (wr (wF far) near.length c)+1+k;lia
    ·show (push (rF (wl (wF near) c) (wl (wF far) c)) (kz (wr (wF near) near.length c) (wr (wF far) near.length c)) f).length+k<=20;lia
 ·rw [ah,hnf,dM] at e
  have ef:f=je near far:=by
   rw [<-h1];clear hnf h1 hW hf h2
   cases k with
   | zero=>rfl
   | succ k=>show f=cond (Nat.blt c near.length) _ f;rw [e];rfl
  rw [ef];exact yN hF0 q
theorem q14 (hp:PcOk P) (hp':PcOk P') (h:bJ Y a P) (h':bJ Y a' P') (ec:P'.c=P.c) (hr:P.ls[row]? =some l) (hr':P'.ls[row]? =some l') (hz:l'.sz=l.sz) (q:Q (.lst ((je (l.shc P.c) (l'.shc P'.c)).map ij)) Y):bd (Gm 14) 14 [.ref a, .ref a',bc row] Y Q X:=by
 have g:=h;have g':=h';refine cr fun hn=> ?_;refine dU h fun dx i=> ?_;refine dU h' fun dx' i'=> ?_;refine hn ⟨rfl,bm i rfl (EP hp g hr (bm i' rfl (EP hp' g' hr' fun F hF=> ?_)))⟩;exact De hF (hp.sh hr) (by (rw [(ke (hp.cs l (aq hr)))];refine ak (ke (hp'.cs l' (aq hr'))) ?_);delta Ln.wd;rw [hz,ec]) q rfl
end
theorem vm (e:Nat->Bool) (a b:Nat->Nat) (n:Nat):∀k c f,(wZ e a b n k c f).length<=f.length+k:=by
 intro zl
 induction zl with
 | zero=>
  exact fun U f=>av _
 | succ k ih=>
  intro c f;show (cond (Nat.blt c n) (cond (e c) _ _) f:List (Nat×Nat)).length<=_
  cases Nat.blt c n
  ·exact aP _ _
  ·cases e c
   ·refine aj (ih _ _) ?_;have:=oZ (rF (wl a c) (wl b c)) (kz (wr a n c) (wr b n c)) f;lia
   ·exact Nat.le_succ_of_le (ih _ f)
noncomputable def tri (k:Nat) (p:Nat×Nat):V:= .tup [bc k,bc p.1,bc p.2]
noncomputable def jz (k:Nat) (a b:List bh) (same:Bool):List V:=cond same ((je a b).map (tri k)) [.tup [bc k, .int 0, .int ((b.length:Int) - 1)]]
noncomputable def jO (P P':Pc) (k:Nat):List V:=match P.ls[k]? with
 | some l=>(match P'.ls[k]? with | some l'=>jz k (l.shc P.c) (l'.shc P'.c) (l.sz==l'.sz) | none=>[])
 | none=>[]
noncomputable def jI (P P':Pc) (n:Nat):List V:=((List.range n).map (jO P P')).flatten
theorem lu (P P':Pc) (n:Nat):jI P P' (n+1)=jI P P' n++jO P P' n:=by
 unfold jI;refine bi List.range_succ ?_;refine bi aJ ?_;refine bi List.flatten_append ?_;exact aB (_++ ·) (aE _)
theorem rk {k:Nat} {a b:List bh} {s:Bool} (h:a.length<=6):(jz k a b s).length<=6:=by
 cases s
 ·exact ad rfl
 ·show ((je a b).map (tri k)).length<=6;rw [ah];refine aj (vm _ _ _ _ _ _ _) ?_;rw [List.length_nil,Nat.zero_add];exact h
theorem wE {P P':Pc} (hp:PcOk P) (k:Nat):(jO P P' k).length<=6:=by
 unfold jO
 cases e:P.ls[k]? with
 | none=>exact aX _
 | some l=>
  cases P'.ls[k]? with
  | none=>exact aX _
  | some l'=>exact rk (hp.sh e)
theorem mD {P P':Pc} (hp:PcOk P):∀n,(jI P P' n).length<=6*n:=by
 intro zl
 induction zl with
 | zero=>
  exact aX _
 | succ n ih=>
  rw [lu,ai,Nat.mul_succ];exact Nat.add_le_add (ih) (wE hp n)
section
variable {Y:be} {Q X:KV} {K:KF} {H:bv} {F a a':Addr} {r:List DS} {P P':Pc} {l l':Ln} {row:Nat} {acc:List V}
theorem l116 (hp:PcOk P) (hp':PcOk P') (h:bJ Y a P) (h':bJ Y a' P') (ec:P'.c=P.c) (hr:P.ls[row]? =some l) (hr':P'.ls[row]? =some l') (hz:l'.sz=l.sz) (h17:H 17=some (.ref a)) (h18:H 18=some (.ref a')) (h19:H 19=some (bc row)) (h2:H 2=some (.ref F)) (hF:Y F=some (.list acc)) (hl:acc.length<=100) (q:K .next H (Y.set F (.list (acc++(je (l.shc P.c) (l'.shc P'.c)).map (tri row))))):exDs tab (Gm 15) [vZ] H Y K X:=by
 have hn:(je (l.shc P.c) (l'.shc P'.c)).length<=6:=by
  refine aj (vm _ _ _ _ _ _ _) ?_;rw [List.length_nil,Nat.zero_add];exact hp.sh hr
 refine bg h2 (cD (ce hF) (bg h17 (bg h18 (bg h19 (q14 hp hp' h h' ec hr hr' hz ?_)))));refine cj (l:=je (l.shc P.c) (l'.shc P'.c)) (fun v=>match vW v with | some [x,y]=> .tup [bc row,x,y] | _=> .none) (bz hn rfl) (fun U e=>bZ e) (fun D hD p hp acc K K' q=>bg h19 q) ?_;exact bg (bF hF) (bx (p:=acc.length+((je (l.shc P.c) (l'.shc P'.c)).map (tri row)).length<=16777216) (by rw [ah];exact aj (Nat.add_le_add hl hn) (ad rfl)) q)
theorem l114 (hp':PcOk P') (h':bJ Y a' P') (hr':P'.ls[row]? =some l') (h18:H 18=some (.ref a')) (h19:H 19=some (bc row)) (h2:H 2=some (.ref F)) (hF:Y F=some (.list acc)) (hl:acc.length<=100) (q:K .next H (Y.set F (.list (acc++[.tup [bc row, .int 0, .int (((l'.shc P'.c).length:Int) - 1)]])))):exDs tab (Gm 15) [sJ] H Y K X:=by
 have g:=h';obtain ⟨dx,i⟩:=h';rw [ke (hp'.cs l' (aq hr'))] at q;exact bg h2 (cD (ce hF) (bg h19 (bg h18 (bm i rfl (bg h19 (q06 hp' g hr' (bg (bF hF) (bx (az hl (ad rfl)) q))))))))
theorem l113 (hp:PcOk P) (hp':PcOk P') (h:bJ Y a P) (h':bJ Y a' P') (ec:P'.c=P.c) (hr:P.ls[row]? =some l) (hr':P'.ls[row]? =some l') (h17:H 17=some (.ref a)) (h18:H 18=some (.ref a')) (h19:H 19=some (bc row)) (h2:H 2=some (.ref F)) (hF:Y F=some (.list acc)) (hl:acc.length<=100) (q:K .next H (Y.set F (.list (acc++jO P P' row)))):exDs tab (Gm 15) Ct H Y K X:=by
 have g:=h;have g':=h';obtain ⟨dx,i⟩:=h;obtain ⟨dx',i'⟩:=h';have e:jO P P' row=jz row (l.shc P.c) (l'.shc P'.c) (l.sz==l'.sz):=by unfold jO;rw [hr,hr']
 rw [e] at q;refine bg h17 (ch i rfl (bg h19 (bD (hp.lines _) rfl (bM hr) (bg h18 (ch i' rfl (bg h19 (bD (hp'.lines _) rfl (bM hr') ?_)))))));refine cu (b:= !(l.sz==l'.sz)) (fun e=> ?_) fun e=> ?_
 ·rw [(aZ _).mp e] at q;exact l114 hp' g' hr' h18 h19 h2 hF hl q
 ·have e:=(Bool.not_eq_false' _).mp e;rw [e] at q;exact l116 hp hp' g g' ec hr hr' (eq_of_beq e).symm h17 h18 h19 h2 hF hl q
theorem q15 (hp:PcOk P) (hp':PcOk P') (h:bJ Y a P) (h':bJ Y a' P') (en:P'.ls.length=P.ls.length) (ec:P'.c=P.c) (q:Q (.lst (jI P P' P.ls.length)) Y):bd (Gm 15) 15 [.ref a, .ref a'] Y Q X:=by
 refine ⟨rfl,fun F hF=> ?_⟩;have x:∀o,du Y (Y.set F o):=fun o=> .new hF;obtain ⟨dx,i⟩:=h.ext (x (.list []));refine ch i rfl (bx (p:=((P.ls.length:Int)<=2 ^ 24)) (bb.mpr (bz hp.n rfl)) ?_);refine dE (fun _:Nat=>[(2, .ref F),(18, .ref a'),(17, .ref a)]) (fun k=>Y.set F (.list (jI P P' k))) (fun k s=>s=k) ?_ ?_ 0 rfl rfl rfl
 ·rintro _ rfl
  exact yN hF q
 ·rintro _ k hk rfl W hW
  have hr:=an hk;refine l113 hp hp' (h.ext (x _)) (h'.ext (x _)) ec hr (an (en.symm▸hk:k<P'.ls.length)) rfl rfl rfl rfl (be.set_same _ _ _) (aj (mD hp k) (by have:=hp.n;lia)) ?_;rw [be.set_set,<-lu];exact cV (hW (k+1) rfl) ⟨rfl,rfl,rfl,trivial⟩
end
noncomputable def io (z:Nat->Bool) (ds:List Bool) (k:Nat):List Bool:=cond (z k) ((ds.set k (ds.getD (k - 1) false || ds.getD k false)).set (k - 1) (ds.getD (k - 1) false || ds.getD k false)) ds
noncomputable def gH (z:Nat->Bool):Nat->Nat->List Bool->List Bool
 | 0,U,ds=>ds
 | m+1,k,ds=>gH z m (k+1) (io z ds k)
noncomputable def EC (z:Nat->Bool) (n:Nat):Nat->List Bool->List Bool
 | 0,ds=>ds
 | t+1,ds=>EC z n t (gH z (n - 1) 1 ds)
noncomputable def pt (f:List (Nat×Nat)) (k:Nat):List (Nat×Nat):=match f.getLast? with
 | some p=>cond (Nat.beq (p.2+1) k) (f.dropLast++[(p.1,k)]) (f++[(k,k)])
 | none=>f++[(k,k)]
noncomputable def zK (a b:Nat->Nat) (k:Nat):Bool:=Nat.beq (a k) 0 || Nat.beq (b k) 0
noncomputable def FN (e:Nat->Bool) (a b:Nat->Nat) (n:Nat):List Nat:=
 let ds:=EC (zK a b) n n ((List.range n).map fun k=> !(e k))
 (List.range n).filter fun k=>ds.getD k false
noncomputable abbrev Cf:=List (Bool×Nat×Nat)
noncomputable def eC (l:Cf) (k:Nat):Bool:=match l[k]? with | some p=>p.1 | none=>true
noncomputable def aC (l:Cf) (k:Nat):Nat:=match l[k]? with | some p=>p.2.1 | none=>1
noncomputable def bC (l:Cf) (k:Nat):Nat:=match l[k]? with | some p=>p.2.2 | none=>1
noncomputable def oE (n:Nat) (l:Cf):Bool:=wZ (eC l) (aC l) (bC l) n n 0 []==(FN (eC l) (aC l) (bC l) n).foldl pt []
noncomputable def kt:Nat->Bool->Bool->List Cf
 | 0,s,t=>cond (s || t) [] [[]]
 | n+1,s,t=>(cond s [0] [1,2]).flatMap fun a=>(cond t [0] [1,2]).flatMap fun b=>
   (cond (Nat.beq a b) (cond (Nat.beq a 0) [true] [true,false]) [false]).flatMap fun e=>(kt n (Nat.beq a 2) (Nat.beq b 2)).map ((e,a,b):: ·)
theorem chk4:((kt 1 false false).all (oE 1) && ((kt 2 false false).all (oE 2) && ((kt 3 false false).all (oE 3) && (kt 4 false false).all (oE 4))))=true:=by decide+kernel
theorem chk5:(kt 5 false false).all (oE 5)=true:=by decide+kernel
theorem chk6:(kt 6 false false).all (oE 6)=true:=by decide+kernel
noncomputable def bT (ds:List Bool):List V:=ds.map V.bool
theorem wW {ifsK eltK:bv->be->KV->Prop} {tg:TT} {H:bv} {Y:be} {Q:KV} (sel:V->Option V) (l:List V) (hl:l.length<=16777216) (h:∀Z D,Y Z=none->(Y.set Z .hid) D=none->∀x∈l,on (dT tg x H) fun H'=>∀acc (K:KV) (K':be->Prop),kU (sel x) (K · ((Y.set Z .hid).set D (.list acc))) (K' ((Y.set Z .hid).set D (.list acc)))->ifsK H' ((Y.set Z .hid).set D (.list acc)) (fun b Jo=>pK b (eltK H' Jo K) (K' Jo))) (q:∀D,Y D=none->Q (.ref D) (Y.set D (.list (l.filterMap sel)))):∀Z,Y Z=none->∀D,(Y.set Z .hid) D=none->dQ ifsK eltK tg (some (Z, .hid)) D l H ((Y.set Z .hid).set D (.list [])) (fun Jq=>kK true D (unhid (some (Z, .hid)) Jq) Q):=fun Z hZ D hD=>by
 have ne:Z≠D:=fun r=>by subst r;rw [be.set_same] at hD;exact gq hD
 refine vn (c:=some (Z, .hid)) sel (fun acc=>(be.set_ne _ _ ne).trans (be.set_same Y Z .hid)) l [] (by rw [List.length_nil,Nat.zero_add];exact hl) (h Z D hZ hD) ?_
 have e:unhid (some (Z, .hid)) ((Y.set Z .hid).set D (.list ([]++l.filterMap sel)))=Y.set D (.list (l.filterMap sel)):=by
  funext b
  show (if b=Z then none else if b=D then _ else if b=Z then _ else Y b)=if b=D then _ else Y b
  by_cases hb:b=D
  ·subst hb;rw [if_neg (aS ne),if_pos rfl,if_pos rfl];rfl
  ·rw [if_neg hb,if_neg hb]
   by_cases hz:b=Z
   ·rw [if_pos hz,hz,hZ]
   ·rw [if_neg hz,if_neg hz]
 rw [e];exact q D ((be.set_ne _ _ (aS ne)).symm.trans hD)
noncomputable def lS (a b:List bh):List Bool:=(List.range a.length).map fun k=> !(yq a b k)
theorem yQ:∀(a b:List bh),a.length=b.length->i4 (a.map bh.v) (b.map bh.v)=(List.zip a b).map fun p=> .tup [p.1.v,p.2.v]
 | [],[],U=>rfl
 | x::a,y::b,h=>aB (V.tup [x.v,y.v]:: ·) (yQ a b (Nat.succ.inj h))
noncomputable def FC (v:V):Option V:=match vW v with | some l=>(match l with | [x,y]=>some (.bool (!(bw x y))) | _=>none) | none=>none
theorem yR:∀(a b:List bh),a.length=b.length->(List.zip a b).map (fun p=> !(bw p.1.v p.2.v))=lS a b
 | [],[],U=>rfl
 | x::a,y::b,h=>by
  delta lS;refine bi ba ?_;rw [List.range_succ_eq_map,aR,List.map_map];exact aB ((!(bw x.v y.v)):: ·) (yR a b (Nat.succ.inj h))
theorem yK {n:Nat} (h:1<=n):dl 1 n=(List.range' 1 (n - 1)).map bc:=by
 delta dl;refine bi (show ((n:Int) - 1).toNat=n - 1 by lia) ?_;refine bi List.range'_eq_map_range ?_;refine bi List.map_map ?_;rfl
section
variable {Y:be} {Q X:KV} {K:KF} {H:bv} {F:Addr} {r:List DS} {a b:List bh} {k n:Nat} {ds:List Bool}
theorem Bq (h:k<ds.length):(bT ds)[k]? =some (.bool (ds.getD k false)):=by
 delta bT;(refine ak (List.getElem?_map ..) ?_;refine bi (List.getD_eq_getElem?_getD) ?_;refine bi (an h) ?_);rfl
theorem dz:(bT ds).length=ds.length:=ah ..
theorem EQ {v:Bool}:(bT ds).set k (.bool v)=bT (ds.set k v):=by delta bT;refine bi List.map_set ?_;rfl
theorem E1 {l:List V} {v:V} {i:Int} (hi:i=k) (h:Y F=some (.list l)) (hl:l.length<=16777216) (hx:l[k]? =some v) (q:Q v Y):l6 (.ref F) (.int i) Y Q:=by
 show (match cI (.ref F) Y with | some l=>on (gA (.int i)) fun i=>gd (decide (l.length<=16777216)) (on (dk i l.length) fun k=>on l[k]? fun x=>Q x Y) | none=>_);rw [jw h];exact bD hl hi hx q
theorem Es {T:eT} {G:dW} {p1 p2 p3:Pos} {v:V} {m:Nat} {l:List V} (hn:H m=some (bc (k+1))) (h:Y F=some (.list l)) (hl:l.length<=16777216) (hx:l[k]? =some v) (q:Q v Y):dO T G (.bin false .Sub (.nm false m p1) (.lit (.int 1) p2) p3) H Y (fun j Jp=>l6 (.ref F) j Jp Q) X:=
 bg hn (E1 (Int.add_sub_cancel (k:Int) 1) h hl hx q)
theorem Df {T:eT} {G:dW} {p1 p2 p3:Pos} {m:Nat} {l:List V} {y:V} {P:be->Prop} (hn:H m=some (bc (k+1))) (h:Y F=some (.list l)) (hl:l.length<=16777216) (hk:k<l.length) (q:P (Y.set F (.list (l.set k y)))):dO T G (.bin false .Sub (.nm false m p1) (.lit (.int 1) p2) p3) H Y (fun j Jq=>jS (.ref F) j y Jq P) X:=by
 refine bg hn ?_;have e:((k+1:Nat):Int) - 1=(k:Int):=Int.add_sub_cancel (k:Int) 1;show jS (.ref F) (.int (((k+1:Nat):Int) - 1)) y Y P;refine bi e ?_;exact iD h hl hk q
theorem l382 (h2:H 2=some (.ref F)) (h60:H 60=some (bc (k+1))) (hF:Y F=some (.list (bT ds))) (hk:k+1<ds.length) (hn:ds.length<=6) (q:exDs tab (Gm 52) r H (Y.set F (.list (bT (ds.set (k+1) (ds.getD k false || ds.getD (k+1) false))))) K X):exDs tab (Gm 52) (mK::r) H Y K X:=by
 have hl:(bT ds).length<=16777216:=by rw [dz];exact bz hn rfl
 refine bg h2 ?_;refine Es h60 hF hl (Bq (Nat.lt_of_succ_lt hk)) ?_;rw [<-EQ] at q;have hk':k+1<(bT ds).length:=by rw [dz];exact hk
 refine cu (fun e=> ?_) fun e=> ?_
 ·rw [(aZ _).mp e] at q;refine bg h2 ?_;refine iF h60 hF hl (Bq hk) ?_;refine cu (b:= !(ds.getD (k+1) false)) (fun e=> ?_) fun e=> ?_
  ·rw [(aZ _).mp e] at q;refine bg h2 ?_;exact k9 h60 hF hl hk' q
  ·rw [(Bool.not_eq_false' _).mp e] at q;refine bg h2 ?_;exact k9 h60 hF hl hk' q
 ·rw [(Bool.not_eq_false' _).mp e] at q;refine bg h2 ?_;exact k9 h60 hF hl hk' q
theorem l383 (h2:H 2=some (.ref F)) (h60:H 60=some (bc (k+1))) (hF:Y F=some (.list (bT ds))) (hk:k+1<ds.length) (hn:ds.length<=6) (q:K .next H (Y.set F (.list (bT (ds.set k (ds.getD (k+1) false)))))):exDs tab (Gm 52) [mQ] H Y K X:=by
 have hl:(bT ds).length<=16777216:=by rw [dz];exact bz hn rfl
 refine bg h2 ?_;refine iF h60 hF hl (Bq hk) ?_;refine bg h2 ?_;rw [<-EQ] at q;exact Df h60 hF hl (by refine bi dz ?_;exact Nat.lt_of_succ_lt hk) q
theorem l381 {x y:bh} (h17:H 17=some (bt a)) (h18:H 18=some (bt b)) (h2:H 2=some (.ref F)) (h60:H 60=some (bc (k+1))) (ha:a.length<=6) (hb:b.length<=6) (hx:a[k+1]? =some x) (hy:b[k+1]? =some y) (hF:Y F=some (.list (bT ds))) (hk:k+1<ds.length) (hn:ds.length<=6) (q:K .next H (Y.set F (.list (bT (io (zK (wF a) (wF b)) ds (k+1)))))):exDs tab (Gm 52) Cp H Y K X:=by
 have hla:(a.map bh.v).length<=16777216:=by rw [ah];exact bz ha rfl
 have hlb:(b.map bh.v).length<=16777216:=by rw [ah];exact bz hb rfl
 have ez:zK (wF a) (wF b) (k+1)=(Nat.beq x.w 0 || Nat.beq y.w 0):=by delta zK wF;refine bi hx ?_;refine bi hy ?_;rfl
 have go:zK (wF a) (wF b) (k+1)=true->exDs tab (Gm 52) [mK,mQ] H Y K X:=fun e=>by
  delta io at q;rw [e] at q;refine l382 h2 h60 hF hk hn (l383 h2 h60 (be.set_same _ _ _) (by refine bi List.length_set ?_;exact hk) (by refine bi List.length_set ?_;exact hn) ?_);refine bi be.set_set ?_
  have:(ds.set (k+1) (ds.getD k false || ds.getD (k+1) false)).getD (k+1) false=(ds.getD k false || ds.getD (k+1) false):=by
   (refine ak (List.getD_eq_getElem?_getD ..) ?_;refine bi (List.getElem?_set_self hk) ?_);rfl
  refine bi this ?_;exact q
 refine bg h17 (bg h60 (bD hla rfl (bM hx) ?_));refine cu (b:= !(decide ((x.w:Int)=((0:Nat):Int)))) (fun e=> ?_) fun e=> ?_
 ·have e1:=(aZ _).mp e;rw [cJ] at e1;refine bg h18 (bg h60 (bD hlb rfl (bM hy) ?_));refine cu (b:= !(decide ((y.w:Int)=((0:Nat):Int)))) (fun e=> ?_) fun e=> ?_
  ·have e2:=(aZ _).mp e;rw [cJ] at e2;rw [e1,e2] at ez;delta io at q;rw [ez] at q;have q:K .next H (Y.set F (.list (bT ds))):=q;rw [be.set_self hF] at q;exact q
  ·have e2:=(Bool.not_eq_false' _).mp e;rw [cJ] at e2;exact go (ez.trans (by (refine bi e2 ?_;refine ak (Bool.or_true ..) ?_;rfl)))
 ·have e1:=(Bool.not_eq_false' _).mp e;rw [cJ] at e1;exact go (ez.trans (by refine bi e1 ?_;rfl))
end
theorem wc (z:Nat->Bool) (ds:List Bool) (k:Nat):(io z ds k).length=ds.length:=by
 delta io;cases z k
 ·rfl
 ·show (List.set (List.set _ _ _) _ _).length=_;(refine ak (List.length_set ..) ?_;refine ak (List.length_set ..) ?_;rfl)
theorem ml (z:Nat->Bool):∀m k ds,(gH z m k ds).length=ds.length:=by
 intro zl
 induction zl with
 | zero=>
  exact fun U U=>rfl
 | succ m ih=>
  exact fun k ds=>(ih (k+1) _).trans (wc z ds k)
theorem rh (z:Nat->Bool):∀m k ds,gH z (m+1) k ds=io z (gH z m k ds) (k+m):=by
 intro zl
 induction zl with
 | zero=>
  exact fun U U=>rfl
 | succ m ih=>
  intro k ds;show gH z (m+1) (k+1) (io z ds k)=_;rw [ih (k+1)];show _=io z (gH z m (k+1) (io z ds k)) (k+(m+1));rw [Nat.add_assoc,Nat.add_comm 1]
theorem Ae (z:Nat->Bool) (n:Nat):∀t ds,EC z n (t+1) ds=gH z (n - 1) 1 (EC z n t ds):=by
 intro zl
 induction zl with
 | zero=>
  exact fun U=>rfl
 | succ t ih=>
  exact fun ds=>ih _
theorem r5 (z:Nat->Bool) (n:Nat):∀t ds,(EC z n t ds).length=ds.length:=by
 intro zl
 induction zl with
 | zero=>
  exact fun U=>rfl
 | succ t ih=>
  exact fun ds=>(ih _).trans (ml z _ _ _)
section
variable {Y:be} {Q X:KV} {K:KF} {H:bv} {F:Addr} {r:List DS} {a b:List bh} {ds:List Bool}
theorem l378 (h17:H 17=some (bt a)) (h18:H 18=some (bt b)) (ha:a.length<=6) (hn:b.length=a.length) (q:∀F,Y F=none->exDs tab (Gm 52) r (H.set 2 (.ref F)) (Y.set F (.list (bT (lS a b)))) K X):exDs tab (Gm 52) (uP::r) H Y K X:=by
 refine bg h17 (bg h18 ?_);show ∀Z,Y Z=none->∀D,(Y.set Z .hid) D=none->dQ _ _ _ (some (Z, .hid)) D (i4 (a.map bh.v) (b.map bh.v)) _ _ _;rw [yQ a b hn.symm];refine wW FC _ ?_ (fun Z D hZ hD x hx=> ?_) fun D hD=> ?_
 ·rw [ah,List.length_zip];exact bz (aj (Nat.min_le_left _ _) ha) rfl
 ·refine cr fun hn=> ?_;obtain ⟨p,hp,rfl⟩:=aN.mp hx;refine hn ?_;intro acc K K' q;refine cD (bY (dI _ 6) (dI _ 6)) ?_;exact q
 ·have e:((List.zip a b).map fun p=>V.tup [p.1.v,p.2.v]).filterMap FC=bT (lS a b):=by
   (rw [<-yR a b hn.symm];refine ak (List.filterMap_map ..) ?_)
   delta bT;rw [List.map_map];show (List.zip a b).filterMap (some∘fun p=>V.bool (!(bw p.1.v p.2.v)))=_;rw [List.filterMap_eq_map];rfl
  rw [e];exact q D hD
theorem E9 {u:V} (ha:a.length<=6) (hn:b.length=a.length) (h1:1<=a.length) (hd:ds.length=a.length) (q:∀H',gn H' [(2, .ref F),(18,bt b),(17,bt a)]->K .next H' (Y.set F (.list (bT (gH (zK (wF a) (wF b)) (a.length - 1) 1 ds))))):exDs tab (Gm 52) Cv (mk [(44,u),(2, .ref F),(18,bt b),(17,bt a)]) (Y.set F (.list (bT ds))) K X:=by
 have hl:(bT ds).length<=16777216:=by rw [dz,hd];exact bz ha rfl
 refine bg (iE (be.set_same _ _ _)) (bx hl ?_);refine bx (p:=(((bT ds).length:Nat):Int)<=2 ^ 24) (bb.mpr hl) ?_;show fZ _ _ none (dl 1 ((bT ds).length:Nat)) _ _ _;rw [dz,hd,yK h1];refine ph (n:=a.length) (fun _:Nat=>[(44,u),(2, .ref F),(18,bt b),(17,bt a)]) (fun m=>Y.set F (.list (bT (gH (zK (wF a) (wF b)) m 1 ds)))) (fun k m=>k=1+m) ?_ ?_ (a.length - 1) 1 (Nat.add_sub_cancel' h1) 0 rfl
 ·intro m hm;have:m=a.length - 1:=by lia
  clear hm hl h1 E9;subst this;exact q _ ⟨rfl,rfl,rfl,trivial⟩
 ·rintro k m hk rfl W hW
  have hlen:(gH (zK (wF a) (wF b)) m 1 ds).length=a.length:=(ml _ _ _ _).trans hd;have e:1+m=m+1:=Nat.add_comm 1 m;have hk':m+1<a.length:=e▸(hk);rw [e];refine l381 rfl rfl rfl rfl ha (hn▸ha) (an hk') (an (hn.symm▸hk':m+1<b.length)) (be.set_same _ _ _) (by rw [hlen];exact hk') (by rw [hlen];exact ha) ?_;rw [be.set_set];have:=rh (zK (wF a) (wF b)) m 1 ds;rw [e] at this;rw [<-this];exact cV (hW (m+1) rfl) ⟨rfl,rfl,rfl,rfl,trivial⟩
noncomputable def rI (a b:List bh):List Nat:=FN (yq a b) (wF a) (wF b) a.length
noncomputable def Eu (ds:List Bool) (v:V):Option V:=cond (ds.getD (ED v) false) (some v) none
theorem zq (ds:List Bool):∀l:List Nat,(l.map bc).filterMap (Eu ds)=(l.filter fun k=>ds.getD k false).map bc:=by
 intro zl
 induction zl with
 | nil=>
  exact rfl
 | cons k l ihz=>
  have ih:=ihz;have e:Eu ds (bc k)=cond (ds.getD k false) (some (bc k)) none:=rfl;rw [aR]
  cases h:ds.getD k false with
  | true=>rw [h] at e;(refine ak (List.filterMap_cons_some e) ?_;rw [List.filter_cons_of_pos (p:=fun k=>ds.getD k false) h,aR,ih])
  | false=>rw [h] at e;rw [List.filterMap_cons_none e,List.filter_cons_of_neg (by rw [h];exact Bool.false_ne_true),ih]
theorem l384 (h2:H 2=some (.ref F)) (hF:Y F=none) (hd:ds.length<=6) (q:Q (.lst (((List.range ds.length).filter fun k=>ds.getD k false).map bc)) Y):exDs tab (Gm 52) [uA] H (Y.set F (.list (bT ds))) (cQ Q) X:=by
 have hl:(bT ds).length<=16777216:=by rw [dz];exact bz hd rfl
 refine bg h2 (bg (iE (be.set_same _ _ _)) (bx hl (bx (p:=(((bT ds).length:Nat):Int)<=2 ^ 24) (bb.mpr hl) ?_)));show ∀D,_->dQ _ _ _ none D (dl 0 ((bT ds).length:Nat)) _ _ _;rw [dz,d7];refine fS (Eu ds) _ (by rw [ah,List.length_range];exact bz hd rfl) (fun U e=>bZ e) (fun M hM x hx=> ?_) ?_
 ·refine bu (aN.mp hx) fun k hk y1=> ?_;subst y1;have nM:F≠M:=fun r=>by subst r;rw [be.set_same] at hM;exact gq hM
  intro acc K K' q;refine bg h2 ?_;refine iF rfl ((be.set_ne _ _ nM).trans (be.set_same _ _ _)) hl (Bq (List.mem_range.mp hk)) ?_;have q:kU (cond (ds.getD k false) (some (bc k)) none) (K · ((Y.set F (.list (bT ds))).set M (.list acc))) (K' ((Y.set F (.list (bT ds))).set M (.list acc))):=q;refine cu (b:=ds.getD k false) (fun e=> ?_) fun e=> ?_<;>(rw [e] at q;exact q)
 ·rw [zq];exact D1 hF q
theorem q52 (ha:a.length<=6) (h1:1<=a.length) (hn:b.length=a.length) (q:Q (.lst ((rI a b).map bc)) Y):bd (Gm 52) 52 [bt a,bt b] Y Q X:=by
 refine ⟨rfl,l378 rfl rfl ha hn fun F hF=> ?_⟩;have hd:(lS a b).length=a.length:=by delta lS;(refine ak (ah ..) ?_;refine ak (List.length_range ..) ?_;rfl)
 have hl:(bT (lS a b)).length<=16777216:=by rw [dz,hd];exact bz ha rfl
 refine bg (iE (be.set_same _ _ _)) (bx hl ?_);refine bx (p:=(((bT (lS a b)).length:Nat):Int)<=2 ^ 24) (bb.mpr hl) ?_;rw [dz,hd];refine dE (fun _:Nat=>[(2, .ref F),(18,bt b),(17,bt a)]) (fun t=>Y.set F (.list (bT (EC (zK (wF a) (wF b)) a.length t (lS a b))))) (fun k t=>k=t) ?_ ?_ 0 rfl rfl rfl
 ·rintro t rfl
  have hlen:=(r5 (zK (wF a) (wF b)) a.length a.length (lS a b)).trans hd;refine l384 rfl hF (by rw [hlen];exact ha) ?_;rw [hlen];exact q
 ·rintro k t hk rfl W hW
  refine E9 ha hn h1 ((r5 _ _ _ _).trans hd) fun H' al=> ?_;rw [<-Ae];exact cV (hW (k+1) rfl) al
end
noncomputable abbrev Tr:=Nat×Nat×Int
noncomputable abbrev iK (t:Tr):V:= .tup [bc t.1,bc t.2.1, .int t.2.2]
noncomputable def cM (row:Nat) (f:List Tr) (k:Nat):List Tr:=match f.getLast? with
 | some p=>cond (decide ((p.1:Int)=row) && decide (p.2.2=(k:Int) - 1)) (f.dropLast++[(row,p.2.1,(k:Int))]) (f++[(row,k,(k:Int))])
 | none=>f++[(row,k,(k:Int))]
noncomputable def m9 (c row:Nat) (x y:Ln) (f:List Tr):List Tr:=cond (x.sz==y.sz) ((rI (x.shc c) (y.shc c)).foldl (cM row) f) (f++[(row,0,((y.shc c).length:Int) - 1)])
noncomputable def jF (c:Nat):Nat->List Ln->List Ln->List Tr->List Tr
 | U,[],z1,f=>f
 | k,x::xs,ys,f=>match ys with | []=>f | y::ys=>jF c (k+1) xs ys (m9 c k x y f)
theorem kg (row:Nat) (f:List Tr) (k:Nat):(cM row f k).length<=f.length+1:=by
 delta cM
 cases f.getLast? with
 | none=>show (f++[_]).length<=_;rw [ai];exact av _
 | some p=>
  show (cond _ (f.dropLast++[_]) (f++[_]):List Tr).length<=_
  cases decide ((p.1:Int)=row) && decide (p.2.2=(k:Int) - 1)
  ·show (f++[_]).length<=_;rw [ai];exact av _
  ·show (f.dropLast++[_]).length<=_;rw [ai,List.length_dropLast];exact aO (Nat.sub_le _ _)
theorem wB (row:Nat):∀(ks:List Nat) (f:List Tr),(ks.foldl (cM row) f).length<=f.length+ks.length:=by
 intro zl
 induction zl with
 | nil=>
  exact fun U=>av _
 | cons k ks ih=>
  intro f;have h1:=ih (cM row f k);have h2:=kg row f k;show (ks.foldl (cM row) (cM row f k)).length<=f.length+(ks.length+1);lia
theorem pk (a b:List bh):(rI a b).length<=a.length:=aj (List.length_filter_le _ _) (Nat.le_of_eq List.length_range)
section
variable {Y:be} {Q X:KV} {K:KF} {H:bv} {F:Addr} {r:List DS} {c row k:Nat} {x y:Ln} {f:List Tr}
theorem Fq (h2:H 2=some (.ref F)) (h19:H 19=some (bc row)) (h60:H 60=some (bc k)) (hF:Y F=some (.list (f.map iK))) (hl:f.length<=100) (q:K .next H (Y.set F (.list ((cM row f k).map iK)))):exDs tab (Gm 53) CD H Y K X:=by
 have hl':(f.map iK).length<16777216:=by rw [ah];exact az hl (ad rfl)
 have app:∀K:KF,K .next H (Y.set F (.list ((f++[(row,k,(k:Int))]).map iK)))->exDs tab (Gm 53) [su] H Y K X:=fun K q=>by
  rw [bq] at q;exact bg h2 (cD (ce hF) (bg h19 (bg h60 (bg h60 (bg (bF hF) (bx hl' q))))))
 have hd:=gV hF;refine bg h2 (cD (b:=gz (deref (.ref F) Y) (.lst [])) (by rw [hd];exact bY (cB fun U=>rfl) rfl) ?_);clear hl' Fq;rcases List.eq_nil_or_concat f with rfl | ⟨pre,p,rfl⟩
 ·exact rq (b:=fl true (bw (deref (.ref F) Y) (.lst []))) (by rw [hd];rfl) (fP (app _ q))
 ·rw [List.concat_eq_append] at*;have hpre:(pre.map iK).length<16777216:=by rw [ah];rw [ai] at hl;exact a8 ‹_› (ad rfl)
  have hF':=hF;rw [bq] at hF'
  have eq_:cM row (pre++[p]) k=cond (decide ((p.1:Int)=row) && decide (p.2.2=(k:Int) - 1)) (pre++[(row,p.2.1,(k:Int))]) (pre++[p]++[(row,k,(k:Int))]):=by
   delta cM;rw [List.getLast?_append,List.dropLast_concat];rfl
  replace q:=eq_▸q;refine iL (b:=fl true (bw (deref (.ref F) Y) (.lst []))) (by rw [hd];show (!(bw (.lst ((pre++[p]).map iK)) (.lst [])))=true;rw [g7];cases pre<;>rfl) ?_;refine bg h2 ?_;refine eB hF' hpre ?_;refine bg h19 ?_;refine cu (b:=decide ((p.1:Int)=row)) (fun e=> ?_) fun e=> ?_
  ·rw [e] at q;refine bg h2 ?_;refine eB hF' hpre ?_;refine bg h60 ?_;refine cu (b:=decide (p.2.2=(k:Int) - 1)) (fun e=>ji ?_) fun e=>fP ?_
   ·rw [e] at q;refine bg h19 (bg h2 ?_);refine eB hF' hpre ?_;refine bg h60 (bg h2 ?_);refine gE hF' hpre ?_;have q:K .next H (Y.set F (.list ((pre++[(row,p.2.1,(k:Int))]).map iK))):=q;rw [bq] at q;exact q
   ·rw [e] at q;exact app _ q
  ·rw [e] at q;exact fP (app _ q)
theorem l388 (hx:x.cs.length=c) (hy:y.cs.length=c) (h6:c<=6) (h20:H 20=some (hY x)) (h21:H 21=some (hY y)) (h19:H 19=some (bc row)) (h2:H 2=some (.ref F)) (hF:Y F=some (.list (f.map iK))) (hl:f.length<=100) (qt:(x.sz==y.sz)=false->K .cont H (Y.set F (.list ((f++[(row,0,((y.shc c).length:Int) - 1)]).map iK)))) (qf:(x.sz==y.sz)=true->exDs tab (Gm 53) r H Y K X):exDs tab (Gm 53) (tH::r) H Y K X:=by
 refine bg h20 (bg h21 ?_);refine cu (fun e=> ?_) fun e=>qf ((Bool.not_eq_false' _).mp e);have q:=qt ((aZ _).mp e);have h6':(y.shc c).length<=6:=by delta Ln.shc;rw [aV,hy];exact aj (Nat.min_le_right _ _) h6
 rw [bq] at q;refine bg h2 (cD (ce hF) (bg h19 (bg h21 (Gg hy h6 (bx (p:=((y.shc c).map bh.v).length<=16777216) (by rw [ah];exact bz h6' rfl) (bg (bF hF) (bx (show (f.map iK).length<16777216 by rw [ah];exact az hl (ad rfl)) ?_)))))));rw [(show (((y.shc c).map bh.v).length:Int)=((y.shc c).length:Int) by rw [ah])];exact q
theorem C1 (hx:x.cs.length=c) (h2:2<=c):1<=(x.shc c).length:=by
 delta Ln.shc Ln.wd;refine bi aV ?_;refine bi hx ?_
 cases x.sz==single
 ·show 1<=min (c / 2) c;lia
 ·show 1<=min c c;lia
theorem l391 {u w:V} (hx:x.cs.length=c) (hy:y.cs.length=c) (c2:2<=c) (h6:c<=6) (hz:(x.sz==y.sz)=true) (hF:Y F=some (.list (f.map iK))) (hl:f.length<=80) (q:K .next (mk [(21,hY y),(20,hY x),(19,bc row),(2, .ref F),(18,u),(17,w)]) (Y.set F (.list (((rI (x.shc c) (y.shc c)).foldl (cM row) f).map iK)))):exDs tab (Gm 53) [tf] (mk [(21,hY y),(20,hY x),(19,bc row),(2, .ref F),(18,u),(17,w)]) Y K X:=by
 have sx:(x.shc c).length<=6:=by delta Ln.shc;rw [aV,hx];exact aj (Nat.min_le_right _ _) h6
 refine Gg hx h6 (Gg hy h6 (q52 sx (C1 hx c2) (show (y.shc c).length=(x.shc c).length by delta Ln.shc Ln.wd;(refine ak (aV ..) ?_;rw [aV,hx,hy,eq_of_beq hz])) ?_));have hr:=pk (x.shc c) (y.shc c);refine eM (fun _:List Tr=>[(21,hY y),(20,hY x),(19,bc row),(2, .ref F),(18,u),(17,w)]) (fun f'=>Y.set F (.list (f'.map iK))) (fun r f'=>∃ks:List Nat,r=ks.map bc/\ks.foldl (cM row) f'=(rI (x.shc c) (y.shc c)).foldl (cM row) f/\f'.length+ks.length<=90) ?_ ?_ f ⟨_,rfl,rfl,by lia⟩ rfl (be.set_self hF).symm
 ·intro f' zp1;obtain ⟨ks,e,e2,U⟩:=zp1
  cases ks with
  | cons U z1=>exact B5 e
  | nil=>rw [<-e2] at q;exact q
 ·intro v r f' zp1 W hW;obtain ⟨ks,e,e2,e3⟩:=zp1
  cases ks with
  | nil=>exact qm e
  | cons k ks=>
   obtain ⟨rfl,rfl⟩:=List.cons.inj e;have e3:f'.length+(ks.length+1)<=90:=e3;have hm:=kg row f' k;refine Fq (k:=k) (row:=row) rfl rfl rfl (be.set_same _ _ _) (by lia) ?_;rw [be.set_set];exact cV (hW _ ⟨ks,rfl,e2,by lia⟩) ⟨rfl,rfl,rfl,rfl,rfl,rfl,trivial⟩
theorem zw {c row:Nat} {x y:Ln} {f:List Tr} (hx:x.cs.length=c) (h6:c<=6):(m9 c row x y f).length<=f.length+6:=by
 delta m9
 cases x.sz==y.sz
 ·show (f++[_]).length<=_;refine bi ai ?_;exact Nat.add_le_add_left (ad rfl:1<=6) _
 ·refine aj (wB _ _ _) (Nat.add_le_add_left (aj (pk _ _) ?_) _);delta Ln.shc;refine bi aV ?_;refine bi hx ?_;exact aj (Nat.min_le_right _ _) h6
theorem q53 {P P':Pc} (hp:PcOk P) (hp':PcOk P') (ec:P'.c=P.c) (en:P'.ls.length=P.ls.length) (c2:2<=P.c) (q:Q (.lst ((jF P.c 0 P.ls P'.ls []).map iK)) Y):bd (Gm 53) 53 [bP P,bP P'] Y Q X:=by
 refine ⟨rfl,fun F hF=> ?_⟩;intro Z hZ;have nZ:Z≠F:=fun r=>by subst r;rw [be.set_same] at hZ;exact gq hZ
 have unh:∀l,unhid (some (Z, .hid)) ((Y.set F (.list l)).set Z .hid)=Y.set F (.list l):=fun l=>by
  funext b
  show (if b=Z then none else if b=Z then _ else (Y.set F (.list l)) b)=_
  by_cases hb:b=Z
  ·refine bi (if_pos hb) ?_;refine bi hb ?_;exact ((be.set_ne _ _ nZ).trans ((be.set_ne _ _ nZ).symm.trans hZ)).symm
  ·refine bi (if_neg hb) ?_;refine bi (if_neg hb) ?_;rfl
 have hFz:∀l,((Y.set F (.list l)).set Z .hid) F=some (.list l):=fun l=>(be.set_ne _ _ (aS nZ)).trans (be.set_same _ _ _)
 have com:∀l l',((Y.set F (.list l)).set Z .hid).set F (.list l')=(Y.set F (.list l')).set Z .hid:=fun l l'=>by
  funext b
  show (if b=F then _ else if b=Z then _ else if b=F then _ else Y b)=if b=Z then _ else if b=F then _ else Y b
  by_cases h1:b=F
  ·refine bi (if_pos h1) ?_;refine bi (if_neg (fun r=>nZ (r.symm.trans h1))) ?_;refine bi (if_pos h1) ?_;rfl
  ·refine bi (if_neg h1) ?_;refine bi (if_neg h1) ?_;refine bi (if_neg h1) ?_;rfl
 refine eM (c:=some (Z, .hid)) (fun _:List Tr=>[(2, .ref F),(18,bP P'),(17,bP P)]) (fun f=>(Y.set F (.list (f.map iK))).set Z .hid) (fun r f=>∃(k:Nat) (xs ys:List Ln),r=gm k (i4 (xs.map hY) (ys.map hY))/\jF P.c k xs ys f=jF P.c 0 P.ls P'.ls []/\(∀x∈xs,x.cs.length=P.c)/\(∀y∈ys,y.cs.length=P.c)/\xs.length=ys.length/\f.length+6*xs.length<=80) ?_ ?_ [] ⟨0,P.ls,P'.ls,rfl,rfl,hp.cs,fun y hy=>(hp'.cs y hy).trans ec,en.symm, ?_⟩ rfl rfl
 ·intro f zp1;obtain ⟨k,xs,ys,e,e2,U,U,hl,U⟩:=zp1
  cases xs with
  | nil=>
   replace q:=((e2))▸q;rw [unh];exact yN hF q
  | cons x xs=>
   cases ys with
   | nil=>contradiction
   | cons y ys=>exact B5 e
 ·intro v r f zp1 W hW;obtain ⟨k,xs,ys,e,e2,hx,hy,hl,h80⟩:=zp1
  cases xs with
  | nil=>exact qm e
  | cons x xs=>
   cases ys with
   | nil=>contradiction
   | cons y ys=>
    obtain ⟨rfl,rfl⟩:=List.cons.inj e;have h80:f.length+6*(xs.length+1)<=80:=h80;have hx0:=hx x (.head _);have hy0:=hy y (.head _);have hlen:=zw (row:=k) (y:=y) (f:=f) hx0 hp.c;have nxt:W (mk [(2, .ref F),(18,bP P'),(17,bP P)]) ((Y.set F (.list ((m9 P.c k x y f).map iK))).set Z .hid):=hW _ ⟨k+1,xs,ys,rfl,e2,fun z hz=>hx z (.tail _ hz),fun z hz=>hy z (.tail _ hz),Nat.succ.inj hl,by lia⟩;refine l388 hx0 hy0 hp.c rfl rfl rfl rfl (hFz _) (by lia) (fun e=> ?_) fun e=> ?_
    ·rw [com];delta m9 at nxt;rw [e] at nxt;exact turn nxt (.refl _) (be.set_same _ _ _) ⟨rfl,rfl,rfl,trivial⟩
    ·refine l391 hx0 hy0 c2 hp.c e (hFz _) (by lia) ?_;rw [com];delta m9 at nxt;rw [e] at nxt;exact turn nxt (.refl _) (be.set_same _ _ _) ⟨rfl,rfl,rfl,trivial⟩
 ·have:=hp.n;show 0+6*P.ls.length<=80;lia
end
noncomputable def lh:Nat->List V->List (V×V)
 | U,[]=>[]
 | k,v::r=>(v,bc k)::lh (k+1) r
noncomputable def bN (ks:List V) (v:V):List V:=cond (ks.any (bw · v)) ks (ks++[v])
noncomputable def fH (v:V) (ks:List V):Nat:=(dR (bw · v) ks).getD 0
noncomputable def gy:List V->List V->List Nat
 | U,[]=>[]
 | ks,v::r=>fH v (bN ks v)::gy (bN ks v) r
structure d5 (Y:be) (a d:Addr) (ks:List V):Prop where
 i:∃dx,InstAt Y a dx 201 [(65, .ref d)]
 e:Y d=some (.dict (lh 0 ks))
 n1:d≠1
theorem yZ (v:V):∀(k:Nat) (ks:List V),(lh k ks).any (fun e=>bw e.1 v)=ks.any (bw · v)
 | U,[]=>rfl
 | k,x::r=>aB (bw x v || ·) (yZ v (k+1) r)
theorem lc:∀(k:Nat) (ks:List V),(lh k ks).length=ks.length
 | U,[]=>rfl
 | k,U::r=>aB (· +1) (lc (k+1) r)
theorem z6 (v:V):∀(k:Nat) (ks:List V),ks.any (bw · v)=false->jv v (bc (k+ks.length)) (lh k ks)=lh k (ks++[v])
 | k,[],U=>rfl
 | k,x::r,h=>by
  refine fI (aT.mp (show (bw x v || r.any (bw · v))=false from h)) fun h1 h2=> ?_;show (if bw x v then _ else (x,bc k)::jv v (bc (k+(r.length+1))) (lh (k+1) r))=(x,bc k)::lh (k+1) (r++[v]);refine bi h1 ?_;refine bi (if_neg Bool.false_ne_true) ?_;rw [<-z6 v (k+1) r h2,Nat.add_assoc,Nat.add_comm 1]
theorem uk (v:V):∀(k:Nat) (ks:List V) (i:Nat),dR (bw · v) ks=some i->∃e,(lh k ks).find? (fun e=>bw e.1 v)=some e/\e.2=bc (k+i)
 | U,[],z1,h=>bZ h
 | k,x::r,i,h=>by
  have h:(if bw x v then some 0 else (dR (bw · v) r).map (· +1))=some i:=h
  cases e:bw x v with
  | true=>
   replace h:=e▸h
   (replace h:=bW h;subst h)
   exact ⟨(x,bc k),List.find?_cons_of_pos e,rfl⟩
  | false=>
   replace h:=e▸h;refine bu (aL.mp h) fun j hj y1=> ?_;subst y1;refine bu (uk v (k+1) r j hj) fun p h1 h2=> ?_;exact ⟨p,(List.find?_cons_of_neg (by refine bi e ?_;exact Bool.false_ne_true)).trans h1,h2.trans (by rw [Nat.add_assoc,Nat.add_comm 1])⟩
theorem kJ (v:V):∀ks:List V,ks.any (bw · v)=true->∃i,dR (bw · v) ks=some i:=by
 intro zl
 induction zl with
 | nil=>
  exact fun h=>cR h
 | cons x r ih=>
  intro h;have g:dR (bw · v) (x::r)=if bw x v then some 0 else (dR (bw · v) r).map (· +1):=rfl
  cases e:bw x v with
  | true=>refine bi g ?_;refine bi e ?_;exact ⟨0,rfl⟩
  | false=>
   have h:(bw x v || r.any (bw · v))=true:=h;rw [e] at h;refine dU (ih h) fun i hi=> ?_;refine bi g ?_;refine bi e ?_;refine bi hi ?_;exact ⟨i+1,rfl⟩
theorem nQ {v:V} {ks:List V} (hv:bw v v=true):(bN ks v).any (bw · v)=true:=by
 delta bN
 cases e:ks.any (bw · v) with
 | true=>exact e
 | false=>show (ks++[v]).any _=true;refine ak (List.any_append ..) ?_;exact aY.mpr (.inr (aY.mpr (.inl hv)))
theorem kP {v:V} {ks:List V}:(bN ks v).length<=ks.length+1:=by
 delta bN
 cases ks.any (bw · v)
 ·show (ks++[v]).length<=_;refine bi ai ?_;exact av _
 ·exact Nat.le_succ _
section
variable {Y:be} {Q X:KV} {K:KF} {H:bv} {a d b:Addr} {r:List DS} {ks:List V} {P:Pc} {l:Ln} {row:Nat} {v:V}
theorem kH {es:List (V×V)} (h:Y d=some (.dict es)):cI (.ref d) Y=none:=by
 show (((Y d).bind fun o=>(oL o).map (d, ·)).map (·.2))=none;refine bi h ?_;rfl
theorem wq {es:List (V×V)} (h:Y d=some (.dict es)):fG (.ref d) Y=none:=by
 show ((Y d).bind fun o=>(oL o).map (d, ·))=none;refine bi h ?_;rfl
theorem g6 {es:List (V×V)} (h:Y d=some (.dict es)):lP (.ref d) Y=some (d,es):=by
 show ((Y d).bind fun o=>(oD o).map (d, ·))=_;refine bi h ?_;rfl
theorem ze {es:List (V×V)} {n:Bool} (h:Y d=some (.dict es)) (n1:d≠1) (hk:hO v=true) (q:Q (.bool (fl n (es.any fun e=>bw e.1 v))) Y):Fg n v (.ref d) Y Q:=by
 delta Fg;refine bi (kH h) ?_;exact bg (g6 h) (bx n1 (cD hk q))
theorem qO {es:List (V×V)} (h:Y d=some (.dict es)) (n1:d≠1) (hk:hO v=true) (q:Q (.bool (!(es.any fun e=>bw e.1 v))) Y):BN .NotIn v (.ref d) Y Q:=ze (n:=true) h n1 hk q
theorem xP {es:List (V×V)} {e:V×V} (h:Y d=some (.dict es)) (n1:d≠1) (hk:hO v=true) (hf:es.find? (fun e=>bw e.1 v)=some e) (q:Q e.2 Y):l6 (.ref d) v Y Q:=by
 show (match cI (.ref d) Y with | some l=>_ | none=>_);refine bi (kH h) ?_;exact bg (g6 h) (bx n1 (cD hk (bg hf q)))
theorem zs {es:List (V×V)} {x:V} {P:be->Prop} (h:Y d=some (.dict es)) (n1:d≠1) (hk:hO v=true) (hl:es.length<=100) (q:P (Y.set d (.dict (jv v x es)))):jS (.ref d) v x Y P:=by
 delta jS;refine bi (wq h) ?_;exact bg (g6 h) (bx n1 (cD hk (bx hl q)))
theorem z8 {es:List (V×V)} (h:Y d=some (.dict es)) (n1:d≠1) (hl:es.length<=1000):oW (.ref d) Y=some es.length:=by
 show (match cI (.ref d) Y with | some l=>some l.length | none=>(lP (.ref d) Y).bind fun p=>if p.1≠1/\p.2.length<=1000 then some p.2.length else none)=_;refine bi (kH h) ?_;refine bi (g6 h) ?_;exact if_pos ⟨n1,hl⟩
theorem q16 (q:∀a d Y',d5 Y' a d []->du Y Y'->Q (.ref a) Y'):bd (Gm 16) 16 [] Y Q X:=by
 refine ⟨rfl,fun a dx ha hd ne d hd' n1=> ?_⟩;have x1:du Y ((Y.set dx (.idict [])).set a (.inst 201 dx)):=(du.refl Y |>.set hd).set ha;have da:a≠d:=fun r=>by rw [<-r,be.set_same] at hd';exact gq hd'
 have hdx:=(be.set_ne _ _ (aS da)).symm.trans hd';have dd:dx≠d:=fun r=>by rw [<-r,be.set_same] at hdx;exact gq hdx
 have at_:InstAt ((((Y.set dx (.idict [])).set a (.inst 201 dx)).set d (.dict []))) a dx 201 []:=⟨(be.set_ne _ _ da).trans (be.set_same _ _ _),(be.set_ne _ _ dd).trans ((be.set_ne _ _ (aS ne)).trans (be.set_same _ _ _))⟩;refine bg (x:= .ref a) rfl (bg (eh at_) (bx (p:=0<=100) (aX _) (bR ⟨rfl,q a d _ ⟨⟨dx,(be.set_ne _ _ ne).trans at_.1,be.set_same _ _ _⟩,(be.set_ne _ _ (aS dd)).trans (be.set_same _ _ _),n1⟩ ((x1.set (x1.none hd')).set hd)⟩)))
theorem bJ.dict {es es':List (V×V)} (h:bJ Y b P) (hd:Y d=some (.dict es)):bJ (Y.set d (.dict es')) b P:=
 let ⟨dx,h1,h2⟩:=h
 ⟨dx,(be.set_ne _ _ fun r=>by rw [r,hd] at h1;(replace h1:=bW h1;cases h1)).trans h1,(be.set_ne _ _ fun r=>by rw [r,hd] at h2;(replace h2:=bW h2;cases h2)).trans h2⟩
theorem pM {n:Nat}:∀{l:List V},(∀x∈l,fj x n=true)->keyVs l n=true:=by
 intro zl
 induction zl with
 | nil=>
  exact fun U=>rfl
 | cons x r ih=>
  exact fun h=>ay.mpr ⟨h x (.head _),ih fun y hy=>h y (.tail _ hy)⟩
theorem Bg (l:Ln) (c:Nat):hO (bU l c)=true:=by
 show (keyVs ((l.shc c).map bh.v) 6 && true)=true;refine ak (Bool.and_true ..) ?_;refine pM fun x hx=> ?_;refine bu (aN.mp hx) fun c U y1=> ?_;subst y1;show (keyVs (c.s.map bc) 4 && true)=true;refine ak (Bool.and_true ..) ?_;refine pM fun x hx=> ?_;refine bu (aN.mp hx) fun n U y11=> ?_;subst y11;rfl
theorem q17 (hp:PcOk P) (h:d5 Y a d ks) (hP:bJ Y b P) (hr:P.ls[row]? =some l) (hl:ks.length<=50) (hv:bw (bU l P.c) (bU l P.c)=true) (q:∀Y',Y'=Y.set d (.dict (lh 0 (bN ks (bU l P.c))))->Q (bc (fH (bU l P.c) (bN ks (bU l P.c)))) Y'):bd (Gm 17) 17 [.ref a, .ref b,bc row] Y Q X:=by
 obtain ⟨⟨dx,i⟩,hd,n1⟩:=h;have hP':=hP;refine dU hP fun dy j=> ?_;have hk:=Bg l P.c
 have fin:∀Y',Y'=Y.set d (.dict (lh 0 (bN ks (bU l P.c))))->∀H:bv,H 70=some (.ref a)->H 29=some (bU l P.c)->exDs tab (Gm 17) [u6] H Y' (cQ Q) X:=fun Y' e H h70 h29=>by
  refine dU (kJ (bU l P.c) (bN ks (bU l P.c)) (nQ hv)) fun ix hix=> ?_;refine bu (uk (bU l P.c) 0 (bN ks (bU l P.c)) ix hix) fun e1 h1 h2=> ?_;have q:=q Y' e;rw [(show fH (bU l P.c) (bN ks (bU l P.c))=ix by delta fH;refine bi hix ?_;rfl)] at q;rw [Nat.zero_add] at h2;subst e;refine bg h70 (ch (⟨(be.set_ne _ _ fun r=>by have:=i.1;rw [r,hd] at this;(replace this:=bW this;cases this)).trans i.1,(be.set_ne _ _ fun r=>by have:=i.2;rw [r,hd] at this;(replace this:=bW this;cases this)).trans i.2⟩:InstAt (Y.set d (.dict (lh 0 (bN ks (bU l P.c))))) a dx 201 [(65, .ref d)]) rfl (bg h29 ?_));refine xP (be.set_same _ _ _) n1 hk h1 ?_;refine bi h2 ?_;exact bR q
 refine ⟨rfl,bm j rfl (q08 hp hP' hr (ch i rfl ?_))⟩;refine qO hd n1 hk ?_;rw [yZ];refine cu (b:= !(ks.any (bw · (bU l P.c)))) (fun e=> ?_) fun e=> ?_
 ·have e:=(aZ _).mp e;refine ch i rfl (bg (z8 hd n1 (by rw [lc];exact aj ‹_› (ad rfl))) (bx (by rw [lc];exact bz hl rfl) (ch i rfl ?_)));refine zs hd n1 hk (by rw [lc];exact aj ‹_› (ad rfl)) ?_;rw [lc]
  have ep:jv (bU l P.c) (.int (ks.length:Nat)) (lh 0 ks)=lh 0 (bN ks (bU l P.c)):=by
   have:=z6 (bU l P.c) 0 ks e;rw [Nat.zero_add] at this;delta bN;refine bi e ?_;exact this
  refine bi ep ?_;exact fin _ rfl _ rfl rfl
 ·have e:=(Bool.not_eq_false' _).mp e;refine fin Y ?_ _ rfl rfl;have:bN ks (bU l P.c)=ks:=by delta bN;refine bi e ?_;rfl
  refine bi this ?_;refine bi (be.set_self hd) ?_;rfl
end
section
variable {Y:be} {Q X:KV} {a d b M:Addr} {P:Pc}
noncomputable def js (Y:be) (d M:Addr) (ks acc:List V):be:=(Y.set d (.dict (lh 0 ks))).set M (.list acc)
theorem js.next {ks ks' acc acc':List V} (ne:d≠M):((js Y d M ks acc).set d (.dict (lh 0 ks'))).set M (.list acc')=js Y d M ks' acc':=by
 funext x
 show (if x=M then _ else if x=d then _ else if x=M then _ else if x=d then _ else Y x)=if x=M then _ else if x=d then _ else Y x
 by_cases h1:x=M
 ·refine bi (if_pos h1) ?_;refine bi (if_pos h1) ?_;rfl
 ·refine bi (if_neg h1) ?_;refine bi (if_neg h1) ?_;refine bi (if_neg h1) ?_
  by_cases h2:x=d
  ·rw [if_pos h2,if_pos h2]
  ·refine bi (if_neg h2) ?_;refine bi (if_neg h2) ?_;refine bi (if_neg h2) ?_;rfl
theorem d5.same {ks ks':List V} (h:d5 Y a d ks):d5 (Y.set d (.dict (lh 0 ks'))) a d ks':=
 let ⟨⟨dx,i1,i2⟩,hd,n1⟩:=h
 ⟨⟨dx,(be.set_ne _ _ fun r=>by rw [r,hd] at i1;(replace i1:=bW i1;cases i1)).trans i1,(be.set_ne _ _ fun r=>by rw [r,hd] at i2;(replace i2:=bW i2;cases i2)).trans i2⟩,be.set_same _ _ _,n1⟩
theorem d5.ext {Y':be} {ks:List V} (h:d5 Y a d ks) (x:du Y Y'):d5 Y' a d ks:=
 let ⟨⟨dx,i1,i2⟩,hd,n1⟩:=h
 ⟨⟨dx,x _ _ i1,x _ _ i2⟩,x _ _ hd,n1⟩
theorem DL {H:bv} {pp:Pos} {ks0:List V} (hp:PcOk P) (h:d5 Y a d ks0) (hP:bJ Y b P) (hM:Y M=none) (h70:H 70=some (.ref a)) (h24:H 24=some (.ref b)) (hv:∀l∈P.ls,bw (bU l P.c) (bU l P.c)=true) {Q:be->Prop}:∀(ls:List Ln) (k:Nat) (ks acc:List V),(∀j,P.ls[k+j]? =ls[j]?)->ks.length+ls.length<=50->acc.length+ls.length<=50->Q (js Y d M ((ls.map (bU · P.c)).foldl bN ks) (acc++(gy ks (ls.map (bU · P.c))).map bc))->dQ (fun H' Y' Q'=>evB tab (Gm 18) true [] H' Y' Q' (fun U U=>False)) (fun H' Y' Q'=>dO tab (Gm 18) C4 H' Y' Q' (fun U U=>False)) (.n false 19 pp) none M ((List.range' k ls.length).map bc) H (js Y d M ks acc) Q:=by
 intro zl
 induction zl with
 | nil=>
  intro k ks acc _ _ _ q;have q:Q (js Y d M ks (acc++[])):=q;rw [aE] at q;exact q
 | cons l ls ih=>
  intro k ks acc hk hl hl2 q;have hl:ks.length+(ls.length+1)<=50:=hl;have hl2:acc.length+(ls.length+1)<=50:=hl2;have hr:P.ls[k]? =some l:=hk 0;have ne:d≠M:=fun r=>by have:=h.e;rw [r,hM] at this;exact bZ this
  have hM':(Y.set d (.dict (lh 0 ks))) M=none:=(be.set_ne _ _ (aS ne)).trans hM;have hK:d5 (js Y d M ks acc) a d ks:=(h.same (ks':=ks)).ext (.new hM');obtain ⟨dx,i⟩:=hK.i;refine bg (x:=H.set 19 (bc k)) rfl ?_;refine bg (h70) (bm i rfl (bg (h24) ?_));refine q17 hp hK ((hP.dict h.e).ext (.new hM')) hr (by lia) (hv l (aq hr)) fun Y' e=> ?_;subst e;have al:=kP (v:=bU l P.c) (ks:=ks);refine ⟨trivial,acc,(be.set_ne _ _ (aS ne)).trans (be.set_same _ _ _),az (by lia:acc.length<=50) (ad rfl), ?_⟩;refine bi (js.next ne) ?_;refine ih (k+1) _ _ (fun j=>by rw [Nat.add_assoc,Nat.add_comm 1];exact hk (j+1)) (by lia) (by refine bi ai ?_;show acc.length+1+ls.length<=50;lia) ?_;rw [aw];exact q
theorem q18 {ks:List V} (hp:PcOk P) (h:d5 Y a d ks) (hP:bJ Y b P) (hl:ks.length<=40) (hv:∀l∈P.ls,bw (bU l P.c) (bU l P.c)=true) (q:Q (.lst ((gy ks (P.ls.map (bU · P.c))).map bc)) (Y.set d (.dict (lh 0 ((P.ls.map (bU · P.c)).foldl bN ks))))):bd (Gm 18) 18 [.ref a, .ref b] Y Q X:=by
 obtain ⟨dx,i⟩:=hP;refine ⟨rfl,ch i rfl (bx (p:=((P.ls.length:Int)<=2 ^ 24)) (bb.mpr (bz hp.n rfl)) ?_)⟩;intro M hM;have ne:d≠M:=fun r=>by have:=h.e;rw [r,hM] at this;exact bZ this
 have e0:Y.set M (.list [])=js Y d M ks []:=by
  delta js;rw [be.set_self h.e]
 rw [e0,d7,List.range_eq_range'];have h3:=hp.n;refine DL hp h ⟨dx,i⟩ hM rfl rfl hv P.ls 0 ks [] (fun j=>by rw [Nat.zero_add]) (by lia) (by rw [List.length_nil];lia) ?_;refine ⟨_,be.set_same _ _ _, ?_⟩
 have ed:(js Y d M ((P.ls.map (bU · P.c)).foldl bN ks) ([]++(gy ks (P.ls.map (bU · P.c))).map bc)).del M=Y.set d (.dict (lh 0 ((P.ls.map (bU · P.c)).foldl bN ks))):=by
  delta js;exact be.set_del ((be.set_ne _ _ (aS ne)).trans hM)
 show xA Q _ ((js Y d M _ _).del M);rw [ed];exact bR q
end
noncomputable def xB (c:bh):List Nat:=cond (Nat.blt 0 c.w) (cond c.s.isEmpty [32] c.s) []
noncomputable def ib (cs:List bh):List Nat:=(cs.map xB).flatten
noncomputable def hV (l:List Nat):List Nat:=(l.reverse.dropWhile fun x=>Nat.beq x 32).reverse
theorem jD (l:List Nat) (x:Nat):hV (l++[x])=cond (Nat.beq x 32) (hV l) (l++[x]):=by
 unfold hV;rw [List.reverse_append];show (List.dropWhile _ (x::l.reverse)).reverse=_;rw [List.dropWhile_cons]
 cases Nat.beq x 32
 ·rw [if_neg Bool.false_ne_true,List.reverse_cons,List.reverse_reverse];rfl
 ·rw [if_pos rfl];rfl
theorem l8 (c:bh) (r:List bh):ib (c::r)=xB c++ib r:=rfl
noncomputable def yx (l:Ln) (c:Nat):List Nat:=hV (ib ((l.shc c).take (l.use c)))
structure eK (c:bh):Prop where
 few:c.s.length<=2
 one:c.s=[]->c.w<=1
theorem ol {c:bh} (h:eK c):(xB c).length<=2:=by
 unfold xB
 cases Nat.blt 0 c.w
 ·exact ad rfl
 ·cases c.s.isEmpty
  ·exact h.few
  ·exact ad rfl
section
variable {Y:be} {Q X:KV} {K:KF} {H:bv} {a C F:Addr} {r:List DS} {P:Pc} {c:bh} {ds:List Nat}
theorem f19 (h11:H 11=some c.v) (h12:H 12=some (.ref C)) (hC:Y C=some (.list (ds.map bc))) (hl:ds.length<=100) (ht:eK c) (q:K .next H (Y.set C (.list ((ds++xB c).map bc)))):exDs tab (Gm 19) yS H Y K X:=by
 unfold xB at q;have hlen:∀n,n<=2->(ds.map bc).length+n<=16777216:=fun n hn=>by rw [ah];exact aj (Nat.add_le_add hl hn) (ad rfl)
 refine bg h11 (cu (b:=decide (((0:Nat):Int)<c.w)) (fun e=> ?_) fun e=> ?_)
 ·rw [dM] at e;rw [e] at q;have hw:0<c.w:=ad e;have ee:eqVs (c.s.map bc) []=c.s.isEmpty:=by cases c.s<;>rfl
  refine bg h12 (cD (ce hC) (bg h11 (cD (b:=gz (.tup (c.s.map bc)) (.tup [])) (bY (cX 7 _) rfl) ?_)));refine cu (b:= !(eqVs (c.s.map bc) [])) (fun e=>bg h11 ?_) fun e=>bg h11 ?_
  ·rw [ee] at e;rw [(aZ _).mp e] at q;refine bg (bF hC) (bx (by rw [ah (as:=c.s)];exact hlen _ ht.few) ?_);rw [aJ] at q;exact q
  ·rw [ee] at e;have e:=(Bool.not_eq_false' _).mp e;rw [e] at q;have w1:c.w=1:=Nat.le_antisymm (ht.one (List.isEmpty_iff.mp e)) hw;have er:(List.replicate ((c.w:Int)).toNat [V.int 32]).flatten=[bc 32]:=by rw [w1];rfl
   refine bx (by rw [w1];decide) ?_;refine bg (bF hC) (bx (p:=(ds.map bc).length+((List.replicate ((c.w:Int)).toNat [V.int 32]).flatten).length<=16777216) (by rw [er];exact hlen 1 (by decide)) ?_);have q:K .next H (Y.set C (.list ((ds++[32]).map bc))):=q;rw [bq,<-er] at q;exact q
 ·rw [dM] at e;rw [e] at q;have q:K .next H (Y.set C (.list ((ds++[]).map bc))):=q;rw [aE,be.set_self hC] at q;exact q
theorem t138 {G:dW} {p1 p2 p3 p4 p5 p6:Pos} {l:List V} {x:Nat} {K:KV} (h12:H 12=some (.ref C)) (hC:Y C=some (.list (l++[bc x]))) (hp:l.length<16777216) (q:K (.bool (Nat.beq x 32)) Y):evB tab G true [.cmp .Eq (.sub (.nm false 12 p1) (.un true (.lit (.int 1) p2) p3) p4) (.glob 0 p5) p6] H Y K X:=by
 refine bg h12 ?_;refine eB hC hp ?_;refine cu (b:=decide ((x:Int)=((32:Nat):Int))) (fun e=> ?_) fun e=> ?_<;>(rw [cJ] at e;rw [e] at q;exact q)
theorem w19 {l:List V} {x:V} (h12:H 12=some (.ref C)) (hC:Y C=some (.list (l++[x]))) (hl:l.length<=100) (q:K .next H (Y.set C (.list l))):exDs tab (Gm 19) CL H Y K X:=by
 refine bg h12 ?_;exact A4 hC hl q
theorem l138 {u v w:V} (hC:Y C=some (.list (ds.map bc))) (hl:ds.length<=100) (q:exDs tab (Gm 19) r (mk [(12, .ref C),(19,u),(2,v),(24,w)]) (Y.set C (.list ((hV ds).map bc))) K X):exDs tab (Gm 19) (u5::r) (mk [(12, .ref C),(19,u),(2,v),(24,w)]) Y K X:=by
 refine eX (fun _:List Nat=>[(12, .ref C),(19,u),(2,v),(24,w)]) (fun s=>Y.set C (.list (s.map bc))) (fun s=>hV s=hV ds/\s.length<=100) List.length ?_ ds ⟨rfl,hl⟩ rfl (be.set_self hC).symm;intro s zp1 W hW;obtain ⟨h1,h2⟩:=zp1;have hd:=gV (Y:=Y.set C (.list (s.map bc))) (be.set_same Y C (.list (s.map bc)));refine cD (b:=gz (deref (.ref C) (Y.set C (.list (s.map bc)))) (.lst [])) (by refine bi hd ?_;exact bY (cX 7 _) rfl) ?_;rcases List.eq_nil_or_concat s with rfl | ⟨pre,x,rfl⟩
 ·refine rq (b:=fl true (bw (deref (.ref C) (Y.set C (.list (([]:List Nat).map bc)))) (.lst []))) (by refine bi hd ?_;rfl) (fP ?_);have e:hV ds=[]:=h1.symm;replace q:=e▸q;exact q
 ·rw [List.concat_eq_append] at*;rw [jD] at h1;have hC':(Y.set C (.list ((pre++[x]).map bc))) C=some (.list (pre.map bc++[bc x])):=by rw [<-bq];exact be.set_same _ _ _
  refine iL (b:=fl true (bw (deref (.ref C) (Y.set C (.list ((pre++[x]).map bc)))) (.lst []))) (by refine bi hd ?_;show (!(bw (.lst ((pre++[x]).map bc)) (.lst [])))=true;rw [g7];cases pre<;>rfl) ?_;refine t138 rfl hC' (show (pre.map bc).length<16777216 by rw [ah];rw [ai] at h2;exact a8 ‹_› (ad rfl)) ?_;refine cu (fun e=> ?_) fun e=> ?_
  ·rw [e] at h1;refine w19 rfl hC' (by rw [ah];rw [ai] at h2;exact Nat.le_of_succ_le h2) ?_;refine bi be.set_set ?_;refine cV (hW pre ⟨h1, ?_⟩ ?_) ⟨rfl,rfl,rfl,rfl,trivial⟩
   ·rw [ai] at h2;exact Nat.le_of_succ_le h2
   ·refine bi ai ?_;exact Nat.lt_succ_self _
  ·rw [e] at h1;replace q:=((h1.symm))▸q;exact q
end
theorem Fzs.snoc {Y Y':be} {y x:V} (h:Fz Y Y' y x):∀l:List V,Fzs Y Y' (l++[y]) (l++[x]):=by
 intro zl
 induction zl with
 | nil=>
  exact ⟨h,rfl⟩
 | cons z l ih=>
  exact ⟨.refl _ _ z,ih⟩
noncomputable def Ek (c:Nat) (l:Ln):V:= .lst ((yx l c).map bc)
theorem oT:∀{cs:List bh},(∀c∈cs,eK c)->(ib cs).length<=2*cs.length:=by
 intro zl
 induction zl with
 | nil=>
  exact fun U=>aX _
 | cons c r ih=>
  intro h;rw [l8,ai,ba,Nat.add_comm];exact Nat.add_le_add (ih fun y hy=>h y (.tail _ hy)) (ol (h c (.head _)))
section
variable {Y:be} {Q X:KV} {K:KF} {H:bv} {a C F:Addr} {r:List DS} {P:Pc} {k:Nat} {l:Ln}
theorem l135 {u v w:V} {cs:List bh} (hn:cs.length<=6) (ht:∀c∈cs,eK c) (q:exDs tab (Gm 19) r (mk [(12, .ref C),(19,u),(2,v),(24,w)]) (Y.set C (.list ((ib cs).map bc))) K X):fZ (fun H' Y' Q'=>exDs tab (Gm 19) yS H' Y' Q' X) (.n false 11 ⟨135,12,135,16⟩) none (cs.map bh.v) (mk [(12, .ref C),(19,u),(2,v),(24,w)]) (Y.set C (.list [])) (fun fl H' Y'=>(fun fl Ji Jo=>match fl with | .next=>exDs tab (Gm 19) r Ji Jo K X | fl=>K fl Ji Jo) fl H' (unhid none Y')):=by
 refine eM (fun _:List Nat=>[(12, .ref C),(19,u),(2,v),(24,w)]) (fun s=>Y.set C (.list (s.map bc))) (fun r s=>∃ds:List bh,r=ds.map bh.v/\(∀c∈ds,eK c)/\s++ib ds=ib cs/\s.length+2*ds.length<=50) ?_ ?_ [] ⟨cs,rfl,ht,rfl,by show 0+2*cs.length<=50;lia⟩ rfl rfl
 ·intro s zp1;obtain ⟨ds,e,U,e2,U⟩:=zp1
  cases ds with
  | cons U z1=>exact B5 e
  | nil=>
   have e2:s++[]=_:=e2;rw [aE] at e2;rw [<-e2] at q;exact q
 ·intro x r s zp1 W hW;obtain ⟨ds,e,hd,e2,hm⟩:=zp1
  cases ds with
  | nil=>exact qm e
  | cons c ds=>
   obtain ⟨rfl,rfl⟩:=List.cons.inj e;have hm:s.length+2*(ds.length+1)<=50:=hm;have hc:=ol (hd c (.head _));refine f19 (c:=c) rfl rfl (be.set_same _ _ _) (by lia) (hd c (.head _)) ?_;rw [be.set_set];refine cV (hW (s++xB c) ⟨ds,rfl,fun y hy=>hd y (.tail _ hy),by refine ak (aw ..) ?_;exact e2,by rw [ai];omega⟩) ⟨rfl,rfl,rfl,rfl,trivial⟩
theorem l140 {acc:List V} {v:V} (h2:H 2=some (.ref F)) (h12:H 12=some v) (hF:Y F=some (.list acc)) (hl:acc.length<=100) (q:K .next H (Y.set F (.list (acc++[v])))):exDs tab (Gm 19) [s8] H Y K X:=
 bg h2 (cD (ce hF) (bg h12 (bg (bF hF) (bx (az hl (ad rfl)) q))))
theorem uw {acc:List V} (hp:PcOk P) (h:bJ Y a P) (hr:P.ls[k]? =some l) (ht:∀c∈l.cs,eK c) (hF:Y F=none) (hacc:acc.length<=100) {W:bv->be->Prop} {Q':KF} (q:W (mk [(2, .ref F),(24, .ref a)]) (Y.set F (.list (acc++[Ek P.c l])))):exDs tab (Gm 19) Cm ((mk [(2, .ref F),(24, .ref a)]).set 19 (bc k)) (Y.set F (.list acc)) (KL Q' none W) X:=by
 intro C hC;have nC:C≠F:=fun r=>by rw [r,be.set_same] at hC;exact gq hC
 have hC':Y C=none:=(be.set_ne _ _ nC).symm.trans hC;have x:du Y ((Y.set F (.list acc)).set C (.list [])):=(du.new hF).set hC';have h':=h.ext x;clear hF hC h uw;obtain ⟨dx,i⟩:=h';have hs:=hp.sh hr;have hl:((l.shc P.c).map bh.v).length<=16777216:=by rw [ah];exact bz hs rfl
 have hts:∀c∈(l.shc P.c).take (l.use P.c),eK c:=fun c hc=>ht c (List.mem_of_mem_take (List.mem_of_mem_take hc));have hn:((l.shc P.c).take (l.use P.c)).length<=6:=aj (List.length_take_le' _ _) hs;refine bm i rfl (EP hp ⟨dx,i⟩ hr (bm i rfl (q11 hp ⟨dx,i⟩ hr (bx hl (bg (gF _ (l.use P.c)) (bx (aj (List.length_take_le' _ _) hl) ?_))))));refine bi (show ((l.shc P.c).map bh.v).take (l.use P.c)=((l.shc P.c).take (l.use P.c)).map bh.v by rw [List.map_take]) ?_;refine l135 (u:=bc k) (w:= .ref a) hn hts ?_;have hcl:=oT hts;refine l138 (be.set_same _ _ _) (by lia) ?_;refine bi be.set_set ?_;refine l140 rfl rfl ((be.set_ne _ _ (aS nC)).trans (be.set_same _ _ _)) hacc ?_;refine turn q (fun b o' hb=> ?_) trivial ⟨rfl,rfl,trivial⟩
 by_cases e1:b=F
 ·subst e1;rw [be.set_same] at hb
  (replace hb:=bW hb;subst hb)
  exact ⟨_,be.set_same _ _ _, .inr (.inl ⟨_,_,rfl,rfl,Fzs.snoc (y:= .lst ((yx l P.c).map bc)) (x:= .ref C) (Or.inr ⟨C,_,rfl,((be.set_ne _ _ nC).trans (be.set_same _ _ _)),((be.set_ne _ _ nC).trans hC'), .self _ _ _⟩) acc⟩)⟩
 ·have hb':=(be.set_ne _ _ e1).symm.trans hb;exact ⟨o',(be.set_ne _ _ e1).trans ((be.set_ne _ _ (fun r=>by rw [r,hC'] at hb';exact bZ hb':b≠C)).trans ((be.set_ne _ _ e1).trans hb')), .inl rfl⟩
theorem q19 (hp:PcOk P) (h:bJ Y a P) (ht:∀l∈P.ls,∀c∈l.cs,eK c) (q:Q (.lst (P.ls.map (Ek P.c))) Y):bd (Gm 19) 19 [.ref a] Y Q X:=by
 refine ⟨rfl,fun F hF=> ?_⟩;obtain ⟨dx,i⟩:=h.ext (du.new hF);refine ch i rfl (bx (p:=((P.ls.length:Int)<=2 ^ 24)) (bb.mpr (bz hp.n rfl)) ?_);refine dE (fun _:Nat=>[(2, .ref F),(24, .ref a)]) (fun k=>Y.set F (.list ((P.ls.take k).map (Ek P.c)))) (fun k s=>s=k) ?_ ?_ 0 rfl rfl rfl
 ·rintro _ rfl
  rw [List.take_length];exact yN hF q
 ·rintro _ k hk rfl W hW
  have hr:=an hk;refine uw hp h hr (ht _ (List.getElem_mem hk)) hF ?_ ?_
  ·rw [ah];exact aj (List.length_take_le' _ _) (aj hp.n (by decide))
  ·have:=hW (k+1) rfl;rw [(show P.ls.take (k+1)=P.ls.take k++[P.ls[k]] by (refine ak (List.take_add_one ..) ?_;rw [hr]);rfl),bq] at this;exact this
end
noncomputable def l9 (l:List bh) (n:Nat):List Nat:=(List.range n).filter fun k=> !(co l k)
theorem zb (l:List bh):∀n,(match (l9 l n).getLast? with | some k=>k+1 | none=>0)=pB (co l) n:=by
 intro zl
 induction zl with
 | zero=>
  exact rfl
 | succ n ihz=>
  have ih:=ihz;unfold l9 at ih ⊢;rw [List.range_succ,List.filter_append];show _=cond (co l n) (pB (co l) n) (n+1)
  cases e:co l n with
  | true=>rw [List.filter_cons_of_neg (p:=fun k=> !(co l k)) (by rw [e];exact Bool.false_ne_true),List.filter_nil,aE];exact ih
  | false=>rw [List.filter_cons_of_pos (by rw [e];rfl),List.filter_nil,List.getLast?_concat];rfl
theorem mj (p:Nat->Bool):∀n k,pB p n<=k->k<n->p k=true
 | n+1,k,h,hk=>by
  have h:cond (p n) (pB p n) (n+1)<=k:=h
  cases e:p n with
  | false=>rw [e] at h;exact absurd hk (Nat.not_lt.mpr h)
  | true=>
   rw [e] at h;rcases Nat.lt_or_eq_of_le (Nat.le_of_lt_succ hk) with hk | rfl
   ·exact mj p n k h hk
   ·exact e
theorem x7 {c:bh} (h:bw c.v iP=true):xB c=[32]:=by
 refine fI (ay.mp h) fun h1 h2=> ?_;delta xB
 cases e:c.s with
 | nil=>refine bi (Int.ofNat_inj.mp (aU (ay.mp h2).1)) ?_;rfl
 | cons U z1=>replace h1:=e▸h1;exact cR h1
theorem ym (l:List Nat):∀n,hV (l++List.replicate n 32)=hV l:=by
 intro zl
 induction zl with
 | zero=>
  refine bi List.replicate_zero ?_;rw [aE]
 | succ n ih=>
  refine bi List.replicate_succ' ?_;rw [<-aw,jD];exact ih
theorem yj (a b:List bh):ib (a++b)=ib a++ib b:=by delta ib;(refine bi aJ ?_;refine ak (List.flatten_append ..) ?_;rfl)
theorem xo:∀{l:List bh},(∀c∈l,bw c.v iP=true)->ib l=List.replicate l.length 32:=by
 intro zl
 induction zl with
 | nil=>
  exact fun U=>rfl
 | cons c r ih=>
  intro h;rw [l8,x7 (h c (.head _))];refine bi (ih fun y hy=>h y (.tail _ hy)) ?_;rfl
theorem tJ (l:Ln) (c:Nat):hV (ib (l.shc c))=yx l c:=by
 have e:=(List.take_append_drop (l.use c) (l.shc c)).symm
 have hb:∀d∈(l.shc c).drop (l.use c),bw d.v iP=true:=fun d hd=>by
  obtain ⟨j,hj,e⟩:=List.getElem_of_mem hd;rw [List.getElem_drop] at e;rw [List.length_drop] at hj;have hlt:l.use c+j<(l.shc c).length:=by omega
  have:=mj (co (l.shc c)) (l.shc c).length (l.use c+j) (aP _ _) hlt;unfold co at this;rw [an hlt] at this;rw [<-e];exact this
 conv=>lhs;rw [e,yj,xo hb]
 exact ym _ _
section
variable {Y:be} {Q X:KV} {K:KF} {H:bv} {a C F:Addr} {r:List DS} {P:Pc} {k c:Nat} {l:Ln} {cl:bh} {ds:List Nat}
theorem xm {T:eT} {Γ:dW} {p p':Pos} {l:List V} {x:V} (hl:l.length<16777216) (q:Q x Y):dO T Γ (.un true (.lit (.int 1) p) p') H Y (fun j Jp=>l6 (.lst (l++[x])) j Jp Q) X:=by
 have hn:(l++[x]).length=l.length+1:=ai;refine bx (p:=(l++[x]).length<=16777216) (by refine bi hn ?_;exact hl) (bg (x:=l.length) ?_ (bg ?_ q))
 ·delta dk;refine bi (if_neg (by decide)) ?_;refine bi hn ?_;refine bi (if_pos (by lia)) ?_;exact aB some (by lia)
 ·exact List.getElem?_concat_length ..
theorem l399 (hc:l.cs.length=c) (h6:c<=6) (h52:H 52=some (hY l)) (q:∀C,Y C=none->exDs tab (Gm 54) r ((H.set 29 (bt (l.shc c))).set 12 (.ref C)) (Y.set C (.list [])) K X):exDs tab (Gm 54) (uf::r) H Y K X:=
 bg h52 (Gg hc h6 fun C hC=>q C hC)
noncomputable def Dk (cs:List bh) (v:V):Option V:=cond (!(co cs (ED v))) (some v) none
theorem zh (cs:List bh):∀l:List Nat,(l.map bc).filterMap (Dk cs)=(l.filter fun k=> !(co cs k)).map bc:=by
 intro zl
 induction zl with
 | nil=>
  exact rfl
 | cons k l ihz=>
  have ih:=ihz;have e:Dk cs (bc k)=cond (!(co cs k)) (some (bc k)) none:=rfl;rw [aR]
  cases h:co cs k with
  | true=>rw [h] at e;rw [List.filterMap_cons_none e,List.filter_cons_of_neg (p:=fun k=> !(co cs k)) (by rw [h];exact Bool.false_ne_true),ih]
  | false=>rw [h] at e;rw [List.filterMap_cons_some e,List.filter_cons_of_pos (by rw [h];rfl),aR,ih]
theorem l400 {cs:List bh} (h29:H 29=some (bt cs)) (hn:cs.length<=6) (q:exDs tab (Gm 54) r (H.set 58 (.lst ((l9 cs cs.length).map bc))) Y K X):exDs tab (Gm 54) (v9::r) H Y K X:=by
 have hl:(cs.map bh.v).length<=16777216:=by rw [ah];exact bz hn rfl
 refine bg h29 (bx hl (bx (p:=(((cs.map bh.v).length:Nat):Int)<=2 ^ 24) (bb.mpr hl) ?_));show ∀D,_->dQ _ _ _ none D (dl 0 ((cs.map bh.v).length:Nat)) _ _ _;rw [ah,d7];refine fS (Dk cs) _ (by rw [ah];refine bi List.length_range ?_;exact bz hn rfl) (fun U e=>bZ e) (fun M hM x hx=> ?_) ?_
 ·refine bu (aN.mp hx) fun k hk y1=> ?_;subst y1;have hk':=List.mem_range.mp hk;have hx:=an hk';intro acc K K' q;have e:co cs k=bw cs[k].v iP:=by delta co;refine bi hx ?_;rfl
  have q:kU (cond (!(co cs k)) (some (bc k)) none) (K · (Y.set M (.list acc))) (K' (Y.set M (.list acc))):=q;rw [e] at q;refine bg h29 (bD hl rfl (bM hx) (q36 (cD (bY (dI _ 6) rfl) ?_)));refine cu (b:= !(bw cs[k].v iP)) (fun e=> ?_) fun e=> ?_<;>(rw [e] at q;exact q)
 ·rw [zh];exact q
theorem l401 (hp:PcOk P) (h:bJ Y a P) (hr:P.ls[k]? =some l) (h24:H 24=some (.ref a)) (h19:H 19=some (bc k)) (h29:H 29=some (bt (l.shc P.c))) (h58:H 58=some (.lst ((l9 (l.shc P.c) (l.shc P.c).length).map bc))) (q:exDs tab (Gm 54) r H Y K X):exDs tab (Gm 54) (uo::r) H Y K X:=by
 have g:=h;obtain ⟨dx,i⟩:=h;have hs:=hp.sh hr;refine bg h24 (bm i rfl (bg h19 (q06 hp g hr (bg h29 (bx (p:=((l.shc P.c).map bh.v).length<=16777216) (by rw [ah];exact bz hs rfl) ?_)))));refine iL (b:= !(!(decide ((l.wd P.c:Int)=((l.shc P.c).map bh.v).length)))) (by rw [ah,(ke (hp.cs l (aq hr)))];refine bi (aA rfl) ?_;rfl) ?_;refine bg h24 (bm i rfl (bg h19 (q11 hp g hr (bg h58 ?_))));have hu:=zb (l.shc P.c) (l.shc P.c).length;have hsl:(l9 (l.shc P.c) (l.shc P.c).length).length<=6:=aj (List.length_filter_le _ _) (by refine bi List.length_range ?_;exact hs);refine cD (bY (cX 7 _) rfl) ?_;rcases List.eq_nil_or_concat (l9 (l.shc P.c) (l.shc P.c).length) with e | ⟨pre,x,e⟩
 ·rw [e] at hu ⊢;refine iL (b:= !(!(decide ((l.use P.c:Int)=((0:Nat):Int))))) (by refine rt (show 0=l.use P.c from hu) ?_;rfl) ?_;exact q
 ·replace e:=List.concat_eq_append▸e;rw [e] at hu hsl h58 ⊢;rw [List.getLast?_concat] at hu;rw [bq] at h58 ⊢;refine iL (b:=fl true (bw (.lst (pre.map bc++[bc x])) (.lst []))) (by show (!(bw (.lst (pre.map bc++[bc x])) (.lst [])))=true;rw [g7];cases pre<;>rfl) ?_;refine bg h58 ?_;refine xm (show (pre.map bc).length<16777216 by rw [ah];rw [ai] at hsl;exact az (Nat.le_of_succ_le hsl) (ad rfl)) ?_;refine iL (b:= !(!(decide ((l.use P.c:Int)=((x+1:Nat):Int))))) (by refine bi (show x+1=l.use P.c from hu) ?_;refine bi (aA rfl) ?_;rfl) ?_;exact q
end
theorem pG:∀s:List Nat,eqVs (s.map bc) (s.map bc)=true:=by
 intro zl
 induction zl with
 | nil=>
  exact rfl
 | cons x s ih=>
  show (decide ((x:Int)=x) && eqVs (s.map bc) (s.map bc))=true;refine bi (aA rfl) ?_;refine bi (ih) ?_;rfl
theorem AO {α:Type} (l:List α):l4 l (.int (-1)) .none=some (l.drop (l.length - 1)):=rfl
section
variable {Y:be} {Q X:KV} {K:KF} {H:bv} {a C F:Addr} {r:List DS} {P:Pc} {k c:Nat} {l:Ln} {cl:bh} {ds:List Nat}
theorem f54 (h25:H 25=some (.tup (cl.s.map bc))) (h13:H 13=some (bc cl.w)) (h12:H 12=some (.ref C)) (hC:Y C=some (.list (ds.map bc))) (hl:ds.length<=100) (ht:eK cl) (q:K .next H (Y.set C (.list ((ds++xB cl).map bc)))):exDs tab (Gm 54) CT H Y K X:=by
 delta xB at q;have hlen:∀n,n<=2->(ds.map bc).length+n<=16777216:=fun n hn=>by rw [ah];exact aj (Nat.add_le_add hl hn) (ad rfl)
 have ee:eqVs (cl.s.map bc) []=cl.s.isEmpty:=by cases cl.s<;>rfl
 refine bg h12 (cD (ce hC) (bg h13 ?_));refine cu (b:=decide (((0:Nat):Int)<cl.w)) (fun e=> ?_) fun e=> ?_
 ·rw [dM] at e;rw [e] at q;refine bg h25 (cD (b:=gz (.tup (cl.s.map bc)) (.tup [])) (bY (cX 7 _) rfl) ?_);refine cu (b:=eqVs (cl.s.map bc) []) (fun e=> ?_) fun e=>bg h25 ?_
  ·rw [ee] at e;rw [e] at q;refine bg (bF hC) (bx (hlen 1 (by decide)) ?_);have q:K .next H (Y.set C (.list ((ds++[32]).map bc))):=q;rw [bq] at q;exact q
  ·rw [ee] at e;rw [e] at q;refine bx (by rw [ah];exact bz ht.few rfl) ?_;refine bg (bF hC) (bx (by rw [ah (as:=cl.s)];exact hlen _ ht.few) ?_);rw [aJ] at q;exact q
 ·rw [dM] at e;replace q:=e▸q;refine bg (bF hC) (bx (hlen 0 (by decide)) ?_);rw [aJ] at q;exact q
noncomputable abbrev rJ (C:Addr) (sp sh:V) (k:Nat) (l:Ln) (a:Addr) (P:Pc):List (Nat×V):=[(58,sp),(12, .ref C),(29,sh),(52,hY l),(19,bc k),(24, .ref a),(48,bP P)]
theorem l403 {sp:V} {cs:List bh} (hn:cs.length<=6) (ht:∀c∈cs,eK c) (q:exDs tab (Gm 54) r (mk (rJ C sp (bt cs) k l a P)) (Y.set C (.list ((ib cs).map bc))) K X):exDs tab (Gm 54) (tV::r) (mk (rJ C sp (bt cs) k l a P)) (Y.set C (.list [])) K X:=by
 show fZ _ _ none (cs.map bh.v) _ _ _;refine eM (fun _:List Nat=>rJ C sp (bt cs) k l a P) (fun s=>Y.set C (.list (s.map bc))) (fun r s=>∃ds:List bh,r=ds.map bh.v/\(∀c∈ds,eK c)/\s++ib ds=ib cs/\s.length+2*ds.length<=50) ?_ ?_ [] ⟨cs,rfl,ht,rfl,by show 0+2*cs.length<=50;lia⟩ rfl rfl
 ·intro s zp1;obtain ⟨ds,e,U,e2,U⟩:=zp1
  cases ds with
  | cons U z1=>exact B5 e
  | nil=>
   have e2:s++[]=_:=e2;rw [aE] at e2;rw [<-e2] at q;exact q
 ·intro x r s zp1 W hW;obtain ⟨ds,e,hd,e2,hm⟩:=zp1
  cases ds with
  | nil=>exact qm e
  | cons c ds=>
   obtain ⟨rfl,rfl⟩:=List.cons.inj e;have hm:s.length+2*(ds.length+1)<=50:=hm;have hc:=ol (hd c (.head _));refine f54 (cl:=c) (H:=(((mk (rJ C sp (bt cs) k l a P)).set 25 (.tup (c.s.map bc))).set 13 (bc c.w)).set 5 c.p.v) rfl rfl rfl (be.set_same _ _ _) (by lia) (hd c (.head _)) ?_;refine bi be.set_set ?_;refine cV (hW (s++xB c) ⟨ds,rfl,fun y hy=>hd y (.tail _ hy),by refine ak (aw ..) ?_;exact e2,by rw [ai];omega⟩) ⟨rfl,rfl,rfl,rfl,rfl,rfl,rfl,trivial⟩
theorem w54 {l:List V} {x:V} (h12:H 12=some (.ref C)) (hC:Y C=some (.list (l++[x]))) (hl:l.length<=100) (q:K .next H (Y.set C (.list l))):exDs tab (Gm 54) C3 H Y K X:=by
 refine bg h12 ?_;exact A4 hC hl q
theorem t405 {T:eT} {G:dW} {p1 p2 p3 p4 p5 p6 p7 p8:Pos} {K:KV} (h12:H 12=some (.ref C)) (hC:Y C=some (.list (ds.map bc))) (hl:ds.length<=100) (q:K (.bool (eqVs ((ds.map bc).drop ((ds.map bc).length - 1)) [.int 32])) Y):dO T G (.cmp .Eq (.slc false (.nm false 12 p1) (some (.un true (.lit (.int 1) p2) p3)) .none .none p4 p5) (.lst false [.lit (.int 32) p6] p7) p8) H Y K X:=by
 have hl':(ds.map bc).length<=16777216:=by rw [ah];exact bz hl rfl
 refine bg h12 (bg (gb hC) (bx hl' (bg (AO _) (bx (p:=((ds.map bc).drop ((ds.map bc).length - 1)).length<=16777216) (aj (by rw [List.length_drop];exact Nat.sub_le _ _) hl') ?_))));refine cD (b:=gz (.lst ((ds.map bc).drop ((ds.map bc).length - 1))) (.lst [.int 32])) (bY (mR fun y hy=> ?_) rfl) q;obtain ⟨z,U,rfl⟩:=aN.mp (List.mem_of_mem_drop hy);rfl
theorem l405 {sp sh:V} (hl:ds.length<=100) (q:exDs tab (Gm 54) r (mk (rJ C sp sh k l a P)) (Y.set C (.list ((hV ds).map bc))) K X):exDs tab (Gm 54) (si::r) (mk (rJ C sp sh k l a P)) (Y.set C (.list (ds.map bc))) K X:=by
 refine eX (fun _:List Nat=>rJ C sp sh k l a P) (fun s=>Y.set C (.list (s.map bc))) (fun s=>hV s=hV ds/\s.length<=100) List.length ?_ ds ⟨rfl,hl⟩ rfl rfl;intro s zp1 W hW;obtain ⟨h1,h2⟩:=zp1;refine t405 (ds:=s) rfl (be.set_same _ _ _) h2 ?_;rcases List.eq_nil_or_concat s with rfl | ⟨pre,x,rfl⟩
 ·have e:hV ds=[]:=h1.symm;rw [e] at q;exact q
 ·rw [List.concat_eq_append] at*;rw [jD] at h1
  have ed:eqVs (((pre++[x]).map bc).drop (((pre++[x]).map bc).length - 1)) [.int 32]=Nat.beq x 32:=by
   rw [bq,ai,List.length_singleton,Nat.add_sub_cancel,List.drop_left];show (decide ((x:Int)=((32:Nat):Int)) && true)=_
   (rw [cJ];refine ak (Bool.and_true ..) ?_;rfl)
  rw [ed];refine cu (fun e=> ?_) fun e=> ?_
  ·rw [e] at h1;refine w54 rfl (show (Y.set C (.list ((pre++[x]).map bc))) C=some (.list (pre.map bc++[bc x])) by rw [<-bq];exact be.set_same _ _ _) (show (pre.map bc).length<=100 by rw [ah];rw [ai] at h2;exact Nat.le_of_succ_le h2) ?_;rw [be.set_set];refine cV (hW pre ⟨h1, ?_⟩ ?_) ⟨rfl,rfl,rfl,rfl,rfl,rfl,rfl,trivial⟩
   ·rw [ai] at h2;exact Nat.le_of_succ_le h2
   ·rw [ai];exact Nat.lt_succ_self _
  ·rw [e] at h1;rw [(h1.symm)] at q;exact q
theorem l407 (hp:PcOk P) (h:bJ Y a P) (ht:∀l∈P.ls,∀c∈l.cs,eK c) (hr:P.ls[k]? =some l) (h24:H 24=some (.ref a)) (h19:H 19=some (bc k)) (h12:H 12=some (.ref C)) (hC:Y C=some (.list ((yx l P.c).map bc))) (hl:(yx l P.c).length<=100) (q:K .next H Y):exDs tab (Gm 54) [vX] H Y K X:=by
 have hd:=gV hC;refine bg h24 (q19 hp h ht (bg h19 (bD (hp.lines _) rfl (bM hr) (bx (p:=((yx l P.c).map bc).length<=16777216) (by rw [ah];exact bz hl rfl) (bg h12 ?_)))));refine cD (b:=gz (.lst ((yx l P.c).map bc)) (deref (.ref C) Y)) (by refine bi hd ?_;exact bY (cX 7 _) (cX 7 _)) ?_;refine rq (b:=fl true (bw (.lst ((yx l P.c).map bc)) (deref (.ref C) Y))) ?_ q;refine bi hd ?_;show (!(eqVs ((yx l P.c).map bc) ((yx l P.c).map bc)))=false;rw [pG];rfl
theorem q54 (hp:PcOk P) (h:bJ Y a P) (ht:∀l∈P.ls,∀c∈l.cs,eK c) (q:Q (.bool true) Y):bd (Gm 54) 54 [bP P, .ref a] Y Q X:=by
 refine ⟨rfl, ?_⟩;show fZ _ _ none (gm 0 (P.ls.map hY)) _ _ _;refine eM (fun _:Unit=>[(24, .ref a),(48,bP P)]) (fun U=>Y) (fun r U=>∃(k:Nat) (xs:List Ln),r=gm k (xs.map hY)/\∀j,P.ls[k+j]? =xs[j]?) ?_ ?_ () ⟨0,P.ls,rfl,fun j=>by rw [Nat.zero_add]⟩ rfl rfl
 ·intro _ _;exact bR q
 ·intro v r _ zp1 W hW;obtain ⟨k,xs,e,hx⟩:=zp1
  cases xs with
  | nil=>exact qm e
  | cons l xs=>
   obtain ⟨rfl,rfl⟩:=List.cons.inj e;have hr:P.ls[k]? =some l:=hx 0;have hm:=aq hr;have hs:=hp.sh hr;have hts:∀c∈l.shc P.c,eK c:=fun c hc=>ht l hm c (List.mem_of_mem_take hc);refine bg (x:=((mk [(24, .ref a),(48,bP P)]).set 19 (bc k)).set 52 (hY l)) rfl ?_;refine l399 (l:=l) (hp.cs l hm) hp.c rfl fun C hC=> ?_;have x:∀o,du Y (Y.set C o):=fun o=> .new hC;refine l400 rfl hs (l401 hp (h.ext (x _)) hr rfl rfl rfl rfl ?_);refine l403 (P:=P) hs hts ?_;have hcl:=oT hts;refine l405 (by lia) ?_
   have hT:(yx l P.c).length<=100:=by
    rw [<-tJ];delta hV;rw [List.length_reverse];exact aj (List.dropWhile_sublist _).length_le (by rw [List.length_reverse];lia)
   refine l407 (l:=l) hp (h.ext (x _)) ht hr rfl rfl rfl (by rw [tJ];exact be.set_same _ _ _) hT ?_;exact turn (hW () ⟨k+1,xs,rfl,fun j=>by rw [Nat.add_assoc,Nat.add_comm 1];exact hx (j+1)⟩) (.drop hC) trivial ⟨rfl,rfl,trivial⟩
end
noncomputable def lO (w:List Nat):Bool:=w.all fun x=>Nat.blt x 256 && (!(Nat.beq x 10) && !(Nat.beq x 32))
noncomputable def sgG:List (List Nat):=[[],[97],[98],[99],[97,769],[98,769],[99,769],[19968],[19969],[19970]]
theorem Bm:∀s∈sgG,(∀n∈s,n=97\/n=98\/n=99\/n=769\/n=19968\/n=19969\/n=19970)/\(cP s).length<=99/\s.length<=2/\s∈Bv/\lO (58::cP s)=true/\lO (cP s)=true/\blk s=s.isEmpty:=by decide+kernel
theorem ER:∀f∈flG,f∈nH/\f<10 ^ 18/\bQ f=f8 f/\lO (f8 f)=true/\lO (48::f8 f)=true:=by decide+kernel
theorem lZ:∀o∈[-1,1,16843267,4,200,2],(o= -1\/o.toNat∈nH/\(o.toNat:Int)=o)/\o.natAbs<10 ^ 18/\cond (decide (o= -1)) [45] (bQ o)=f8 o/\lO (f8 o)=true:=by decide+kernel
theorem foI:∀o∈foL,o∈[-1,1,16843267,4,200,2]:=by decide+kernel
theorem bI:∀o∈bL,o∈[-1,1,16843267,4,200,2]:=by decide+kernel
theorem uI:∀o∈uL,o∈[-1,1,16843267,4,200,2]:=by decide+kernel
theorem Aa {o:Int} (h:o∈[-1,1,16843267,4,200,2]):lK o:=by
 rcases (lZ o h).1 with h | ⟨h1,h2⟩
 ·exact .inl h
 ·exact .inr ⟨o.toNat,h1,h2.symm⟩
section
variable {e:Bool} {p q:fg} {c:bh} {n:Nat} {l:Ln} {P:Pc}
theorem fi.N (h:fi e p):Bs p:=⟨(ER _ h.f).1,Aa (foI _ h.o),Aa (bI _ h.b),Aa (uI _ h.u)⟩
theorem fi.pp (h:fi e p):B0 p:=⟨Int.ofNat_lt.mpr (ER _ h.f).2.1,(lZ _ (foI _ h.o)).2.1,(lZ _ (bI _ h.b)).2.1,(lZ _ (uI _ h.u)).2.1⟩
theorem fi.L (h:fi e p):xt p:=⟨(ER _ h.f).2.2.1,(lZ _ (foI _ h.o)).2.2.1,(lZ _ (bI _ h.b)).2.2.1,(lZ _ (uI _ h.u)).2.2.1⟩
theorem fi.W (h:fi e p):lO (f8 p.f)=true/\lO (f8 p.o)=true/\lO (f8 p.b)=true/\lO (f8 p.u)=true/\lO (48::f8 p.f)=true:=⟨(ER _ h.f).2.2.2.1,(lZ _ (foI _ h.o)).2.2.2,(lZ _ (bI _ h.b)).2.2.2,(lZ _ (uI _ h.u)).2.2.2,(ER _ h.f).2.2.2.2⟩
structure fN (c:bh):Prop where
 s:c.s∈sgG
 p:fi c.s.isEmpty c.p
 e:c.s=[]->c.w<=1
 w:c.w<=2
theorem letG:∀s∈yB,s∈sgG/\s.isEmpty=false:=by decide+kernel
theorem FK:∀s∈yU,s∈sgG/\s.isEmpty=false:=by decide+kernel
theorem xy.G {sz:List Nat} (h:xy sz c):fN c/\(c.w=1\/c.w=2):=by
 rcases h.one with ⟨h1,⟨h2,h3⟩ | ⟨h2,h3⟩⟩ | ⟨U,h1,h2,h3⟩
 ·exact ⟨⟨h2▸ .head _,by rw [h2];exact h3,fun U=>by rw [h1];exact av _,by rw [h1];decide⟩, .inl h1⟩
 ·refine cr fun hn=> ?_;obtain ⟨g1,g2⟩:=letG _ h2;exact hn (⟨⟨g1,by rw [g2];exact h3,fun r=>(by rw [r] at g2;exact lN g2),by rw [h1];decide⟩, .inl h1⟩)
 ·obtain ⟨g1,g2⟩:=FK _ h2;exact ⟨⟨g1,by rw [g2];exact h3,fun r=>(by rw [r] at g2;exact lN g2),by rw [h1];decide⟩, .inr h1⟩
theorem EJ:fi true nrm:=⟨.head _, .head _, .head _, .head _,rfl⟩
theorem Ds:fN tail0:=⟨.head _,EJ,fun U=>aX _,aX _⟩
theorem Dp {bs:List bh} {sz:List Nat} (h:∀c∈bs,xy sz c):∀c∈bV bs,fN c:=fun c hc=>by
 obtain ⟨z,hz,hc⟩:=List.mem_flatten.mp hc;obtain ⟨b,hb,rfl⟩:=aN.mp hz;rcases iB b with e | ⟨U,e⟩<;>replace hc:=e▸hc
 ·cases ao.mp hc;exact (h _ hb).G.1
 ·rcases au.mp hc with rfl | hc
  ·exact (h _ hb).G.1
  ·cases ao.mp hc;exact Ds
theorem LnG.G (h:LnG n l):∀c∈l.cs,fN c:=by
 obtain ⟨bs,hb,e⟩:=h.bs;refine bi e ?_;exact Dp hb
theorem fN.pp (h:fN c):fk c:=by
 have zz:=Bm _ h.s;have h1:=zz.1;have h2:=zz.2.1;have h3:=zz.2.2.1;exact ⟨⟨h1,h2,h3⟩,h.p.pp⟩
theorem fN.T (h:fN c):eK c:=⟨(Bm _ h.s).2.2.1,h.e⟩
theorem cL.ok (h:cL P):PcOk P:=⟨h.n3,h.c6,fun l hl=>(h.ls l hl).len⟩
theorem cL.L (h:cL P):PcL P:=
 {h.ok with
  r0:=aj (a6 h.r0) (aj h.n3 (by decide))
  c0:=aj (a6 h.c0) h.c6
  sz:=fun l hl=>⟨(szF _ (h.ls l hl).sz).1,(szF _ (h.ls l hl).sz).2.1⟩
  cp:=fun l hl c hc=>((h.ls l hl).G c hc).pp
  pl:=fun l hl c hc=>((h.ls l hl).G c hc).p.L}
theorem cL.T (h:cL P):∀l∈P.ls,∀c∈l.cs,eK c:=fun l hl c hc=>((h.ls l hl).G c hc).T
theorem pI (p:fg):bw p.v p.v=true:=by
 show (decide ((p.f:Int)=p.f) && (decide (p.o=p.o) && (decide (p.b=p.b) && (decide (p.u=p.u) && true))))=true;refine bi (aA rfl) ?_;refine bi (aA rfl) ?_;refine bi (aA rfl) ?_;refine bi (aA rfl) ?_;rfl
theorem md (c:bh):bw c.v c.v=true:=by
 show (eqVs (c.s.map bc) (c.s.map bc) && (decide ((c.w:Int)=c.w) && (bw c.p.v c.p.v && true)))=true;rw [pG,aA rfl,pI];rfl
theorem Bn (h:bw p.v q.v=true):p=q:=by
 obtain ⟨h1,h⟩:=ay.mp h;obtain ⟨h2,h⟩:=ay.mp h;obtain ⟨h3,h⟩:=ay.mp h;obtain ⟨h4,U⟩:=ay.mp h;exact xE (Int.ofNat_inj.mp (aU h1)) (aU h2) (aU h3) (aU h4)
theorem fN.wd (h:fN c) (hw:c.w=1\/c.w=2):gN true c:=by
 have zz:=Bm _ h.s;refine ⟨(zz.2.2.2.1),hw, ?_⟩
 have e:oq c=c.v:=by
  unfold oq
  have:decide ((c.w:Int)=0)=false:=decide_eq_false fun r=>by
   have:=Int.ofNat_inj.mp r;rcases hw with h | h<;>(rw [h] at this;cases this)
  rw [this,(zz.2.2.2.2.2.2)];rw [(h.p.n)]
  cases k:c.s with
  | nil=>show _=V.tup [V.tup (c.s.map bc),_,_];rw [k];rfl
  | cons x r=>show _=V.tup [V.tup (c.s.map bc),_,_];rw [k];rfl
 rw [e];exact md c
end
theorem wx (c:Nat):∀w:List Nat,(∀x∈w,x≠c)->bn c w=[w]:=by
 intro zl
 induction zl with
 | nil=>
  exact fun U=>rfl
 | cons x r ih=>
  intro h;show (if x=c then _ else (match bn c r with | w::ws=>(x::w)::ws | []=>[[x]]))=_;refine bi (if_neg (h x (.head _))) ?_;refine bi (ih fun y hy=>h y (.tail _ hy)) ?_;rfl
theorem qC (c:Nat) (t:List Nat):∀w:List Nat,(∀x∈w,x≠c)->bn c (w++c::t)=w::bn c t:=by
 intro zl
 induction zl with
 | nil=>
  exact fun U=>if_pos rfl
 | cons x r ih=>
  intro h;show (if x=c then _ else (match bn c (r++c::t) with | w::ws=>(x::w)::ws | []=>[[x]]))=_;rw [if_neg (h x (.head _)),ih fun y hy=>h y (.tail _ hy)]
theorem iy (c:Nat):∀ws:List (List Nat),ws≠[]->(∀w∈ws,∀x∈w,x≠c)->bn c (bk [c] ws)=ws
 | [],h,U=>absurd rfl h
 | [w],U,h=>wx c w (h w (.head _))
 | w::v::r,U,h=>by
  (rw [(show bk [c] (w::v::r)=w++c::bk [c] (v::r) by show w++[c]++_=_;refine ak (aw ..) ?_;rfl)];refine ak (qC c _ w (h w (.head _))) ?_;rw [iy c (v::r) (a7 _ _) fun u hu=>h u (.tail _ hu)])
theorem kN {c:Nat} {p:Nat->Prop} (hc:p c):∀ws:List (List Nat),(∀w∈ws,∀x∈w,p x)->∀x∈bk [c] ws,p x
 | [],U,x,hx=>fh hx
 | [w],h,x,hx=>h w (.head _) x hx
 | w::v::r,h,x,hx=>by
  rcases aD.mp hx with hx | hx
  ·rcases aD.mp hx with hx | hx
   ·exact h w (.head _) x hx
   ·cases ao.mp hx;exact hc
  ·exact kN hc (v::r) (fun u hu=>h u (.tail _ hu)) x hx
theorem qU {w:List Nat} (h:lO w=true):∀x∈w,x<256/\x≠10/\x≠32:=fun x hx=>by
 have:=aG.mp h x hx;refine cr fun hn=> ?_;obtain ⟨h1,h2⟩:=ay.mp this;obtain ⟨h2,h3⟩:=ay.mp h2;exact hn ⟨ad h1,fun r=>(by rw [r] at h2;exact cR h2),fun r=>(by rw [r] at h3;exact cR h3)⟩
noncomputable def AB (r:List Nat):Prop:=∀x∈r,x<256/\x≠10
theorem mJ {ws:List (List Nat)} (h:∀w∈ws,lO w=true):AB (bk [32] ws):=kN (p:=fun x=>x<256/\x≠10) ⟨by decide,by decide⟩ ws fun w hw x hx=>⟨(qU (h w hw) x hx).1,(qU (h w hw) x hx).2.1⟩
theorem dX {ws:List (List Nat)} (ne:ws≠[]) (h:∀w∈ws,lO w=true):bn 32 (bk [32] ws)=ws:=iy 32 ws ne fun w hw x hx=>(qU (h w hw) x hx).2.2
theorem fN.word {c:bh} (h:fN c):lO (Mine.word c)=true:=by
 have zz:=Bm _ h.s;delta Mine.word
 cases decide ((c.w:Int)=2)
 ·exact (zz.2.2.2.2.2.1)
 ·exact (zz.2.2.2.2.1)
noncomputable def lJ (c:bh):Prop:=fN c/\(c.w=1\/c.w=2)
structure tW (g:Gr):Prop where
 ne:g.2≠[]
 c:∀c∈g.2,lJ c/\c.p=g.1
theorem tW.pen {g:Gr} (h:tW g):∃e,fi e g.1:=by
 have hn:=h.ne;revert hn
 cases e:g.2 with
 | nil=>exact fun h=>absurd rfl h
 | cons c r=>
  intro _;obtain ⟨⟨h1,U⟩,h2⟩:=(h.c) c (e▸ .head _);exact ⟨_,h2▸h1.p⟩
theorem tW.ok {g:Gr} (h:tW g):w8 g:=by
 obtain ⟨e,hp⟩:=h.pen;exact ⟨h.ne,hp.N,fun c hc=>⟨(h.c c hc).1.1.wd (h.c c hc).1.2,(h.c c hc).2⟩⟩
theorem Gv:lO [114,117,110]=true:=rfl
theorem Bi {e:Bool} {p:fg} (h:fi e p):∀w∈dP p,lO w=true:=fun w hw=>by
 delta dP at hw;simp only [au,List.not_mem_nil,or_false] at hw;rcases hw with rfl | rfl | rfl | rfl | rfl
 ·exact Gv
 ·exact (h.W.1)
 ·exact (h.W.2.1)
 ·exact (h.W.2.2.1)
 ·exact (h.W.2.2.2.1)
theorem tW.words {g:Gr} (h:tW g):∀w∈ka g,lO w=true:=fun w hw=>by
 obtain ⟨e,hp⟩:=h.pen;rcases aD.mp hw with hw | hw
 ·exact Bi hp w hw
 ·refine bu (aN.mp hw) fun c hc y11=> ?_;subst y11;exact (h.c c hc).1.1.word
theorem tW.split {g:Gr} (h:tW g):bn 32 (eu g)=ka g:=dX (by delta ka dP;exact a7 _ _) h.words
theorem Bd:∀(r:List bh) (p:fg) (acc:List bh),acc≠[]->(∀c∈acc,lJ c/\c.p=p)->(∀c∈r,0<c.w->lJ c)->flat (gr p acc r)=acc++r.filter (fun c=>Nat.blt 0 c.w)/\(∀g∈gr p acc r,tW g)/\∀o,bw p.v (gi o)=false->fA o (gr p acc r):=by
 intro zl
 induction zl with
 | nil=>
  exact fun p acc ne ha U=>⟨rfl,fun g hg=>(ao.mp hg)▸⟨ne,ha⟩,fun o ho=>⟨ho,trivial⟩⟩
 | cons c r ih=>
  intro p acc ne ha hr;have hr':∀c∈r,0<c.w->lJ c:=fun y hy=>hr y (.tail _ hy);have eg:gr p acc (c::r)=cond (decide ((0:Int)<c.w)) (cond (bw c.p.v p.v) (gr p (acc++[c]) r) ((p,acc)::gr c.p [c] r)) (gr p acc r):=rfl;have ed:decide ((0:Int)<c.w)=Nat.blt 0 c.w:=dM 0 c.w;rw [eg,ed];clear ed eg
  cases e:Nat.blt 0 c.w with
  | false=>
   refine cr fun hn=> ?_;obtain ⟨h1,h2,h3⟩:=ih p acc ne ha hr';refine hn ?_;rw [List.filter_cons_of_neg (by rw [e];exact Bool.false_ne_true)];exact ⟨h1,h2,h3⟩
  | true=>
   have hc:=hr c (.head _) (ad e);rw [List.filter_cons_of_pos (p:=fun c:bh=>Nat.blt 0 c.w) e]
   cases e2:bw c.p.v p.v with
   | true=>
    obtain ⟨h1,h2,h3⟩:=ih p (acc++[c]) (by intro h;cases acc<;>cases h) (fun y hy=>(aD.mp hy).elim (ha y) fun h=>ao.mp h▸⟨hc,Bn e2⟩) hr';exact ⟨by show flat (gr p (acc++[c]) r)=_;(refine ak h1 ?_;refine ak (aw ..) ?_);rfl,h2,h3⟩
   | false=>
    obtain ⟨h1,h2,h3⟩:=ih c.p [c] (a7 _ _) (fun y hy=>by cases ao.mp hy;exact ⟨hc,rfl⟩) hr';exact ⟨by show acc++flat (gr c.p [c] r)=_;rw [h1];rfl,fun g hg=>(au.mp hg).elim (fun h=>h▸⟨ne,ha⟩) (h2 g),fun o ho=>⟨ho,h3 (some p) e2⟩⟩
theorem yG:∀(r:List bh),(∀c∈r,0<c.w->lJ c)->flat (cG r)=r.filter (fun c=>Nat.blt 0 c.w)/\(∀g∈cG r,tW g)/\fA none (cG r):=by
 intro zl
 induction zl with
 | nil=>
  exact fun U=>⟨rfl,fun U h=>(fh h),trivial⟩
 | cons c r ih=>
  intro hr;have hr':∀c∈r,0<c.w->lJ c:=fun y hy=>hr y (.tail _ hy);rw [(show cG (c::r)=cond (decide ((0:Int)<c.w)) (gr c.p [c] r) (cG r) from rfl),(show decide ((0:Int)<c.w)=Nat.blt 0 c.w from dM 0 c.w)]
  cases e:Nat.blt 0 c.w with
  | false=>
   rw [List.filter_cons_of_neg (by rw [e];exact Bool.false_ne_true)];exact ih hr'
  | true=>
   rw [List.filter_cons_of_pos (p:=fun c:bh=>Nat.blt 0 c.w) e];refine cr fun hn=> ?_;obtain ⟨h1,h2,h3⟩:=Bd r c.p [c] (a7 _ _) (fun y hy=>by cases ao.mp hy;exact ⟨(hr c (.head _) (ad e)),rfl⟩) hr';exact hn ⟨h1,h2,h3 none rfl⟩
theorem pe:∀{bs:List bh} {sz:List Nat},(∀c∈bs,xy sz c)->(bV bs).filter (fun c=>Nat.blt 0 c.w)=bs:=by
 intro zl
 induction zl with
 | nil=>
  intro _ _;exact rfl
 | cons b r ihz=>
  intro sz h;have hw:=((h b (.head _)).G).2;have ih:=ihz fun y hy=>h y (.tail _ hy);have hb:Nat.blt 0 b.w=true:=by rcases hw with h | h<;>(rw [h];rfl)
  rw [cq];rcases iB b with e | ⟨U,e⟩<;>rw [e,List.filter_append]
  ·rw [List.filter_cons_of_pos (p:=fun c:bh=>Nat.blt 0 c.w) hb,ih];rfl
  ·rw [List.filter_cons_of_pos (p:=fun c:bh=>Nat.blt 0 c.w) hb,ih];rfl
theorem LnG.gs {n:Nat} {l:Ln} (h:LnG n l):bV (flat (cG l.cs))=l.cs/\(∀g∈cG l.cs,tW g)/\fA none (cG l.cs)/\(flat (cG l.cs)).length<=n:=by
 refine cr fun hn=> ?_;obtain ⟨bs,hb,e⟩:=h.bs;refine hn ?_
 have hw:∀c∈l.cs,0<c.w->lJ c:=fun c hc hw=>⟨h.G c hc,by
  have:=(h.G c hc).w;lia⟩
 refine cr fun hn=> ?_;obtain ⟨h1,h2,h3⟩:=yG l.cs hw;exact hn ⟨by rw [(show flat (cG l.cs)=bs by (refine ak h1 ?_;rw [e]);exact pe hb),e],h2,h3,by rw [h1];exact aj (List.length_filter_le _ _) (Nat.le_of_eq h.len)⟩
section
variable {α β:Type} {f:α->List β}
noncomputable def eG (f:α->List β) (ls:List α) (j:Nat):Nat:=((ls.take j).map f).flatten.length
theorem rM:∀(ls:List α) (k:Nat) (x:β),((ls.map f).flatten)[k]? =some x->∃j l i,ls[j]? =some l/\(f l)[i]? =some x/\k=eG f ls j+i:=by
 intro zl
 induction zl with
 | nil=>
  exact fun U U h=>bZ h
 | cons a r ih=>
  intro k x h;rw [aR,List.flatten_cons,List.getElem?_append] at h
  by_cases hk:k<(f a).length
  ·rw [if_pos hk] at h;exact ⟨0,a,k,rfl,h,(Nat.zero_add k).symm⟩
  ·rw [if_neg hk] at h;obtain ⟨j,l,i,h1,h2,h3⟩:=ih _ x h;refine ⟨j+1,l,i,h1,h2, ?_⟩;show k=((a::r.take j).map f).flatten.length+i;refine bi aR ?_;refine bi List.flatten_cons ?_;refine bi ai ?_;delta eG at h3;omega
theorem oX (ls:List α):∀(j:Nat) (l:α) (i:Nat),ls[j]? =some l->i<(f l).length->((ls.map f).flatten)[eG f ls j+i]? =(f l)[i]? :=by
 induction ls with
 | nil=>exact fun U U U h U=>bZ h
 | cons a r ih=>
  intro j l i h hi
  cases j with
  | zero=>
   rw [<-bW h] at hi ⊢;show ((f a)++_)[0+i]? =_;rw [Nat.zero_add];exact List.getElem?_append_left hi
  | succ j=>
   show ((f a)++_)[((a::r.take j).map f).flatten.length+i]? =_;rw [aR,List.flatten_cons,ai,Nat.add_assoc];refine ak (List.getElem?_append_right (aP _ _)) ?_;rw [Nat.add_sub_cancel_left];exact ih j l i h hi
theorem jN {ls:List α} {j:Nat} {l:α} (h:ls[j]? =some l):eG f ls (j+1)=eG f ls j+(f l).length:=by
 delta eG;(refine bi (mt h) ?_;refine ak (ai ..) ?_;rfl)
theorem wI {ls:List α} {j k:Nat} (h:j<=k):eG f ls j<=eG f ls k:=by
 induction h with
 | refl=>exact av _
 | @step m h ih=>
  refine aj ih ?_
  cases e:ls[m]? with
  | none=>
   have hm:ls.length<=m:=List.getElem?_eq_none_iff.mp e;delta eG;refine bi (List.take_of_length_le hm) ?_;refine bi (List.take_of_length_le (Nat.le_succ_of_le hm)) ?_;exact av _
  | some l=>refine bi (jN e) ?_;exact aP _ _
end
theorem wm:∀(a b:List Gr) (o:Option fg),fA o (a++b)->fA o a/\fA (ik o a) b:=by
 intro zl
 induction zl with
 | nil=>
  exact fun U U h=>⟨trivial,h⟩
 | cons g a ih=>
  intro b o h;refine fI h fun h1 h2=> ?_;exact let ⟨h3,h4⟩:=ih b (some g.1) h2;⟨⟨h1,h3⟩,h4⟩
theorem rn:∀(a:List Gr) (g:Gr) (o:Option fg),fA o a->bw g.1.v (gi (ik o a))=false->fA o (a++[g]):=by
 intro zl
 induction zl with
 | nil=>
  exact fun U U U h=>⟨h,trivial⟩
 | cons x a ih=>
  exact fun g o h hg=>⟨h.1,ih g (some x.1) h.2 hg⟩
theorem qA:∀(a:List Gr) (g:Gr) (o:Option fg),ik o (a++[g])=some g.1:=by
 intro zl
 induction zl with
 | nil=>
  exact fun U U=>rfl
 | cons x a ih=>
  exact fun g U=>ih g (some x.1)
theorem fR (a b:List Gr):flat (a++b)=flat a++flat b:=by delta flat;(refine bi aJ ?_;refine ak (List.flatten_append ..) ?_;rfl)
theorem jt {B:List (List Nat)}:∀(gs:List Gr) (n:Nat),(∀g∈gs,tW g)->(∀(i:Nat) (g:Gr),gs[i]? =some g->B[n+i]? =some (eu g))->gI B n gs:=by
 intro zl
 induction zl with
 | nil=>
  exact fun U U U=>trivial
 | cons g r ih=>
  exact fun n hg h=>⟨by
    delta cv;refine bi (show B[n]? =some (eu g) from h 0 g rfl) ?_;exact (hg g (.head _)).split,ih (n+1) (fun y hy=>hg y (.tail _ hy)) fun i x hx=>by rw [Nat.add_assoc,Nat.add_comm 1];exact h (i+1) x hx⟩
noncomputable def offs (P:Pc) (j:Nat):Nat:=2+eG dF P.ls j
section
variable {P:Pc} {j:Nat} {l:Ln} {B:List (List Nat)} {i k:Nat} {x:List Nat} {g:Gr}
theorem jo (h:P.ls[j]? =some l):offs P (j+1)=offs P j+1+(cG l.cs).length:=by
 delta offs;refine bi (jN h) ?_;show _+(_+((cG l.cs).map eu).length.succ)=_;rw [ah];lia
theorem e8:offs P P.ls.length=(bj P).length:=by
 delta offs eG bj;refine bi List.take_length ?_;show 2+_=_+1+1;exact Nat.add_comm _ _
theorem t5 {k:Nat} (h:j<=k):offs P j<=offs P k:=Nat.add_le_add_left (wI h) 2
theorem gK (h:P.ls[j]? =some l):(bj P)[offs P j]? =some (dh l):=by
 have:=oX (f:=dF) P.ls j l 0 h (Nat.succ_pos _);delta offs;rw [Nat.add_comm 2];exact this
theorem jX (h:P.ls[j]? =some l) (hg:(cG l.cs)[i]? =some g):(bj P)[offs P j+1+i]? =some (eu g):=by
 have hi:=(aM.mp hg).1;have:=oX (f:=dF) P.ls j l (i+1) h (by show i+1<((cG l.cs).map eu).length+1;rw [ah];exact Nat.succ_lt_succ ‹_›);rw [(show (dF l)[i+1]? =some (eu g) by show ((cG l.cs).map eu)[i]? =_;(refine ak (List.getElem?_map ..) ?_;rw [hg]);rfl)] at this;rw [(show offs P j+1+i=eG dF P.ls j+(i+1)+2 by delta offs;lia)];exact this
theorem gZ (h:(bj P)[k]? =some x):(k=0/\x=iU P)\/(k=1/\x=jT P)\/∃j l,P.ls[j]? =some l/\((k=offs P j/\x=dh l)\/∃i g,(cG l.cs)[i]? =some g/\k=offs P j+1+i/\x=eu g):=by
 match k,h with
 | 0,h=>(replace h:=bW h;subst h);exact .inl ⟨rfl,rfl⟩
 | 1,h=>(replace h:=bW h;subst h);exact .inr (.inl ⟨rfl,rfl⟩)
 | k+2,h=>
  obtain ⟨j,l,i,h1,h2,h3⟩:=rM P.ls k x h;refine .inr (.inr ⟨j,l,h1, ?_⟩);clear h1 h
  match i,h2,h3 with
  | 0,h2,h3=>(replace h2:=bW h2;subst h2);exact .inl ⟨by delta offs;lia,rfl⟩
  | i+1,h2,h3=>
   have h2:((cG l.cs).map eu)[i]? =some x:=h2;rw [List.getElem?_map] at h2;refine cr fun hn=> ?_;obtain ⟨g,hg,rfl⟩:=aL.mp h2;exact hn (.inr ⟨i,g,hg,by delta offs;lia,rfl⟩)
end
theorem GM:∀s∈qS,∀b:Bool,(bn 32 ([108,105,110,101,32]++s++cond b [32,111,110] [32,101,110,100,115])=[[108,105,110,101],s,y8 b])/\(bn 32 ([108,105,110,101,32]++s++cond b [32,111,110] [32,101,110,100,115]++[32,111,110])).length=4/\(([108,105,110,101,32]++s++cond b [32,111,110] [32,101,110,100,115]).all fun x=>Nat.blt x 256 && !(Nat.beq x 10))=true/\([108,105,110,101,32]++s++cond b [32,111,110] [32,101,110,100,115]).length<=60:=by decide+kernel
theorem Ca:∀n∈[0,1,2,3,4,5,6],lO (bo n)=true:=by decide+kernel
theorem in6 {n:Nat} (h:n<=6):n∈[0,1,2,3,4,5,6]:=(by decide:∀n:Nat,n<7->n∈[0,1,2,3,4,5,6]) n (Nat.lt_succ_of_le h)
structure jg (B:List (List Nat)):Prop where
 ne:B≠[]
 n:B.length<=100
 r:∀r∈B,AB r/\r.length<=2000
theorem jg.row {B:List (List Nat)} (h:jg B):∀r∈B,r.length<=10000:=fun r hr=>aj (h.r r hr).2 (by decide)
theorem jg.split {B:List (List Nat)} (h:jg B):bn 10 (bk [10] B)=B:=iy 10 B h.ne fun w hw x hx=>((h.r w hw).1 x hx).2
theorem jg.len {B:List (List Nat)} (h:jg B):(bk [10] B).length<16777216:=az (li (b:=2000) fun w hw=>(h.r w hw).2) (az (Nat.mul_le_mul_left 2001 h.n) (ad rfl))
theorem jg.b {B:List (List Nat)} (h:jg B):∀x∈bk [10] B,x<256:=kN (p:=fun x=>x<256) (by decide) B fun w hw x hx=>((h.r w hw).1 x hx).1
section
variable {P:Pc} {j:Nat} {l:Ln} {B:List (List Nat)} {i k m:Nat} {x:List Nat} {g:Gr}
theorem xx:(dh l).take 4=gp:=rfl
theorem xL:(eu g).take 4=iX:=rfl
theorem pv:(iU P).take 4=[112,105,99,116]:=rfl
theorem pF:(jT P).take 4=[99,117,114,115]:=rfl
theorem cL.pw (hP:cL P):∀w∈[[112,105,99,116,117,114,101],bo P.ls.length,bo P.c],lO w=true:=fun w hw=>by
 simp only [au,List.not_mem_nil,or_false] at hw;rcases hw with rfl | rfl | rfl
 ·rfl
 ·exact Ca _ (in6 (aj hP.n3 (by decide)))
 ·exact Ca _ (in6 hP.c6)
theorem cL.cw (hP:cL P):∀w∈[[99,117,114,115,111,114],bo P.r0,bo P.c0,ow P.sh],lO w=true:=fun w hw=>by
 simp only [au,List.not_mem_nil,or_false] at hw;rcases hw with rfl | rfl | rfl | rfl
 ·rfl
 ·exact Ca _ (in6 hP.L.r0)
 ·exact Ca _ (in6 hP.L.c0)
 ·cases P.sh<;>rfl
theorem cL.rowOk (hP:cL P) (h:x∈bj P):AB x/\x.length<=1300:=by
 obtain ⟨k,hk,e⟩:=List.getElem_of_mem h;clear h;rcases gZ (e▸an hk:(bj P)[k]? =some x) with ⟨U,rfl⟩ | ⟨U,rfl⟩ | ⟨j,l,hj,⟨U,rfl⟩ | ⟨i,g,hg,U,rfl⟩⟩
 ·exact ⟨mJ hP.pw,aj (li (b:=100) fun w hw=>by
   simp only [au,List.not_mem_nil,or_false] at hw;rcases hw with rfl | rfl | rfl
   ·exact ad rfl
   ·exact cZ _
   ·exact cZ _) (ad rfl:101*3<=1300)⟩
 ·exact ⟨mJ hP.cw,aj (li fun w hw=>by
   simp only [au,List.not_mem_nil,or_false] at hw;rcases hw with rfl | rfl | rfl | rfl
   ·exact ad rfl
   ·exact cZ _
   ·exact cZ _
   ·cases P.sh<;>exact ad rfl) (ad rfl:101*4<=1300)⟩
 ·have hm:=aq hj;refine cr fun hn=> ?_;have zz:=GM _ (hP.ls l hm).sz l.on;refine hn ⟨fun y hy=> ?_,aj (zz.2.2.2) (by decide)⟩;obtain ⟨a1,a2⟩:=ay.mp (aG.mp (zz.2.2.1) y hy);exact ⟨ad a1,fun r=>by rw [r] at a2;exact cR a2⟩
 ·have hm:=aq hj;refine cr fun hn=> ?_;have h2:=((hP.ls l hm).gs).2.1;exact hn ⟨mJ (h2 g (aq hg)).words,aj ((eR hP.L.toPcP hm).2 _ (.tail _ (List.mem_map_of_mem (aq hg)))) (by decide)⟩
theorem cL.rowsN (hP:cL P):(bj P).length<=23:=by
 show (P.ls.map dF).flatten.length+1+1<=23
 have:(P.ls.map dF).flatten.length<=7*(P.ls.map dF).length:=jb fun x hx=>by
  obtain ⟨l,hl,rfl⟩:=aN.mp hx;exact (eR hP.L.toPcP hl).1
 rw [ah] at this;have:=hP.n3;lia
theorem cL.bok (hP:cL P):jg (bj P):=⟨a7 _ _,aj hP.rowsN (by decide),fun r hr=>⟨(hP.rowOk hr).1,aj (hP.rowOk hr).2 (by decide)⟩⟩
theorem xj (hP:cL P) (hr:∀r∈B,r.length<=10000) (hj:P.ls[j]? =some l) (ag:∀m,m<offs P (j+1)->B[m]? =(bj P)[m]?) (nx:gt B (offs P (j+1))=false):jr B (offs P j) P.c l (offs P (j+1)):=by
 have hl:=hP.ls l (aq hj);refine cr fun hn=> ?_;obtain ⟨h1,h2,h3,h4⟩:=hl.gs;refine hn ?_;rw [(jo hj)] at nx ag ⊢
 have e1:cv B (offs P j)=[[108,105,110,101],l.sz,y8 l.on]:=by
  delta cv;rw [ag _ (by lia),gK hj];exact (GM _ hl.sz l.on).1
 have hR:gI B (offs P j+1) (cG l.cs):=jt _ _ h2 fun i g hg=>by
  have hi:=(aM.mp hg).1;refine ak (ag _ (by lia)) ?_;exact jX hj hg
 have:=AS hr e1 hl.sz hR h3 (fun g hg=>(h2 g hg).ok) (by have:=hP.c6;lia) nx (by rw [h1];exact hl.len) (aj hP.c6 (by decide));rw [h1] at this;exact this
theorem iW {r:List (List Nat)} {n:Nat} (h:cv r n=[]\/∃w ws,cv r n=w::ws/\(w==[114,117,110])=false):gt r n=false:=by
 show (gL r n==_)=false;delta gL;rcases h with h | ⟨w,ws,h,e⟩
 ·refine bi h ?_;rfl
 ·refine bi h ?_;exact e
theorem i7 (hP:cL P) (hj:P.ls[j]? =some l) (h:B[k]? =some (dh l)):gt B k=false:=by
 refine iW (.inr ⟨[108,105,110,101],[l.sz,y8 l.on], ?_,rfl⟩);delta cv;refine bi h ?_;exact (GM _ (hP.ls l (aq hj)).sz l.on).1
theorem kf (h:B[k]? =none):gt B k=false:=iW (.inl (by delta cv;refine bi h ?_;rfl))
theorem iA (hP:cL P) (hr:∀r∈B,r.length<=10000) {J:Nat} (hJ:J<=P.ls.length) (ag:∀m,m<offs P J->B[m]? =(bj P)[m]?) (nx:gt B (offs P J)=false):∀k l,k<J->P.ls[k]? =some l->jr B (offs P k) P.c l (offs P (k+1)):=fun k l hk hl=>by
 refine xj hP hr hl (fun m hm=>ag m (a8 hm (t5 hk))) ?_;rcases Nat.lt_or_eq_of_le (show k+1<=J from hk) with h | h
 ·have hlt:k+1<P.ls.length:=a8 h hJ;have hl':=an hlt;refine i7 hP hl' ?_
  (refine ak (ag _ (by have:=t5 (P:=P) (h);have:=jo hl';lia)) ?_)
  exact gK hl'
 ·refine bi h ?_;exact nx
theorem mW (hP:cL P) (hB:jg B) {m0 m1:List (List Nat)} (h0:∃x,B[0]? =some x/\bn 32 x=BR::bo P.ls.length::bo P.c::m0) (h1:∃x,B[1]? =some x/\bn 32 x=B8::bo P.r0::bo P.c0::ow P.sh::m1):Txt (bk [10] B) B P m0 m1:=
 ⟨hB.split,hB.len,aj hB.n (by decide),hB.row,h0,h1,hP.n1,hP.n3,hP.c0,hP.c6,hP.r0⟩
theorem cL.s0 (hP:cL P):bn 32 (iU P)=BR::bo P.ls.length::bo P.c::[]:=dX (a7 _ _) hP.pw
theorem cL.s1 (hP:cL P):bn 32 (jT P)=B8::bo P.r0::bo P.c0::ow P.sh::[]:=dX (a7 _ _) hP.cw
end
theorem xl {Y:be} {Q X:KV} {P:Pc} (hP:cL P) (q:∀a Y',bJ Y' a P->du Y Y'->Q (.ref a) Y'):bd (Gm 35) 35 [.bytes (bk [10] (bj P))] Y Q X:=by
 refine q35 (mW hP hP.bok ⟨_,rfl,hP.s0⟩ ⟨_,rfl,hP.s1⟩) rfl (av _) (iA hP hP.bok.row (av _) (fun U U=>rfl) (kf (show (bj P)[offs P P.ls.length]? =none by refine bi e8 ?_;exact List.getElem?_eq_none (av _)))) (fun h=>absurd h (Nat.lt_irrefl _)) (fun U h=> ?_) fun U U=>q;rw [e8] at h;exact absurd h (Nat.lt_irrefl _)
noncomputable def cT (B:List (List Nat)) (m:Nat):Prop:=∀(Y:be) (Q X:KV),(∀Y',qi Y Y'->X (bc m) Y')->bd (Gm 35) 35 [.bytes (bk [10] B)] Y Q X
theorem sj {a b:List Nat} (h:AB a) (h':AB b):AB (a++b):=fun x hx=>(aD.mp hx).elim (h x) (h' x)
theorem ur {a:List Nat} (h:(a.all fun x=>Nat.blt x 256 && !(Nat.beq x 10))=true):AB a:=fun y hy=>by
 obtain ⟨a1,a2⟩:=ay.mp (aG.mp h y hy);exact ⟨ad a1,fun r=>by rw [r] at a2;exact cR a2⟩
theorem i3:∀cs:List bh,cs.length<=(bV cs).length/\(bV cs).length<=2*cs.length:=by
 intro zl
 induction zl with
 | nil=>
  exact ⟨av _,av _⟩
 | cons c r ih=>
  obtain ⟨h1,h2⟩:=ih;rw [cq,ai,ba];rcases iB c with e | ⟨U,e⟩<;>rw [e]
  ·show _<=1+_/\1+_<=_;lia
  ·show _<=2+_/\2+_<=_;lia
section
variable {P:Pc} {j:Nat} {l:Ln} {B:List (List Nat)} {i k m:Nat} {x y:List Nat} {g:Gr} {gs:List Gr}
theorem mH {T:List (List Nat)} (hk:k<T.length):(∀m,m<k->(T.take k++[y]++T.drop (k+1))[m]? =T[m]?)/\(T.take k++[y]++T.drop (k+1))[k]? =some y:=by
 have hl:(T.take k).length=k:=by refine ak (aV ..) ?_;lia
 constructor
 ·intro m hm;rw [aw,List.getElem?_append_left (by refine bi hl ?_;exact hm),List.getElem?_take,if_pos hm]
 ·rw [aw,List.getElem?_append_right (by refine bi hl ?_;exact av _),hl,Nat.sub_self];rfl
theorem nE (hP:cL P) (hy:AB y/\y.length<=2000):jg ((bj P).take k++[y]++(bj P).drop (k+1)):=by
 refine ⟨by intro h;have:=aB List.length h;rw [ai,ai] at this;exact absurd this (by show _+1+_≠0;lia), ?_,fun r hr=> ?_⟩
 ·have:=hP.rowsN;refine bi ai ?_;refine bi ai ?_;refine bi aV ?_;refine bi List.length_drop ?_;show min k _+1+_<=100;omega
 ·rcases aD.mp hr with hr | hr
  ·rcases aD.mp hr with hr | hr
   ·exact hP.bok.r r (List.mem_of_mem_take hr)
   ·cases ao.mp hr;exact hy
  ·exact hP.bok.r r (List.mem_of_mem_drop hr)
theorem x4 (hP:cL P) (hB:jg B) (h0:B[0]? =(bj P)[0]?) (h1:B[1]? =(bj P)[1]?):Txt (bk [10] B) B P [] []:=mW hP hB ⟨_,h0,hP.s0⟩ ⟨_,h1,hP.s1⟩
theorem fm (hP:cL P) (hB:jg B) (hj:P.ls[j]? =some l) (ag:∀m,m<offs P j->B[m]? =(bj P)[m]?) (nx:gt B (offs P j)=false) (bad:f7 B (offs P j) P.c m):cT B m:=fun Y Q X hX=>by
 have hlt:j<P.ls.length:=(aM.mp hj).1;have h2:2<=offs P j:=aP 2 _;exact q35 (x4 hP hB (ag 0 (by exact a6 ‹_›)) (ag 1 (by assumption))) rfl (a6 hlt) (iA hP hB.row (a6 hlt) ag nx) (fun U=>⟨m,bad,hX⟩) (fun h=>absurd hlt (h▸Nat.lt_irrefl _)) fun h=>absurd hlt (h▸Nat.lt_irrefl _)
theorem oy (hP:cL P) (hj:P.ls[j]? =some l) (h:B[offs P j]? =some (dh l)):cv B (offs P j)=[[108,105,110,101],l.sz,y8 l.on]:=by
 delta cv;refine bi h ?_;exact (GM _ (hP.ls l (aq hj)).sz l.on).1
theorem qT {g:Gr} {w:List Nat}:eu g++[32]++w=bk [32] (ka g++[w]):=(dD [32] w (ka g) (by delta ka dP;exact a7 _ _)).symm
theorem mx {α:Type} {a:List α} {i:Nat} {x:α} (h:a[i]? =some x):a.take (i+1)=a.take i++[x]:=by (refine ak (List.take_add_one ..) ?_;refine bi h ?_);rfl
theorem k8 {α:Type} {a:List α} {i:Nat} {x:α} (h:a[i]? =some x):a=a.take i++x::a.drop (i+1):=by
 obtain ⟨hi,e⟩:=aM.mp h;refine rt e ?_;rw [List.getElem_cons_drop,List.take_append_drop]
theorem fX (hP:cL P) (hB:jg B) (hj:P.ls[j]? =some l) (n:Nat) (hn:n<=(cG l.cs).length) (ag:∀m,m<offs P j+1+n->B[m]? =(bj P)[m]?) (nx:gt B (offs P j+1+n)=true) (bad:∀a dx Y C (Q X:KV),Rd Y a dx B (offs P j+1+n)->Y C=some (.list ((bV (flat ((cG l.cs).take n))).map bh.v))->(∀Y',Kp dx Y Y'->X (bc m) Y')->bd (Gm 33) 33 [.ref a, .ref C,gi (ik none ((cG l.cs).take n))] Y Q X):cT B m:=by
 have hm:=aq hj;have hl:=hP.ls l hm;have h2:=hl.gs.2.1;have h4:=hl.gs.2.2.2;have htl:((cG l.cs).take n).length=n:=by refine ak (aV ..) ?_;exact Nat.min_eq_left hn
 have hhead:B[offs P j]? =some (dh l):=(ag _ (by exact aP _ _)).trans (gK hj);refine fm hP hB hj (fun m hm=>ag m (by lia)) (i7 hP hj hhead) ?_;have hc3:=(wm ((cG l.cs).take n) ((cG l.cs).drop n) none (by rw [List.take_append_drop];exact (hl.gs.2.2.1))).1
 have hfl:(flat ((cG l.cs).take n)).length<=6:=by
  have:=fR ((cG l.cs).take n) ((cG l.cs).drop n);rw [List.take_append_drop] at this;rw [this,ai] at h4;have:=hP.c6;lia
 refine Aw (gs:=(cG l.cs).take n) hB.row (oy hP hj hhead) hl.sz (jt _ _ (fun g hg=>h2 g (List.mem_of_mem_take hg)) fun i g hg=> ?_) hc3 (fun g hg=>(h2 g (List.mem_of_mem_take hg)).ok) (by lia) (by rw [htl];exact nx) (by rw [htl];exact bad);rw [List.getElem?_take] at hg
 by_cases hi:i<n
 ·rw [if_pos hi] at hg;refine ak (ag _ (by lia)) ?_;exact jX hj hg
 ·rw [if_neg hi] at hg;exact bZ hg
theorem vN (hP:cL P) (hj:P.ls[j]? =some l) (hg:(cG l.cs)[i]? =some g):((bV (flat ((cG l.cs).take i))).map bh.v).length+2*g.2.length<=100:=by
 refine cr fun hn=> ?_;obtain ⟨h1,h2,h3,h4⟩:=(hP.ls l (aq hj)).gs;refine hn ?_;have:=fR ((cG l.cs).take i) (g::(cG l.cs).drop (i+1));rw [<-k8 hg,show flat (g::(cG l.cs).drop (i+1))=g.2++flat ((cG l.cs).drop (i+1)) from rfl] at this;rw [this,ai,ai] at h4;have:=(i3 (flat ((cG l.cs).take i))).2;have:=hP.c6;rw [ah];lia
theorem oK (h:x.take 4=gp) (hk:(bj P)[k]? =some x):∃j l,P.ls[j]? =some l/\k=offs P j/\x=dh l:=by
 rcases gZ hk with ⟨U,rfl⟩ | ⟨U,rfl⟩ | ⟨j,l,hj,⟨h1,h2⟩ | ⟨i,g,hg,U,rfl⟩⟩
 ·dsimp only [pv] at h;contradiction
 ·dsimp only [pF] at h;contradiction
 ·exact ⟨j,l,hj,h1,h2⟩
 ·dsimp only [xL] at h;contradiction
theorem rg (h:x.take 4=iX) (hk:(bj P)[k]? =some x):∃j l i g,P.ls[j]? =some l/\(cG l.cs)[i]? =some g/\k=offs P j+1+i/\x=eu g:=by
 rcases gZ hk with ⟨U,rfl⟩ | ⟨U,rfl⟩ | ⟨j,l,hj,⟨U,rfl⟩ | ⟨i,g,hg,h1,h2⟩⟩
 ·dsimp only [pv] at h;contradiction
 ·dsimp only [pF] at h;contradiction
 ·dsimp only [xx] at h;contradiction
 ·exact ⟨j,l,i,g,hj,hg,h1,h2⟩
end
section
variable {P:Pc} {j:Nat} {l:Ln} {B:List (List Nat)} {i k m:Nat} {x y:List Nat} {g:Gr} {gs:List Gr}
theorem fL {T:List (List Nat)} (h:T[k]? =some x):k<T.length:=(aM.mp h).1
theorem iZ {ws:List (List Nat)} (h:cv B k=[114,117,110]::ws):gt B k=true:=by
 show (gL B k==_)=true;delta gL;refine bi h ?_;rfl
theorem sH (hP:cL P) (hj:P.ls[j]? =some l) (hg:(cG l.cs)[i]? =some g):tW g:=(hP.ls l (aq hj)).gs.2.1 g (aq hg)
theorem q7 (hP:cL P) (hx:(bj P)[k]? =some x) {s:List Nat} (hs:AB s) (hl:s.length<=5):AB (x++s)/\(x++s).length<=2000:=by
 refine fI (hP.rowOk (aq hx)) fun h1 h2=> ?_;exact ⟨sj h1 hs,by refine bi ai ?_;lia⟩
theorem GK (hP:cL P) (hk:k<2) (hx:(bj P)[k]? =some x):jg ((bj P).take k++[x++[32,49]]++(bj P).drop (k+1))/\cT ((bj P).take k++[x++[32,49]]++(bj P).drop (k+1)) (k+1):=by
 have hB:=nE (k:=k) hP (q7 hP hx (s:=[32,49]) (ur rfl) (by decide));refine ⟨hB,fun Y Q X hX=> ?_⟩;have w1:lO [49]=true:=rfl
 match k,hk,hx with
 | 0,U,hx=>
  (replace hx:=bW hx;subst hx)
  refine q35a (P:=P) (m0:=[[49]]) (mW hP hB ⟨_,rfl, ?_⟩ ⟨_,rfl,hP.s1⟩) (a7 _ _) hX
  have e:iU P++[32,49]=bk [32] ([[112,105,99,116,117,114,101],bo P.ls.length,bo P.c]++[[49]]):=by
   rw [dD [32] [49] _ (a7 _ _),aw];rfl
  refine bi e ?_;exact dX (a7 _ _) fun w hw=>(aD.mp hw).elim (hP.pw w) fun h=>ao.mp h▸w1
 | 1,U,hx=>
  (replace hx:=bW hx;subst hx)
  refine q35b (m1:=[[49]]) (mW hP hB ⟨_,rfl,hP.s0⟩ ⟨_,rfl, ?_⟩) (a7 _ _) hX
  have e:jT P++[32,49]=bk [32] ([[99,117,114,115,111,114],bo P.r0,bo P.c0,ow P.sh]++[[49]]):=by
   rw [dD [32] [49] _ (a7 _ _),aw];rfl
  refine bi e ?_;exact dX (a7 _ _) fun w hw=>(aD.mp hw).elim (hP.cw w) fun h=>ao.mp h▸w1
theorem Fk (hP:cL P) (hx:(bj P)[k]? =some x) (h4:x.take 4=gp):jg ((bj P).take k++[x++[32,111,110]]++(bj P).drop (k+1))/\cT ((bj P).take k++[x++[32,111,110]]++(bj P).drop (k+1)) (k+1):=by
 have hB:=nE (k:=k) hP (q7 hP hx (s:=[32,111,110]) (ur rfl) (by decide));refine ⟨hB, ?_⟩;refine cr fun hn=> ?_;obtain ⟨j,l,hj,rfl,rfl⟩:=oK h4 hx;obtain ⟨g1,g2⟩:=mH (fL hx);refine hn ?_;have ew:cv ((bj P).take (offs P j)++[dh l++[32,111,110]]++(bj P).drop (offs P j+1)) (offs P j)=bn 32 (dh l++[32,111,110]):=by delta cv;rw [g2]
 refine fm hP hB hj g1 (iW (.inr ?_)) (GS hB.row ?_)
 ·rw [ew];exact ⟨_,_,rfl,rfl⟩
 ·rw [ew];have:(bn 32 (dh l++[32,111,110])).length=4:=((GM _ (hP.ls l (aq hj)).sz l.on).2.1);rw [this];decide
theorem EO (hP:cL P) (hx:(bj P)[k]? =some x) (h4:x.take 4=iX):jg ((bj P).take k++[x++[32,50,48]]++(bj P).drop (k+1))/\cT ((bj P).take k++[x++[32,50,48]]++(bj P).drop (k+1)) (k+1):=by
 have hB:=nE (k:=k) hP (q7 hP hx (s:=[32,50,48]) (ur rfl) (by decide));refine ⟨hB, ?_⟩;refine cr fun hn=> ?_;obtain ⟨j,l,i,g,hj,hg,rfl,rfl⟩:=rg h4 hx;obtain ⟨g1,g2⟩:=mH (y:=eu g++[32,50,48]) (fL hx);refine hn ?_;have hgg:=sH hP hj hg
 have ew:cv ((bj P).take (offs P j+1+i)++[eu g++[32,50,48]]++(bj P).drop (offs P j+1+i+1)) (offs P j+1+i)=dP g.1++(g.2++[(⟨[32],1,g.1⟩:bh)]).map word:=by
  delta cv;rw [g2];show bn 32 (eu g++[32,50,48])=_;rw [(show eu g++[32,50,48]=bk [32] (ka g++[[50,48]]) by rw [<-qT,aw];rfl),dX (by intro h;have:=aB List.length h;rw [ai] at this;contradiction) fun w hw=>(aD.mp hw).elim (hgg.words w) fun h=>ao.mp h▸rfl,bq];rfl
 obtain ⟨e,hp⟩:=hgg.pen;refine fX hP hB hj i (a6 (aM.mp hg).1) g1 (iZ (ws:=_) ew) fun a dx Y C Q X h hC hX=> ?_;refine q33 h hB.row ew (by intro h;have:=aB List.length h;rw [ai] at this;contradiction) hp.N hgg.ok.c (fun c hc=> ?_) hC (vN hP hj hg) (ad rfl) (fun U Y'=>hX Y') fun U h=>qm h
 cases ao.mp hc
 exact ⟨⟨show [32]∈Bv by decide+kernel, .inl rfl,rfl⟩,rfl⟩
theorem Cr (hP:cL P) (hx:(bj P)[k]? =some x) (h4:x.take 4=iX):jg ((bj P).take (k+1)++(bj P).drop k)/\cT ((bj P).take (k+1)++(bj P).drop k) (k+2):=by
 have hk:=fL hx;have hl:((bj P).take (k+1)).length=k+1:=by refine ak (aV ..) ?_;exact Nat.min_eq_left hk
 have hB:jg ((bj P).take (k+1)++(bj P).drop k):=by
  refine ⟨by intro h;have:=aB List.length h;rw [ai,hl] at this;exact absurd this (by show k+1+_≠0;lia), ?_,fun r hr=>(aD.mp hr).elim (fun h=>hP.bok.r r (List.mem_of_mem_take h)) fun h=>hP.bok.r r (List.mem_of_mem_drop h)⟩;have:=hP.rowsN;refine bi ai ?_;refine bi hl ?_;refine bi List.length_drop ?_;lia
 refine ⟨hB, ?_⟩;clear hk Cr;refine EG (rg h4 hx) fun j l i y1=> ?_;refine Eb y1 fun g hj hg y2 y3=> ?_;subst y2;subst y3;have hgg:=sH hP hj hg;refine dU (hgg.pen) fun e hp=> ?_
 have g1:∀m,m<offs P j+1+(i+1)->((bj P).take (offs P j+1+i+1)++(bj P).drop (offs P j+1+i))[m]? =(bj P)[m]? :=fun m hm=>by
  have hm:m<offs P j+1+i+1:=hm;refine bi (List.getElem?_append_left (by refine bi hl ?_;exact hm)) ?_;refine bi (List.getElem?_take) ?_;refine bi (if_pos hm) ?_;rfl
 have g2:((bj P).take (offs P j+1+i+1)++(bj P).drop (offs P j+1+i))[offs P j+1+(i+1)]? =some (eu g):=by
  refine bi (List.getElem?_append_right (by refine bi hl ?_;exact av _)) ?_;refine bi hl ?_;refine bi (List.getElem?_drop) ?_;have:offs P j+1+i+(offs P j+1+(i+1) - (offs P j+1+i+1))=offs P j+1+i:=by lia
  refine bi this ?_;exact hx
 have ew:cv ((bj P).take (offs P j+1+i+1)++(bj P).drop (offs P j+1+i)) (offs P j+1+(i+1))=dP g.1++(g.2++[]).map word:=by
  delta cv;refine bi g2 ?_;rw [aE];exact hgg.split
 refine fX hP hB hj (i+1) ((aM.mp hg).1) g1 (iZ (ws:=_) ew) fun a dx Y C Q X h hC hX=> ?_
 have hac:((bV (flat ((cG l.cs).take (i+1)))).map bh.v).length+2*g.2.length<=100:=by
  have h1:=vN hP hj hg;have h2:=(i3 (flat ((cG l.cs).take (i+1)))).2;have h3:flat ((cG l.cs).take (i+1))=flat ((cG l.cs).take i)++(g.2++[]):=by refine bi (mx hg) ?_;rw [fR];rfl
  have h4:=(hP.ls l (aq hj)).gs.2.2.2;have h5:=fR ((cG l.cs).take i) (g::(cG l.cs).drop (i+1));rw [<-k8 hg,show flat (g::(cG l.cs).drop (i+1))=g.2++flat ((cG l.cs).drop (i+1)) from rfl] at h5;rw [h5,ai,ai] at h4;rw [h3,aE,ai] at h2;have:=hP.c6;rw [ah,h3,aE];lia
 exact q33 (bs:=[]) h hB.row ew (by rw [aE];exact hgg.ne) hp.N hgg.ok.c (fun U h=>nomatch h) hC hac (aX _) (fun U Y'=>hX Y') fun h U=>by
  rw [(show ik none ((cG l.cs).take (i+1))=some g.1 by refine bi (mx hg) ?_;exact qA _ _ _)] at h;have h:bw g.1.v g.1.v=false:=h;rw [pI] at h;cases h
theorem F6 (hP:cL P) (hx:(bj P)[k]? =some x) (h4:x.take 4=gp):jg ((bj P).take k)/\cT ((bj P).take k) (k+1):=by
 have hk:=fL hx;have hl:((bj P).take k).length=k:=by refine ak (aV ..) ?_;exact Nat.min_eq_left (a6 hk)
 refine cr fun hn=> ?_;obtain ⟨j,l,hj,rfl,rfl⟩:=oK h4 hx;refine hn ?_;have hB:jg ((bj P).take (offs P j)):=⟨by intro h;have:=aB List.length h;rw [hl] at this;exact absurd this (by show 2+_≠0;lia),by have:=hP.rowsN;rw [hl];lia,fun r hr=>hP.bok.r r (List.mem_of_mem_take hr)⟩;have hn:((bj P).take (offs P j))[offs P j]? =none:=List.getElem?_eq_none (Nat.le_of_eq hl);refine ⟨hB,fm hP hB hj (fun m hm=>by (refine ak (List.getElem?_take ..) ?_;rw [if_pos hm])) (kf hn) (GS hB.row ?_)⟩;delta cv;rw [hn];decide
end
section
variable {P:Pc} {j:Nat} {l:Ln} {B:List (List Nat)} {i k m:Nat} {x y:List Nat} {g:Gr} {gs:List Gr}
theorem DU (hP:cL P) (hx:x∈bj P):jg (bj P++[x]):=by
 refine ⟨nofun, ?_,fun r hr=>(aD.mp hr).elim (hP.bok.r r) fun h=>ao.mp h▸hP.bok.r x hx⟩;have:=hP.rowsN;refine bi ai ?_;show _+1<=100;exact az ‹_› (ad rfl)
theorem DJ (hP:cL P) (hg:tW g) (h6:g.2.length<=6) (hB:jg (bj P++[eu g])):cT (bj P++[eu g]) ((bj P).length+1):=by
 have h0:P.ls.length - 1<P.ls.length:=by have:=hP.n1;lia
 obtain ⟨l,hl⟩:∃l,P.ls[P.ls.length - 1]? =some l:=⟨_,(an h0)⟩;have hm:=aq hl;have hlg:=hP.ls l hm;refine Ad (hlg.gs) fun h1 h2 h3 h4=> ?_
 have eo:offs P (P.ls.length - 1)+1+(cG l.cs).length=(bj P).length:=by
  refine rt (jo hl) ?_;refine bi (show P.ls.length - 1+1=P.ls.length by lia) ?_;exact e8
 have ag:∀m,m<(bj P).length->(bj P++[eu g])[m]? =(bj P)[m]? :=fun m hm=>List.getElem?_append_left hm;have gx:(bj P++[eu g])[(bj P).length]? =some (eu g):=List.getElem?_concat_length ..;refine dU (hg.pen) fun e hp=> ?_
 have ew:cv (bj P++[eu g]) (bj P).length=dP g.1++(g.2++[]).map word:=by
  delta cv;refine bi gx ?_;rw [aE];exact hg.split
 have c6:=hP.c6;have el:=(i3 (flat (cG l.cs))).2
 cases hd:bw g.1.v (gi (ik none (cG l.cs))) with
 | true=>
  refine fX hP hB hl (cG l.cs).length (av _) (fun m hm=>ag m (eo▸hm)) (by refine bi eo ?_;exact (iZ (ws:=_) ew)) fun a dx Y C Q X h hC hX=> ?_;rw [eo] at h;rw [List.take_length] at hC ⊢;exact q33 (p:=g.1) (bs:=[]) h hB.row ew (by rw [aE];exact hg.ne) hp.N hg.ok.c (fun U h=>fh h) hC (by rw [ah];lia) (aX _) (fun U Y'=>hX Y') fun h U=>by rw [hd] at h;exact lN h
 | false=>
  have hhead:(bj P++[eu g])[offs P (P.ls.length - 1)]? =some (dh l):=(ag _ (by lia)).trans (gK hl);have ef:flat (cG l.cs++[g])=flat (cG l.cs)++(g.2++[]):=fR _ _;have ee:(bV (flat (cG l.cs++[g]))).length=P.c+(bV g.2).length:=by refine bi ef ?_;rw [aE,fU,ai,h1,hlg.len]
  have g0:0<g.2.length:=List.length_pos_iff.mpr hg.ne;have el2:=i3 g.2;have es:offs P (P.ls.length - 1)+1+(cG l.cs++[g]).length=(bj P).length+1:=by refine bi ai ?_;refine rt eo ?_;rfl
  have bad:=wA (c:=P.c) hB.row (oy hP hl hhead) hlg.sz (jt _ _ (fun y hy=>(aD.mp hy).elim (h2 y) fun h=>ao.mp h▸hg) fun i y hy=> ?_) (rn _ _ _ h3 hd) (fun y hy=>(aD.mp hy).elim (fun h=>(h2 y h).ok) fun h=>ao.mp h▸hg.ok) (by rw [ef,aE,ai];lia) (by
   refine bi es ?_;refine kf (List.getElem?_eq_none ?_);rw [ai];exact av _) (by rw [ee];lia) (by rw [ee];lia)
  ·rw [es] at bad;exact fm hP hB hl (fun m hm=>ag m (by lia)) (i7 hP hl hhead) bad
  ·rcases gP hy with hy | ⟨rfl,rfl⟩
   ·have hi:=(aM.mp hy).1;rw [ag _ (by lia)];exact jX hl hy
   ·refine bi eo ?_;exact gx
theorem EL (hP:cL P) (hx:(bj P)[k]? =some x):jg (bj P++[x])/\cT (bj P++[x]) ((bj P).length+1):=by
 have hB:=DU hP (aq hx);refine ⟨hB, ?_⟩;have gx:(bj P++[x])[(bj P).length]? =some x:=List.getElem?_concat_length ..
 have plain:gt (bj P++[x]) (bj P).length=false->cT (bj P++[x]) ((bj P).length+1):=fun nx Y Q X hX=>by
  refine q35 (J:=P.ls.length) (x4 hP hB rfl rfl) rfl (av _) (iA hP hB.row (av _) (fun m hm=>(fun m hm=>List.getElem?_append_left hm:∀m,m<(bj P).length->(bj P++[x])[m]? =(bj P)[m]?) m (e8▸hm)) (by rw [e8];exact nx)) (fun h=>absurd h (Nat.lt_irrefl _)) (fun U U=>by rw [e8];exact hX) fun U h=> ?_;rw [e8,ai] at h;exact absurd h (by show ¬(_+1<=_);lia)
 rcases gZ hx with ⟨U,rfl⟩ | ⟨U,rfl⟩ | ⟨j,l,hj,⟨U,rfl⟩ | ⟨i,g,hg,U,rfl⟩⟩
 ·exact plain (iW (.inr ⟨_,_,(by delta cv;rw [gx];exact hP.s0),rfl⟩))
 ·exact plain (iW (.inr ⟨_,_,(by delta cv;rw [gx];exact hP.s1),rfl⟩))
 ·exact plain (i7 hP hj gx)
 ·have hgg:=sH hP hj hg;refine DJ hP hgg ?_ hB;have h4:=(hP.ls l (aq hj)).gs.2.2.2;have h5:=fR ((cG l.cs).take i) (g::(cG l.cs).drop (i+1));rw [<-k8 hg,show flat (g::(cG l.cs).drop (i+1))=g.2++flat ((cG l.cs).drop (i+1)) from rfl] at h5;rw [h5,ai,ai] at h4;have:=hP.c6;lia
theorem Fy (hP:cL P) (hx:(bj P)[k]? =some x) (h4:x.take 4=iX):jg ((bj P).take k++[[114,117,110,32,48]++x.drop 4]++(bj P).drop (k+1))/\cT ((bj P).take k++[[114,117,110,32,48]++x.drop 4]++(bj P).drop (k+1)) (k+1):=by
 refine fI (hP.rowOk (aq hx)) fun r1 r2=> ?_;have hB:=nE (k:=k) hP (y:=[114,117,110,32,48]++x.drop 4) ⟨sj (ur rfl) fun y hy=>r1 y (List.mem_of_mem_drop hy),by rw [ai,List.length_drop];show 5+_<=2000;omega⟩;refine ⟨hB, ?_⟩;clear r2 r1;obtain ⟨j,l,i,g,hj,hg,rfl,rfl⟩:=rg h4 hx;obtain ⟨g1,g2⟩:=mH (fL hx);have hgg:=sH hP hj hg;obtain ⟨e,hp⟩:=hgg.pen
 have ew:cv ((bj P).take (offs P j+1+i)++[[114,117,110,32,48]++(eu g).drop 4]++(bj P).drop (offs P j+1+i+1)) (offs P j+1+i)=[114,117,110]::(48::bo g.1.f)::f8 g.1.o::f8 g.1.b::f8 g.1.u::g.2.map word:=by
  delta cv;rw [g2];rw [(show [114,117,110,32,48]++(eu g).drop 4=bk [32] ([114,117,110]::(48::bo g.1.f)::f8 g.1.o::f8 g.1.b::f8 g.1.u::g.2.map word) from rfl)];refine dX (a7 _ _) fun w hw=> ?_;refine Dg (hp.W) fun w1 w2 w3 w4 w5=> ?_;rcases au.mp hw with rfl | hw
  ·exact Gv
  rcases au.mp hw with rfl | hw
  ·exact w5
  rcases au.mp hw with rfl | hw
  ·exact w2
  rcases au.mp hw with rfl | hw
  ·exact w3
  rcases au.mp hw with rfl | hw
  ·exact w4
  ·refine bu (aN.mp hw) fun c hc y51=> ?_;subst y51;exact (hgg.c c hc).1.1.word
 refine fX hP hB hj i (a6 (aM.mp hg).1) g1 (iZ (ws:=_) ew) fun a dx Y C Q X h hC hX=> ?_;exact q33n (acc:=[]) h hB.row ew (fun h=>hgg.ne (List.map_eq_nil_iff.mp h)) hp.N hX
theorem oB (hP:cL P) (h:rU (bj P) B m):jg B/\cT B m:=by
 rcases h with ⟨k,x,hk,hx,rfl,rfl⟩ | ⟨k,x,hx,h4,rfl,rfl⟩ | ⟨k,x,hx,h4,rfl,rfl⟩ | ⟨k,x,hx,h4,rfl,rfl⟩ | ⟨k,x,hx,h4,rfl,rfl⟩ | ⟨k,x,hx,rfl,rfl⟩ | ⟨k,x,hx,h4,rfl,rfl⟩
 ·exact GK hP hk hx
 ·exact Fk hP hx h4
 ·exact EO hP hx h4
 ·exact Cr hP hx h4
 ·exact F6 hP hx h4
 ·exact EL hP hx
 ·exact Fy hP hx h4
end
noncomputable def pf:Bool->List bh->Prop
 | s,[]=>s=false
 | s,c::r=>cond s (c=tail0/\pf false r) ((c.w=1\/c.w=2)/\pf (Nat.beq c.w 2) r)
theorem xI:∀{l:List bh},(∀c∈l,c.w=1)->pf false l:=by
 intro zl
 induction zl with
 | nil=>
  exact fun U=>rfl
 | cons c r ih=>
  exact fun h=>⟨.inl (h c (.head _)),by refine bi (h c (.head _)) ?_;exact ih fun y hy=>h y (.tail _ hy)⟩
theorem xS:∀{bs:List bh} {sz:List Nat},(∀c∈bs,xy sz c)->pf false (bV bs):=by
 intro zl
 induction zl with
 | nil=>
  intro _ _;exact rfl
 | cons b r ihz=>
  intro sz h;have ih:=ihz fun y hy=>h y (.tail _ hy);have hb:=h b (.head _);rw [cq];rcases hb.G.2 with e | e
  ·refine bi (kL e) ?_;exact ⟨.inl e,by refine bi e ?_;exact ih⟩
  ·refine bi (Dv e) ?_;exact ⟨.inr e,by refine bi e ?_;exact ⟨rfl,ih⟩⟩
theorem LnG.til {n:Nat} {l:Ln} (h:LnG n l):pf false (l.shc n):=by
 obtain ⟨bs,hb,e⟩:=h.bs;delta Ln.shc Ln.wd
 cases es:l.sz==single with
 | true=>
  show pf false (l.cs.take n);rw [List.take_of_length_le (Nat.le_of_eq h.len),e];exact xS hb
 | false=>
  refine xI fun c hc=> ?_;have hc:=List.mem_of_mem_take hc;rw [e] at hc;obtain ⟨z,hz,hc⟩:=List.mem_flatten.mp hc;obtain ⟨b,hbm,rfl⟩:=aN.mp hz;rcases (hb b hbm).one with h1 | ⟨h1,U⟩
  ·rw [kL h1.1] at hc;rw [ao.mp hc];exact h1.1
  ·rw [h1] at es;exact lN es
noncomputable def mZ (a b:List bh):Cf:=List.zipWith (fun x y=>(bw x.v y.v,x.w,y.w)) a b
theorem AE {x y:bh} (h:Nat.beq x.w y.w=false):bw x.v y.v=false:=by
 show (eqVs (x.s.map bc) (y.s.map bc) && (decide ((x.w:Int)=y.w) && _))=false;rw [cJ];refine bi h ?_
 cases eqVs (x.s.map bc) (y.s.map bc)<;>rfl
theorem CU {s:Bool} {x:bh} {a:List bh} (hs:cond s (x=tail0/\pf false a) ((x.w=1\/x.w=2)/\pf (Nat.beq x.w 2) a)):x.w∈cond s [0] [1,2]/\pf (Nat.beq x.w 2) a/\(x.w=0->x=tail0):=by
 cases s with
 | true=>obtain ⟨rfl,h⟩:=hs;exact ⟨.head _,h,fun U=>rfl⟩
 | false=>
  refine fI hs fun h h'=> ?_;refine ⟨?_,h',fun r=> ?_⟩
  ·rcases h with h | h<;>refine bi h ?_
   ·exact .head _
   ·exact .tail _ (.head _)
  ·rcases h with h | h<;>(replace r:=h▸r;cases r)
theorem A9 {x y:bh} {a b:List bh} {s t:Bool} (ih:∀(b:List bh) (s t:Bool),pf s a->pf t b->a.length=b.length->mZ a b∈kt a.length s t) (hs:pf s (x::a)) (ht:pf t (y::b)) (hl:(x::a).length=(y::b).length):mZ (x::a) (y::b)∈kt (x::a).length s t:=by
 have h1:=CU hs;have h2:=CU ht;refine List.mem_flatMap.mpr ⟨x.w,h1.1,List.mem_flatMap.mpr ⟨y.w,h2.1,List.mem_flatMap.mpr ⟨bw x.v y.v, ?_,aN.mpr ⟨_,ih b _ _ h1.2.1 h2.2.1 (Nat.succ.inj hl),rfl⟩⟩⟩⟩
 cases e:Nat.beq x.w y.w with
 | false=>rw [AE e];exact .head _
 | true=>
  cases e0:Nat.beq x.w 0 with
  | false=>
   cases bw x.v y.v
   ·exact .tail _ (.head _)
   ·exact .head _
  | true=>
   have e1:=aQ e0;rw [h1.2.2 e1,h2.2.2 ((aQ e)▸e1)];exact .head _
theorem Fo (a:List bh):∀(b:List bh) (s t:Bool),pf s a->pf t b->a.length=b.length->mZ a b∈kt a.length s t:=by
 induction a with
 | nil=>
  intro b s t hs ht hl
  cases b with
  | cons U z1=>contradiction
  | nil=>
   refine bi (hs) ?_;refine bi (ht) ?_;exact .head _
 | cons x a ih=>
  intro b s t hs ht hl
  cases b with
  | nil=>contradiction
  | cons y b=>exact A9 ih hs ht hl
theorem C8 (a b:List bh) (hl:a.length=b.length):eC (mZ a b)=yq a b/\aC (mZ a b)=wF a/\bC (mZ a b)=wF b:=by
 have g:∀k,(mZ a b)[k]? =none/\a[k]? =none/\b[k]? =none\/∃(x y:bh),(mZ a b)[k]? =some (bw x.v y.v,x.w,y.w)/\a[k]? =some x/\b[k]? =some y:=fun k=>by
  have hz:(mZ a b)[k]? =_:=List.getElem?_zipWith
  by_cases hk:k<a.length
  ·have h1:=an hk;have h2:=an (hl▸hk:k<b.length);rw [h1,h2] at hz;exact .inr ⟨_,_,hz,h1,h2⟩
  ·have h1:a[k]? =none:=List.getElem?_eq_none (Nat.le_of_not_lt hk);have h2:b[k]? =none:=List.getElem?_eq_none (hl▸Nat.le_of_not_lt hk);rw [h1] at hz;exact .inl ⟨hz,h1,h2⟩
 refine ⟨funext fun k=> ?_,funext fun k=> ?_,funext fun k=> ?_⟩
 ·delta eC yq;rcases g k with ⟨h1,h2,h3⟩ | ⟨x,y,h1,h2,h3⟩<;>rw [h1,h2,h3]
 ·delta aC wF;rcases g k with ⟨h1,h2,h3⟩ | ⟨x,y,h1,h2,h3⟩<;>rw [h1,h2]
 ·delta bC wF;rcases g k with ⟨h1,h2,h3⟩ | ⟨x,y,h1,h2,h3⟩<;>rw [h1,h3]
theorem BH {n:Nat} (h1:1<=n) (h6:n<=6):(kt n false false).all (oE n)=true:=by
 have zz:=ay.mp chk4;have c2:=zz.2;have zz:=ay.mp c2;have c3:=zz.2;have c4:=(ay.mp c3).2
 match n,h1,h6 with
 | 1,U,z1=>exact (zz.1)
 | 2,U,z1=>exact c2
 | 3,U,z1=>exact c3
 | 4,U,z1=>exact c4
 | 5,U,z1=>exact chk5
 | 6,U,z1=>exact chk6
theorem BZ {a b:List bh} (ha:pf false a) (hb:pf false b) (hl:a.length=b.length) (h1:1<=a.length) (h6:a.length<=6):(rI a b).foldl pt []=je a b:=by
 have h:=aG.mp (BH h1 h6) _ (Fo a b false false ha hb hl);obtain ⟨e1,e2,e3⟩:=C8 a b hl;unfold oE at h;rw [e1,e2,e3] at h;exact (eq_of_beq h).symm
noncomputable def lU (row:Nat) (p:Nat×Nat):Tr:=(row,p.1,(p.2:Int))
theorem qH {row:Nat} {f:List Tr} (hf:∀t∈f,t.1≠row) (q:List (Nat×Nat)) (k:Nat):cM row (f++q.map (lU row)) k=f++(pt q k).map (lU row):=by
 delta cM pt;rcases List.eq_nil_or_concat q with rfl | ⟨pre,p,rfl⟩
 ·have e0:f++([]:List (Nat×Nat)).map (lU row)=f:=aE f;refine bi e0 ?_
  cases e:f.getLast? with
  | none=>rfl
  | some p=>
   show cond (decide ((p.1:Int)=row) && _) _ _=_;rw [cJ];refine bi (show Nat.beq p.1 row=false from Bool.eq_false_iff.mpr fun r=>(hf p (List.mem_of_getLast? e)) (aQ r)) ?_;rfl
 ·refine bi List.concat_eq_append ?_;rw [bq,<-aw,List.getLast?_concat,List.getLast?_concat,List.dropLast_concat,List.dropLast_concat]
  have e2:decide ((lU row p).2.2=(k:Int) - 1)=Nat.beq (p.2+1) k:=by
   rw [<-cJ];show decide ((p.2:Int)=k - 1)=decide (((p.2+1:Nat):Int)=k)
   by_cases h:p.2+1=k
   ·(refine ak (aA (by lia)) ?_;refine bi (aA (by lia)) ?_;rfl)
   ·(refine ak (decide_eq_false (by lia)) ?_;refine bi (decide_eq_false (by lia)) ?_;rfl)
  show cond (decide (((lU row p).1:Int)=row) && decide ((lU row p).2.2=(k:Int) - 1)) _ _=f++(cond (Nat.beq (p.2+1) k) _ _:List (Nat×Nat)).map (lU row);refine bi (show decide (((lU row p).1:Int)=row)=true from aA rfl) ?_;refine bi e2 ?_
  cases Nat.beq (p.2+1) k
  ·show f++pre.map (lU row)++[lU row p]++[(row,k,(k:Int))]=f++(pre++[p]++[(k,k)]).map (lU row)
   (rw [bq,bq];refine ak (aw ..) ?_;refine ak (aw ..) ?_)
   rw [<-aw (pre.map (lU row))];rfl
  ·show f++pre.map (lU row)++[(row,(lU row p).2.1,(k:Int))]=f++(pre++[(p.1,k)]).map (lU row)
   (rw [bq];refine ak (aw ..) ?_);rfl
theorem wz {row:Nat} {f:List Tr} (hf:∀t∈f,t.1≠row):∀(ks:List Nat) (q:List (Nat×Nat)),ks.foldl (cM row) (f++q.map (lU row))=f++(ks.foldl pt q).map (lU row):=by
 intro zl
 induction zl with
 | nil=>
  exact fun U=>rfl
 | cons k ks ih=>
  intro q;show ks.foldl (cM row) (cM row (f++q.map (lU row)) k)=_;rw [qH hf];exact ih _
noncomputable def qV (c row:Nat) (x y:Ln):List Tr:=cond (x.sz==y.sz) ((je (x.shc c) (y.shc c)).map (lU row)) [(row,0,((y.shc c).length:Int) - 1)]
theorem AF {c row:Nat} {x y:Ln} {f:List Tr} (hx:LnG c x) (hy:LnG c y) (c2:2<=c) (c6:c<=6) (hf:∀t∈f,t.1≠row):m9 c row x y f=f++qV c row x y:=by
 delta m9 qV
 cases e:x.sz==y.sz with
 | false=>rfl
 | true=>
  have:=wz hf (rI (x.shc c) (y.shc c)) [];rw [BZ hx.til hy.til (show (x.shc c).length=(y.shc c).length by delta Ln.shc Ln.wd;(refine ak (aV ..) ?_;refine bi aV ?_;refine bi hx.len ?_;refine bi hy.len ?_;refine bi (eq_of_beq e) ?_;rfl)) (C1 hx.len c2) (show (x.shc c).length<=6 by delta Ln.shc;refine bi aV ?_;refine bi hx.len ?_;exact aj (Nat.min_le_right _ _) c6)] at this;rw [(show f++([]:List (Nat×Nat)).map (lU row)=f from aE f)] at this;exact this
theorem AZ {c:Nat} (c2:2<=c) (c6:c<=6) (xs:List Ln):∀(ys:List Ln) (k:Nat) (f:List Tr),xs.length=ys.length->(∀x∈xs,LnG c x)->(∀y∈ys,LnG c y)->(∀t∈f,t.1<k)->(jF c k xs ys f).map iK=f.map iK++((List.range xs.length).map fun i=>match xs[i]? with | some x=>(match ys[i]? with | some y=>jz (k+i) (x.shc c) (y.shc c) (x.sz==y.sz) | none=>[]) | none=>[]).flatten:=by
 induction xs with
 | nil=>exact fun U U U U U U U=>(aE _).symm
 | cons x xs ih=>
  intro ys k f hl hx hy hf
  cases ys with
  | nil=>exact absurd hl (Nat.succ_ne_zero _)
  | cons y ys=>
    have hx0:=hx x (.head _)
    have eV:(qV c k x y).map iK=jz k (x.shc c) (y.shc c) (x.sz==y.sz):=by
     delta qV jz
     cases x.sz==y.sz
     ·rfl
     ·show ((je (x.shc c) (y.shc c)).map (lU k)).map iK=_;refine ak (List.map_map ..) ?_;rfl
    have hall:∀t∈f++qV c k x y,t.1<k+1:=fun t ht=>by
     rcases aD.mp ht with h | h
     ·exact Nat.lt_succ_of_lt (hf t h)
     ·delta qV at h;revert h;clear hf ht
      cases x.sz==y.sz
      ·intro h;cases ao.mp h;exact Nat.lt_succ_self _
      ·intro h;obtain ⟨p,U,rfl⟩:=aN.mp h;exact Nat.lt_succ_self _
    show (jF c (k+1) xs ys (m9 c k x y f)).map iK=_
    (rw [(AF hx0 (hy y (.head _)) c2 c6 fun t ht=>Nat.ne_of_lt (hf t ht))];refine ak (ih ys (k+1) (f++qV c k x y) (Nat.succ.inj hl) (fun z hz=>hx z (.tail _ hz)) (fun z hz=>hy z (.tail _ hz)) hall) ?_;rw [aJ];refine ak (aw ..) ?_;rw [eV,ba,List.range_succ_eq_map,aR,List.map_map])
    refine aB (f.map iK++ ·) (aB (_++ ·) (aB List.flatten (List.map_congr_left fun i U=> ?_)));rw [Nat.add_assoc,Nat.add_comm 1];rfl
theorem zm {P P':Pc} (hP:cL P) (hP':cL P') (ec:P'.c=P.c) (en:P'.ls.length=P.ls.length):(jF P.c 0 P.ls P'.ls []).map iK=jI P P' P.ls.length:=by
 refine ak (AZ hP.c2 hP.c6 P.ls P'.ls 0 [] en.symm hP.ls (fun y hy=>ec▸hP'.ls y hy) fun U h=>fh h) ?_;delta jI jO;rw [ec];refine aB List.flatten (List.map_congr_left fun i U=> ?_);rw [Nat.zero_add]<;>rfl
theorem eU {α:Type} {f:α->V} (h:∀x,bw (f x) (f x)=true):∀l:List α,eqVs (l.map f) (l.map f)=true:=by
 intro zl
 induction zl with
 | nil=>
  exact rfl
 | cons x l ih=>
  exact ay.mpr ⟨h x,ih⟩
theorem yD (s:List Nat):bw (.str s) (.str s)=true:=a9 s
theorem ja (l:Ln) (c:Nat):bw (bU l c) (bU l c)=true:=by
 show ((l.sz==l.sz) && (eqVs ((l.shc c).map bh.v) ((l.shc c).map bh.v) && true))=true;rw [a9,eU md];rfl
theorem z5 (i:Int):bw (.int i) (.int i)=true:=aA rfl
theorem lC (P:Pc):bw (bO P) (bO P)=true:=by
 show (decide ((P.r0:Int)=P.r0) && (decide ((P.c0:Int)=P.c0) && true))=true;refine bi (aA rfl) ?_;refine bi (aA rfl) ?_;rfl
theorem jC (b:Bool):bw (.bool b) (.bool b)=true:=aA rfl
theorem A7 (t:Tr):bw (iK t) (iK t)=true:=by
 show (decide ((t.1:Int)=t.1) && (decide ((t.2.1:Int)=t.2.1) && (decide (t.2.2=t.2.2) && true)))=true;refine bi (aA rfl) ?_;refine bi (aA rfl) ?_;refine bi (aA rfl) ?_;rfl
noncomputable def qp (P P':Pc):Bool:=eqVs (P.ls.map (bU · P.c)) (P'.ls.map (bU · P'.c))
theorem Az (xs:List Ln):∀(ys:List Ln) (c c':Nat),xs.length=ys.length->eqVs (xs.map (bU · c)) (ys.map (bU · c'))=((List.range xs.length).map fun k=>bw (match xs[k]? with | some l=>bU l c | none=> .none) (match ys[k]? with | some l=>bU l c' | none=> .none)).all id:=by
 induction xs with
 | nil=>
  intro ys c c' h;rw [List.length_eq_zero_iff.mp h.symm];rfl
 | cons x xs ih=>
  intro ys c c' h
  cases ys with
  | nil=>exact absurd h (Nat.succ_ne_zero _)
  | cons y ys=>
   rw [ba,List.range_succ_eq_map];show (bw (bU x c) (bU y c') && eqVs (xs.map (bU · c)) (ys.map (bU · c')))=(bw (bU x c) (bU y c') && (((List.range xs.length).map Nat.succ).map _).all id);rw [(ih ys c c' (Nat.succ.inj h)),List.map_map];rfl
theorem m7 (P P':Pc) (h:P'.ls.length=P.ls.length):xD P P'=cond (bw (.bool P.sh) (.bool P'.sh)) (cond (P.sh && !(bw (bO P) (bO P'))) false (qp P P')) false:=by
 unfold xD qp;refine bi (Az P.ls P'.ls P.c P'.c h.symm) ?_;rfl
theorem An (P:Pc):xD P P=true:=by
 refine bi (m7 P P rfl) ?_;rw [jC,lC];have:qp P P=true:=eU (fun l=>ja l P.c) P.ls;refine bi this ?_
 cases P.sh<;>rfl
theorem w9 (S sh pl A:Bool):cond S (cond (sh && !pl) false A) false=((A && S) && (!sh || pl)):=by
 cases S<;>cases sh<;>cases pl<;>cases A<;>rfl
theorem rO (S sh pl A w:Bool):(cond S (cond (sh && !pl) false A) false && (pl && w))=((A && S) && (pl && w)):=by
 cases S<;>cases sh<;>cases pl<;>cases A<;>cases w<;>rfl
theorem AG (v:V):∀(a b:List V) (i:Nat),dR (bw · v) a=some i->dR (bw · v) (a++b)=some i:=by
 intro zl
 induction zl with
 | nil=>
  exact fun U U h=>bZ h
 | cons x a ih=>
  intro b i h;have h:(if bw x v then some 0 else (dR (bw · v) a).map (· +1))=some i:=h;show (if bw x v then some 0 else (dR (bw · v) (a++b)).map (· +1))=some i
  cases e:bw x v with
  | true=>rw [e] at h;exact h
  | false=>
   rw [e] at h;obtain ⟨j,hj,rfl⟩:=aL.mp (show (dR (bw · v) a).map (· +1)=some i from h);rw [ih b j hj];rfl
theorem pR:∀(vs ks:List V),∃t,vs.foldl bN ks=ks++t:=by
 intro zl
 induction zl with
 | nil=>
  exact fun ks=>⟨[],(aE _).symm⟩
 | cons v r ih=>
  intro ks;refine dU (ih (bN ks v)) fun t e=> ?_;show ∃t,r.foldl bN (bN ks v)=_;rw [e];unfold bN
  cases ks.any (bw · v)
  ·exact ⟨v::t,by show ks++[v]++t=_;rw [aw];rfl⟩
  ·exact ⟨t,rfl⟩
theorem AP:∀(vs ks:List V),(∀v∈vs,bw v v=true)->gy ks vs=vs.map fun v=>fH v (vs.foldl bN ks):=by
 intro zl
 induction zl with
 | nil=>
  exact fun U U=>rfl
 | cons v r ih=>
  intro ks h;obtain ⟨t,e⟩:=pR r (bN ks v);obtain ⟨i,hi⟩:=kJ v (bN ks v) (nQ (h v (.head _)));show fH v (bN ks v)::gy (bN ks v) r=fH v (r.foldl bN (bN ks v))::r.map fun w=>fH w (r.foldl bN (bN ks v));rw [(show fH v (r.foldl bN (bN ks v))=fH v (bN ks v) by unfold fH;rw [e,hi,AG v _ t i hi]),ih (bN ks v) fun y hy=>h y (.tail _ hy)]
theorem ya:∀(a b ks:List V),gy ks (a++b)=gy ks a++gy (a.foldl bN ks) b:=by
 intro zl
 induction zl with
 | nil=>
  exact fun U U=>rfl
 | cons v a ih=>
  exact fun b ks=>aB (_:: ·) (ih b (bN ks v))
theorem mh:∀(vs ks:List V) (v:V),v∈vs->bw v v=true->(vs.foldl bN ks).any (bw · v)=true
 | x::r,ks,v,h,hv=>by
  rcases au.mp h with rfl | h
  ·obtain ⟨t,e⟩:=pR r (bN ks v);show (r.foldl bN (bN ks v)).any _=true;rw [e,List.any_append,nQ hv];rfl
  ·exact mh r (bN ks x) v h hv
theorem pX {p:V->Prop}:∀(vs ks:List V),(∀v∈vs,p v)->(∀v∈ks,p v)->∀v∈vs.foldl bN ks,p v:=by
 intro zl
 induction zl with
 | nil=>
  exact fun U U h=>h
 | cons x r ih=>
  exact fun ks hv hk=>ih (bN ks x) (fun y hy=>hv y (.tail _ hy)) fun y hy=>by
   unfold bN at hy;revert hy
   cases ks.any (bw · x)
   ·exact fun hy=>(aD.mp hy).elim (hk y) fun h=>ao.mp h▸hv x (.head _)
   ·exact hk y
theorem pC:∀(vs ks:List V),(vs.foldl bN ks).length<=ks.length+vs.length:=by
 intro zl
 induction zl with
 | nil=>
  exact fun U=>av _
 | cons x r ih=>
  intro ks;have h1:=ih (bN ks x);have h2:=kP (v:=x) (ks:=ks);show (r.foldl bN (bN ks x)).length<=ks.length+(r.length+1);lia
theorem bK.ext {Y Y':be} {D R:Addr} (h:bK Y D R) (x:du Y Y'):bK Y' D R:=
 let ⟨ne,⟨m,t,hD⟩,is,hR,hl⟩:=h
 ⟨ne,⟨m,t,x _ _ hD⟩,is,x _ _ hR,hl⟩
theorem bJ.off {Y Y':be} {D R a:Addr} {P:Pc} (h:bJ Y a P) (d:bK Y D R) (o:fB D R Y Y'):bJ Y' a P:=by
 refine bu h fun dx h1 h2=> ?_;obtain ⟨U,⟨m,t,hD⟩,is,hR,U⟩:=d;refine ⟨dx,(o a (fun r=> ?_) fun r=> ?_).trans h1,(o dx (fun r=> ?_) fun r=> ?_).trans h2⟩
 ·rw [r,hD] at h1;(replace h1:=bW h1;cases h1)
 ·rw [r,hR] at h1;(replace h1:=bW h1;cases h1)
 ·rw [r,hD] at h2;(replace h2:=bW h2;cases h2)
 ·rw [r,hR] at h2;(replace h2:=bW h2;cases h2)
theorem bJ.kp {Y Y':be} {a:Addr} {P:Pc} (h:bJ Y a P) (k:qi Y Y'):bJ Y' a P:=
 let ⟨dx,h1,h2⟩:=h
 ⟨dx,k _ _ rfl h1,k _ _ rfl h2⟩
section
variable {Y:be} {Q X:KV} {K:KF} {H:bv} {D R a a' b:Addr} {r:List DS} {P P':Pc}
theorem l411 {l:List Int} (hl:l.length<=63) (h37:H 37=some (.lst (l.map .int))) (q:∀D R Y',bK Y' D R->exDs tab (Gm 55) r (H.set 39 (.ref D)) Y' K X):exDs tab (Gm 55) (vA::r) H Y K X:=
 bg h37 (q38 hl fun D R Y' d U=>q D R Y' d)
theorem l412 (h39:H 39=some (.ref D)) (h:bK Y D R) (q:∀P Y',cL P->bK Y' D R->exDs tab (Gm 55) r (H.set 17 (bP P)) Y' K X):exDs tab (Gm 55) (sS::r) H Y K X:=
 bg h39 (q42 h fun P Y' hP d U=>q P Y' hP d)
theorem l413 (h39:H 39=some (.ref D)) (h17:H 17=some (bP P)) (h:bK Y D R) (hP:cL P) (q:∀P' Y',cL P'->P'.c=P.c->P'.ls.length=P.ls.length->bK Y' D R->exDs tab (Gm 55) r (H.set 18 (bP P')) Y' K X):exDs tab (Gm 55) (uj::r) H Y K X:=
 bg h39 (bg h17 (q43 h hP fun P' Y' h1 h2 h3 d U=>q P' Y' h1 h2 h3 d))
theorem l414 (h17:H 17=some (bP P)) (h18:H 18=some (bP P')) (hP:cL P) (hP':cL P') (h:bK Y D R) (q:∀a a' Y',bJ Y' a P->bJ Y' a' P'->bK Y' D R->exDs tab (Gm 55) r ((H.set 20 (.ref a)).set 21 (.ref a')) Y' K X):exDs tab (Gm 55) (ux::r) H Y K X:=
 bg h17 (q44 hP.ok hP.n1 fun a σ1 p1 x1=>bg h18 (q44 hP'.ok hP'.n1 fun a' σ2 p2 x2=>q a a' σ2 (p1.ext x2) p2 (h.ext (x1.trans x2))))
theorem l415 (h17:H 17=some (bP P)) (hP:cL P) (q:exDs tab (Gm 55) r (((H.set 15 (.lst (P.ls.map fun l=>bt l.cs))).set 34 (.lst (P.ls.map fun l=> .str l.sz))).set 35 (.lst (P.ls.map fun l=> .bool l.on))) Y K X):exDs tab (Gm 55) (tq::r) H Y K X:=by
 refine bg h17 (cj (l5 0) (Dh hP.ok) (fun U e=>bZ e) (fun D hD l hl acc K K' q=>q) ?_);refine bg h17 (cj (l5 1) (Dh hP.ok) (fun U e=>bZ e) (fun D hD l hl acc K K' q=>q) ?_);exact bg h17 (cj (l5 2) (Dh hP.ok) (fun U e=>bZ e) (fun D hD l hl acc K K' q=>q) q)
theorem l416 (h17:H 17=some (bP P)) (h15:H 15=some (.lst (P.ls.map fun l=>bt l.cs))) (h34:H 34=some (.lst (P.ls.map fun l=> .str l.sz))) (h35:H 35=some (.lst (P.ls.map fun l=> .bool l.on))) (hP:cL P) (q:exDs tab (Gm 55) r (H.set 31 (.lst ((bj P).map .str))) Y K X):exDs tab (Gm 55) (vQ::r) H Y K X:=by
 obtain ⟨l0,hr⟩:∃l0,P.ls[0]? =some l0:=⟨_,an hP.n1⟩;have hc:=(hP.ls _ (aq hr)).len;refine bg h17 (bx (hP.ok.lines _) ?_);refine bg h15 (bD (hP.ok.lines _) rfl (bM hr) ?_);refine bx (by rw [ah,hc];exact bz hP.c6 rfl) ?_;refine bg h15 (bg h34 (bg h35 (bg h17 (bg h17 ?_))));rw [(show ((P.ls.map hY).length:Int)=P.ls.length by rw [ah]),(show ((l0.cs.map bh.v).length:Int)=P.c by rw [ah,hc])];exact q47 hP.L q
theorem oct {Q:KV} (hP:cL P) (q:Q (.bytes (bk [10] (bj P))) Y):bd (Gm 48) 48 [.lst ((bj P).map .str)] Y Q X:=
 q48 (aj hP.bok.n (by decide)) hP.bok.row hP.bok.b q
theorem l417 (h20:H 20=some (.ref a)) (h31:H 31=some (.lst ((bj P).map .str))) (h17:H 17=some (bP P)) (hP:cL P) (h:bJ Y a P) (q:exDs tab (Gm 55) r H Y K X):exDs tab (Gm 55) (tN::r) H Y K X:=by
 refine bg h20 (q27 hP.L.toPcP h (bg h31 (oct hP ?_)));refine iL (b:= !(!(bk [10] (bj P)==bk [10] (bj P)))) (by rw [a9];rfl) ?_;refine bg h17 (bg h20 (q54 hP.ok h hP.T ?_));exact q
theorem l419 (h31:H 31=some (.lst ((bj P).map .str))) (hP:cL P) (q:∀b Y',bJ Y' b P->du Y Y'->exDs tab (Gm 55) r (H.set 61 (.ref b)) Y' K X):exDs tab (Gm 55) (rZ::r) H Y K X:=bg h31 (oct hP (xl hP fun b Y' h1 h2=>q b Y' h1 h2))
theorem l420 (h61:H 61=some (.ref b)) (hP:cL P) (h:bJ Y b P) (q:exDs tab (Gm 55) r (H.set 62 (.lst ((bj P).map .str))) Y K X):exDs tab (Gm 55) (s7::r) H Y K X:=by
 obtain ⟨dx,i⟩:=h;exact bg h61 (ch i rfl (bg h61 (ch i rfl (bg h61 (ch i rfl (bg h61 (ch i rfl (bg h61 (ch i rfl (bg h61 (ch i rfl (bg h61 (ch i rfl (q47 hP.L q))))))))))))))
theorem l421 (h62:H 62=some (.lst ((bj P).map .str))) (h31:H 31=some (.lst ((bj P).map .str))) (h61:H 61=some (.ref b)) (h20:H 20=some (.ref a)) (hP:cL P) (h:bJ Y a P) (h':bJ Y b P) (q:exDs tab (Gm 55) r H Y K X):exDs tab (Gm 55) (r9::r) H Y K X:=by
 have g:=h';obtain ⟨dx,i⟩:=h';have eo:iu (.lst ((bj P).map .str)) 8=true:=cB fun U=>rfl;refine bg h62 (bg h31 (cD (bY eo eo) ?_));refine iL (b:= !(!(eqVs ((bj P).map .str) ((bj P).map .str)))) (by rw [eU yD];rfl) ?_;refine bg h61 (bm i rfl (bg h20 (q10 hP.ok hP.ok g h rfl rfl ?_)));refine iL (b:= !(!(xD P P && (bw (bO P) (bO P) && bw (.lst (P.ls.map fun l=> .bool l.on)) (.lst (P.ls.map fun l=> .bool l.on)))))) ?_ ?_
 ·rw [An,lC,show bw (.lst (P.ls.map fun l=> .bool l.on)) (.lst (P.ls.map fun l=> .bool l.on))=true from eU (fun l:Ln=>jC l.on) P.ls];rfl
 ·refine bg h61 (q27 hP.L.toPcP g (bg h31 (oct hP ?_)));refine iL (b:= !(!(bk [10] (bj P)==bk [10] (bj P)))) (by rw [a9];rfl) ?_;exact q
end
theorem Ay {P:Pc} (hP:cL P):∃(k:Nat) (x:List Nat),(bj P)[k]? =some x/\x.take 4=gp:=
 ⟨_,_,gK (an hP.n1),rfl⟩
theorem Bu {P:Pc} (hP:cL P):∃(k:Nat) (x:List Nat),(bj P)[k]? =some x/\x.take 4=iX:=by
 have hr:=an hP.n1;have hl:=hP.ls _ (List.getElem_mem hP.n1)
 cases e:(cG (P.ls[0]'hP.n1).cs)[0]? with
 | some g=>exact ⟨_,_,jX hr e,rfl⟩
 | none=>
  have h1:=hl.gs.1;have h2:=hl.len;rw [(List.length_eq_zero_iff.mp (Nat.le_zero.mp (List.getElem?_eq_none_iff.mp e)))] at h1;rw [<-h1] at h2;have:=hP.c2;exact absurd h2 (by show ¬(0=P.c);lia)
noncomputable def CO (c:Nat) (v:V):V:= .tup [l5 1 v, .tup (((jf (l5 0 v)).getD []).take (cond (bw (l5 1 v) (.str single)) c (c / 2)))]
theorem pY (c:Nat) (l:Ln):CO c (hY l)=bU l c:=by
 show V.tup [.str l.sz, .tup ((l.cs.map bh.v).take (cond (l.sz==single) c (c / 2)))]=V.tup [.str l.sz, .tup ((l.cs.take (l.wd c)).map bh.v)];refine bi List.map_take ?_;rfl
noncomputable def tupV (v:V):V:=match vW v with | some l=> .tup l | none=> .none
section
variable {Y:be} {Q X:KV} {K:KF} {H:bv} {D R a a' b F:Addr} {r:List DS} {P P':Pc} {B:List (List Nat)} {m:Nat}
theorem l423 (h39:H 39=some (.ref D)) (h31:H 31=some (.lst ((bj P).map .str))) (h:bK Y D R) (hP:cL P) (q:∀B m Y',jg B->cT B m->fB D R Y Y'->exDs tab (Gm 55) r ((H.set 68 (.lst (B.map .str))).set 0 (bc m)) Y' K X):exDs tab (Gm 55) (uH::r) H Y K X:=
 bg h39 (bg h31 (q49 h hP.bok.n (Nat.le_add_left 2 _) hP.bok.row (Ay hP) (Bu hP) fun B m Y' hb d o=>q B m Y' (oB hP hb).1 (oB hP hb).2 o))
theorem sm {n i:Nat} {ds:List V} (h:i≠n) (q:Gm n i ds Y Q X):Gm (n+1) i ds Y Q X:=by
 show cond (Nat.beq i n) _ _;refine bi (yP h) ?_;exact q
theorem GA {n:Nat} {ds:List V} (q:bd (Gm n) n ds Y Q X):Gm (n+1) n ds Y Q X:=by
 show cond (Nat.beq n n) _ _;rw [Nat.beq_refl];exact q
theorem q50r (hR:cT B m) (q:∀Y',qi Y Y'->Q (bc m) Y'):bd (Gm 50) 50 [.bytes (bk [10] B)] Y Q X:=q50 (hR Y _ _ q)
theorem q50g (hR:cT B m) (q:∀Y',qi Y Y'->Q (bc m) Y'):Gm 55 50 [.bytes (bk [10] B)] Y Q X:=sm (n:=54) (by decide) (sm (n:=53) (by decide) (sm (n:=52) (by decide) (sm (n:=51) (by decide) (GA (n:=50) (q50r hR q)))))
theorem yl {Γ:dW} {i:Nat} {v:V} (q:Γ i [v] Y Q X):evs tab Γ [] H Y (fun vs Jp=>oO Γ (.user i) (v::vs) Jp Q X) X:=q
theorem q50e (hR:cT B m) (q:∀Y',qi Y Y'->Q (bc m) Y'):evs tab (Gm 55) [] H Y (fun vs Jp=>oO (Gm 55) (.user 50) (.bytes (bk [10] B)::vs) Jp Q X) X:=yl (Γ:=Gm 55) (q50g hR q)
theorem l424 (h68:H 68=some (.lst (B.map .str))) (h0:H 0=some (bc m)) (hB:jg B) (hR:cT B m) (q:∀Y',qi Y Y'->exDs tab (Gm 55) r H Y' K X):exDs tab (Gm 55) (vg::r) H Y K X:=by
 refine bg h68 ?_;refine q48 (aj hB.n (by decide)) hB.row hB.b ?_;refine q50e hR ?_;intro Y' k;refine bg h0 ?_;exact rq (b:= !(decide ((m:Int)=m))) (by refine bi (aA rfl) ?_;rfl) (q Y' k)
theorem l426 (h20:H 20=some (.ref a)) (h21:H 21=some (.ref a')) (h17:H 17=some (bP P)) (h18:H 18=some (bP P')) (hP:cL P) (hP':cL P') (ec:P'.c=P.c) (en:P'.ls.length=P.ls.length) (h:bJ Y a P) (h':bJ Y a' P') (q:exDs tab (Gm 55) r H Y K X):exDs tab (Gm 55) (se::r) H Y K X:=by
 have hl:(jF P.c 0 P.ls P'.ls []).length<=16777216:=by
  have h1:=aB List.length (zm hP hP' ec en);rw [ah] at h1;rw [h1];have:=mD (P':=P') hP.ok P.ls.length;have:=hP.n3;exact bz (m:=18) (by lia) rfl
 refine bg h20 (bg h21 (q15 hP.ok hP'.ok h h' en ec ?_));refine fM (l:=jF P.c 0 P.ls P'.ls []) (zm hP hP' ec en).symm tupV hl (fun U e=>bZ e) (fun M hM t ht acc K K' q=>q) ?_;refine bg h17 (bg h18 (q53 hP.ok hP'.ok ec en hP.c2 ?_));have eo:∀l:List Tr,iu (.lst (l.map iK)) 8=true:=fun l=>cB fun U=>rfl;refine cD (b:=gz (.lst ((jF P.c 0 P.ls P'.ls []).map iK)) (.lst ((jF P.c 0 P.ls P'.ls []).map iK))) (bY (eo _) (eo _)) ?_;exact rq (b:= !(eqVs ((jF P.c 0 P.ls P'.ls []).map iK) ((jF P.c 0 P.ls P'.ls []).map iK))) (by rw [eU A7];rfl) q
noncomputable def cn (P P':Pc):List V:=(P.ls++P'.ls).map (bU · P.c)
theorem l428 (h17:H 17=some (bP P)) (h18:H 18=some (bP P')) (hP:cL P) (hP':cL P') (ec:P'.c=P.c) (q:exDs tab (Gm 55) r (H.set 47 (.lst (cn P P'))) Y K X):exDs tab (Gm 55) (tX::r) H Y K X:=by
 have h6:(P.ls++P'.ls).length<=6:=by rw [ai];have:=hP.n3;have:=hP'.n3;lia
 refine bg h17 (bg h18 (bx (p:=(P.ls.map hY++P'.ls.map hY).length<=16777216) (by rw [<-aJ,ah];exact bz h6 rfl) ?_));refine fM (g:=hY) aJ.symm (CO P.c) (bz h6 rfl) (fun U e=>bZ e) (fun M hM l hl acc K K' q=> ?_) ?_
 ·have hc:l.cs.length=P.c:=(aD.mp hl).elim (fun h=>(hP.ls l h).len) fun h=>ec▸(hP'.ls l h).len;refine ji ?_;refine Gg hc hP.c6 (bx (p:=((l.shc P.c).map bh.v).length<=16777216) ?_ ?_)
  ·rw [ah];unfold Ln.shc;rw [aV,hc];exact bz (aj (Nat.min_le_right _ _) hP.c6) rfl
  ·rw [pY] at q;exact q
 ·rw [List.map_congr_left fun l U=>pY P.c l];exact q
theorem j4 (P P':Pc):∀v∈cn P P',iu v 8=true/\bw v v=true:=fun v hv=>by
 refine bu (aN.mp hv) fun l U y1=> ?_;subst y1;exact ⟨kc l P.c 4,ja l P.c⟩
theorem f431 {v:V} {ks:List V} (h52:H 52=some v) (h63:H 63=some (.ref F)) (hF:Y F=some (.list ks)) (hv:iu v 8=true) (hk:∀x∈ks,iu x 8=true) (hl:ks.length<=50) (q:K .next H (Y.set F (.list (bN ks v)))):exDs tab (Gm 55) yn H Y K X:=by
 unfold bN at q;refine bg h52 (bg h63 ?_)
 have go:(match cI (.ref F) Y with
  | some l=>gd (l.all (gz · v)) (pK (.bool (fl true (l.any (bw · v)))) (exDs tab (Gm 55) [mN] H Y (fun fl Ji Jo=>match fl with | .next=>exDs tab (Gm 55) [] Ji Jo K X | fl=>K fl Ji Jo) X) (exDs tab (Gm 55) [] H Y (fun fl Ji Jo=>match fl with | .next=>exDs tab (Gm 55) [] Ji Jo K X | fl=>K fl Ji Jo) X))
  | none=>on (lP (.ref F) Y) fun p=>gd (decide (p.1≠1)) (gd (hO v) (pK (.bool (fl true (p.2.any (fun e=>bw e.1 v)))) (exDs tab (Gm 55) [mN] H Y (fun fl Ji Jo=>match fl with | .next=>exDs tab (Gm 55) [] Ji Jo K X | fl=>K fl Ji Jo) X) (exDs tab (Gm 55) [] H Y (fun fl Ji Jo=>match fl with | .next=>exDs tab (Gm 55) [] Ji Jo K X | fl=>K fl Ji Jo) X)))):=by
  rw [(jw hF)];refine cD (aG.mpr fun x hx=>bY (hk x hx) hv) ?_;refine cu (b:= !(ks.any (bw · v))) (fun e=> ?_) fun e=> ?_
  ·rw [(aZ _).mp e] at q;exact bg h63 (cD (ce hF) (bg h52 (bg (bF hF) (bx (az hl (ad rfl)) q))))
  ·rw [(Bool.not_eq_false' _).mp e] at q;have q:K .next H (Y.set F (.list ks)):=q;rw [be.set_self hF] at q;exact q
 exact go
end
section
variable {Y:be} {Q X:KV} {K:KF} {H:bv} {D R a a' b F d:Addr} {r:List DS} {P P':Pc} {m:Nat} {ks:List V}
theorem A8 {pp:Pos} {Q:KF} (h63:H 63=some (.ref F)):∀(vs ks:List V) (H':bv),(∀n,Nat.beq n 52=false->H' n=H n)->(∀v∈vs,iu v 8=true)->(∀v∈ks,iu v 8=true)->ks.length+vs.length<=50->(∀H',(∀n,Nat.beq n 52=false->H' n=H n)->Q .next H' (Y.set F (.list (vs.foldl bN ks))))->fZ (fun H' Y' Q'=>exDs tab (Gm 55) yn H' Y' Q' X) (.n false 52 pp) none vs H' (Y.set F (.list ks)) Q:=by
 intro zl
 induction zl with
 | nil=>
  exact fun ks H' ag U U U q=>q H' ag
 | cons v vs ih=>
  intro ks H' ag hv hk hl q;have hl:ks.length+(vs.length+1)<=50:=hl
  have ag':∀n,Nat.beq n 52=false->(H'.set 52 v) n=H n:=fun n e=>by
   show cond (Nat.beq n 52) _ _=_;rw [e];exact ag n e
  have al:=kP (v:=v) (ks:=ks);refine bg (x:=H'.set 52 v) rfl ?_;refine f431 (bv.set_same _ _ _) ((ag' 63 rfl).trans h63) (be.set_same _ _ _) (hv v (.head _)) hk (by lia) ?_;refine tn ?_;rw [be.set_set];exact ih (bN ks v) _ ag' (fun y hy=>hv y (.tail _ hy)) (pX [v] ks (fun y hy=>ao.mp hy▸hv v (.head _)) hk) (by lia) q
theorem l430 {vs:List V} (h47:H 47=some (.lst vs)) (h63:H 63=some (.ref F)) (hv:∀v∈vs,iu v 8=true) (hl:vs.length<=50) (q:∀H',(∀n,Nat.beq n 52=false->H' n=H n)->exDs tab (Gm 55) r H' (Y.set F (.list (vs.foldl bN []))) K X):exDs tab (Gm 55) (uz::r) H (Y.set F (.list [])) K X:=
 bg h47 (A8 h63 vs [] H (fun U U=>rfl) hv (fun U h=>fh h) (by rw [List.length_nil];lia) q)
theorem l433 (q:∀a d Y',d5 Y' a d []->du Y Y'->exDs tab (Gm 55) r (H.set 64 (.ref a)) Y' K X):exDs tab (Gm 55) (tE::r) H Y K X:=(show bd (Gm 16) 16 [] Y (fun v Jo=>exDs tab (Gm 55) r (H.set 64 v) Jo K X) X from q16 fun a d Y' h1 h2=>q a d Y' h1 h2)
theorem qc:∀(vs ks:List V),(gy ks vs).length=vs.length:=by
 intro zl
 induction zl with
 | nil=>
  exact fun U=>rfl
 | cons v r ih=>
  exact fun ks=>aB (· +1) (ih (bN ks v))
theorem xW (h:P'.c=P.c):gy [] (P.ls.map (bU · P.c))++gy ((P.ls.map (bU · P.c)).foldl bN []) (P'.ls.map (bU · P'.c))=(cn P P').map fun v=>fH v ((cn P P').foldl bN []):=by
 rw [h,<-ya];refine rt aJ ?_;exact AP (cn P P') [] fun v hv=>(j4 P P' v hv).2
theorem l434 (h64:H 64=some (.ref b)) (h20:H 20=some (.ref a)) (h21:H 21=some (.ref a')) (hP:cL P) (hP':cL P') (ec:P'.c=P.c) (h:d5 Y b d []) (hp:bJ Y a P) (hp':bJ Y a' P') (q:∀ks,exDs tab (Gm 55) r (H.set 65 (.lst ((cn P P').map fun v=>bc (fH v ((cn P P').foldl bN []))))) (Y.set d (.dict (lh 0 ks))) K X):exDs tab (Gm 55) (sy::r) H Y K X:=by
 have n3:=hP.n3;have k1:((P.ls.map (bU · P.c)).foldl bN []).length<=3:=aj (pC _ _) (by rw [ah,List.length_nil];lia);have h':=h.same (ks':=(P.ls.map (bU · P.c)).foldl bN []);obtain ⟨dx,i⟩:=h.i;obtain ⟨dx',i'⟩:=h'.i;have g1:((gy [] (P.ls.map (bU · P.c))).map bc).length<=3:=by rw [ah,qc,ah];exact n3
 have g2:((gy ((P.ls.map (bU · P.c)).foldl bN []) (P'.ls.map (bU · P'.c))).map bc).length<=3:=by rw [ah,qc,ah];exact (hP'.n3)
 refine bg h64 (bm i rfl (bg h20 (q18 hP.ok h hp (aX _) (fun l U=>ja l P.c) ?_)));refine bx (p:=((gy [] (P.ls.map (bU · P.c))).map bc).length<=16777216) (bz g1 rfl) ?_;refine bg h64 (bm i' rfl (bg h21 (q18 hP'.ok h' (hp'.dict h.e) (by exact aj ‹_› (ad rfl)) (fun l U=>ja l P'.c) ?_)));refine bx (p:=((gy ((P.ls.map (bU · P.c)).foldl bN []) (P'.ls.map (bU · P'.c))).map bc).length<=16777216) (bz g2 rfl) ?_;refine bx (p:=((gy [] (P.ls.map (bU · P.c))).map bc++(gy ((P.ls.map (bU · P.c)).foldl bN []) (P'.ls.map (bU · P'.c))).map bc).length<=16777216) (by rw [ai];exact bz (m:=6) (by lia) rfl) ?_;rw [be.set_set,<-aJ,xW ec,List.map_map];exact q _
theorem l435 (h65:H 65=some (.lst ((cn P P').map fun v=>bc (fH v ((cn P P').foldl bN []))))) (h47:H 47=some (.lst (cn P P'))) (h63:H 63=some (.ref F)) (hF:Y F=some (.list ((cn P P').foldl bN []))) (h6:(cn P P').length<=6) (q:exDs tab (Gm 55) r H Y K X):exDs tab (Gm 55) (tK::r) H Y K X:=by
 refine bg h65 (bg h47 ?_);refine fM (l:=cn P P') (List.map_id _).symm (fun v=>bc (fH v ((cn P P').foldl bN []))) (bz h6 rfl) (fun U e=>bZ e) (fun M hM v hv acc K K' q=> ?_) ?_
 ·refine cr fun hn=> ?_;obtain ⟨hv1,hv2⟩:=j4 P P' v hv;obtain ⟨ix,hix⟩:=kJ v _ (mh (cn P P') [] v hv hv2);refine hn ?_;have hF':(Y.set M (.list acc)) F=some (.list ((cn P P').foldl bN [])):=(be.set_ne _ _ (fun r=>by rw [r,hM] at hF;exact bZ hF:F≠M)).trans hF;have q:K (bc (fH v ((cn P P').foldl bN []))) (Y.set M (.list acc)):=q;rw [(show fH v ((cn P P').foldl bN [])=ix by delta fH;rw [hix];rfl)] at q;refine ji ?_;refine bg h63 (cD (b:=(fv (.ref F)).isSome || (dC (.ref F) (Y.set M (.list acc))).isSome) (by rw [gb hF'];rfl) ?_);refine bg (gb hF') (cD (ay.mpr ⟨hv1,aG.mpr (pX _ _ (fun v hv=>(j4 P P' v hv).1) fun U h=>fh h)⟩) (bx (bz (show ((cn P P').foldl bN []).length<=6 from aj (pC _ _) (by rw [List.length_nil];lia)) rfl) (bg hix q)))
 ·have eo:iu (.lst ((cn P P').map fun v=>bc (fH v ((cn P P').foldl bN [])))) 8=true:=cB fun U=>rfl;refine cD (bY eo eo) ?_;refine rq (b:= !(eqVs ((cn P P').map fun v=>bc (fH v ((cn P P').foldl bN []))) ((cn P P').map fun v=>bc (fH v ((cn P P').foldl bN []))))) (by rw [eU (fun v=>z5 _)];rfl) ?_;exact q
theorem l437 (h17:H 17=some (bP P)) (hP:cL P) (q:exDs tab (Gm 55) r (H.set 46 (bc P.ls.length)) Y K X):exDs tab (Gm 55) (uC::r) H Y K X:=by
 refine bg h17 (bx (p:=(P.ls.map hY).length<=16777216) (hP.ok.lines _) ?_);refine bi (show ((P.ls.map hY).length:Int)=P.ls.length by rw [ah]) ?_;exact q
noncomputable def jH (P P':Pc):Bool:=qp P P' && bw (.bool P.sh) (.bool P'.sh)
theorem sU (l:List Ln) (c:Nat):iu (.lst (l.map (bU · c))) 8=true:=cB (n:=7) fun x=>kc x c 3
theorem l438 (h47:H 47=some (.lst (cn P P'))) (h46:H 46=some (bc P.ls.length)) (h17:H 17=some (bP P)) (h18:H 18=some (bP P')) (ec:P'.c=P.c) (h6:(cn P P').length<=6) (q:exDs tab (Gm 55) r (H.set 66 (.bool (jH P P'))) Y K X):exDs tab (Gm 55) (s4::r) H Y K X:=by
 have h6':(cn P P').length<=16777216:=bz h6 rfl
 have e1:(cn P P').take P.ls.length=P.ls.map (bU · P.c):=by
  delta cn;rw [aJ,List.take_left' (by (refine ak (ah ..) ?_;rfl))]
 have e2:(cn P P').drop P.ls.length=P'.ls.map (bU · P'.c):=by
  delta cn;rw [aJ,List.drop_left' (by (refine ak (ah ..) ?_;rfl)),ec]
 have hA:eqVs ((cn P P').take P.ls.length) ((cn P P').drop P.ls.length)=qp P P':=by rw [e1,e2];rfl
 delta jH at q;refine bg h47 (bg h46 (bx h6' (bg (gF _ _) (bx (p:=((cn P P').take P.ls.length).length<=16777216) (aj (List.length_take_le' _ _) h6') ?_))));refine bg h47 (bg h46 (bx h6' (bg (iH _ _) (bx (p:=((cn P P').drop P.ls.length).length<=16777216) (by rw [List.length_drop];exact aj (Nat.sub_le _ _) h6') ?_))));refine cD (b:=gz (.lst ((cn P P').take P.ls.length)) (.lst ((cn P P').drop P.ls.length))) (by rw [e1,e2];exact bY (sU _ _) (sU _ _)) ?_;refine cu (b:=eqVs ((cn P P').take P.ls.length) ((cn P P').drop P.ls.length)) (fun e=> ?_) fun e=> ?_
 ·rw [hA] at e;rw [e] at q;refine bg h17 (bg h18 ?_);refine cu (b:=bw (.bool P.sh) (.bool P'.sh)) (fun e=> ?_) fun e=> ?_<;>(rw [e] at q;exact q)
 ·rw [hA] at e;rw [e] at q;exact q
theorem l439 (h20:H 20=some (.ref a)) (h21:H 21=some (.ref a')) (h66:H 66=some (.bool (jH P P'))) (h17:H 17=some (bP P)) (h18:H 18=some (bP P')) (hP:cL P) (hP':cL P') (ec:P'.c=P.c) (en:P'.ls.length=P.ls.length) (h:bJ Y a P) (h':bJ Y a' P') (q:exDs tab (Gm 55) r H Y K X):exDs tab (Gm 55) (sV::r) H Y K X:=by
 have g:=h;obtain ⟨dx,i⟩:=h;have eb:=w9 (bw (.bool P.sh) (.bool P'.sh)) P.sh (bw (bO P) (bO P')) (qp P P');rw [<-m7 P P' en] at eb
 have fin:∀v:Bool,v=(jH P P' && (!P.sh || bw (bO P) (bO P')))->br (!(decide ((cond (xD P P') 1 0:Int)=cond v 1 0))) (exDs tab (Gm 55) [u2] H Y (fun fl Ji Jo=>match fl with | .next=>exDs tab (Gm 55) r Ji Jo K X | fl=>K fl Ji Jo) X) (exDs tab (Gm 55) r H Y K X):=fun v e=>by
  have:xD P P'=v:=eb.trans e.symm;rw [this,aA rfl];exact q
 refine bg h20 (bm i rfl (bg h21 (q09 hP.ok hP'.ok g h' en ec (bg h66 ?_))));refine cu (b:=jH P P') (fun e=> ?_) fun e=> ?_
 ·refine bg h17 ?_;refine cu (fun e1=> ?_) fun e1=> ?_
  ·refine bg h17 (bg h18 ?_);refine cu (b:= !(bw (bO P) (bO P'))) (fun e2=> ?_) fun e2=> ?_
   ·refine fin false ?_;rw [e,(aZ _).mp e2,show (!P.sh)=false from (aZ _).mp e1];rfl
   ·refine fin true ?_;rw [e,(Bool.not_eq_false' _).mp e2,show (!P.sh)=false from (aZ _).mp e1];rfl
  ·refine fin true ?_;rw [e,show (!P.sh)=true from (Bool.not_eq_false' _).mp e1];rfl
 ·refine fin false ?_;rw [e];rfl
end
noncomputable def kr (P:Pc):V:= .lst (P.ls.map fun l=> .bool l.on)
noncomputable def kq (P P':Pc):Bool:=jH P P' && (bw (bO P) (bO P') && bw (kr P) (kr P'))
section
variable {Y:be} {Q X:KV} {K:KF} {H:bv} {D R a a' b F d:Addr} {r:List DS} {P P':Pc}
theorem l429 (q:∀F,Y F=none->exDs tab (Gm 55) r (H.set 63 (.ref F)) (Y.set F (.list [])) K X):exDs tab (Gm 55) (sn::r) H Y K X:=q
theorem l441 (h66:H 66=some (.bool (jH P P'))) (h17:H 17=some (bP P)) (h18:H 18=some (bP P')) (h35:H 35=some (kr P)) (hP':cL P') (q:exDs tab (Gm 55) r (H.set 67 (.bool (kq P P'))) Y K X):exDs tab (Gm 55) (vK::r) H Y K X:=by
 unfold kq at q;refine bg h66 (cu (b:=jH P P') (fun e=>bg h17 (bg h18 ?_)) fun e=> ?_)
 ·replace q:=e▸q;refine cu (b:=bw (bO P) (bO P')) (fun e=>bg h35 (bg h18 ?_)) fun e=> ?_
  ·replace q:=e▸q;refine cj (l5 2) (Dh hP'.ok) (fun U e=>bZ e) (fun M hM l hl acc K K' q=>q) ?_;refine cD (bY (cB (n:=7) fun U=>rfl) (cB (n:=7) fun U=>rfl)) ?_;refine cu (b:=bw (kr P) (kr P')) (fun e=> ?_) fun e=> ?_<;>(rw [e] at q;exact q)
  ·rw [e] at q;exact q
 ·replace q:=e▸q;exact q
theorem l442 (h20:H 20=some (.ref a)) (h21:H 21=some (.ref a')) (h67:H 67=some (.bool (kq P P'))) (hP:cL P) (hP':cL P') (ec:P'.c=P.c) (en:P'.ls.length=P.ls.length) (h:bJ Y a P) (h':bJ Y a' P') (q:Q (.bool true) Y):exDs tab (Gm 55) [uK] H Y (cQ Q) X:=by
 have g:=h;refine dU h fun dx i=> ?_;have eb:=rO (bw (.bool P.sh) (.bool P'.sh)) P.sh (bw (bO P) (bO P')) (qp P P') (bw (kr P) (kr P'));rw [<-m7 P P' en] at eb;refine bg h20 (bm i rfl (bg h21 (q10 hP.ok hP'.ok g h' en ec (bg h67 ?_))))
 have e2:xA Q (.bool (bw (.bool (xD P P' && (bw (bO P) (bO P') && bw (kr P) (kr P')))) (.bool (kq P P')))) Y:=by
  refine bi (show (xD P P' && (bw (bO P) (bO P') && bw (kr P) (kr P')))=kq P P' from eb) ?_;rw [jC];exact bR q
 exact e2
end
theorem law_ok (l:List Int) (hl:l.length<=63):fnB (Gm 55) (wj 55) [.lst (l.map V.int)] (fun U=>none) (fun v U=>v= .bool true) fun U U=>False:=by
 refine ⟨rfl,l411 hl rfl fun D R σ1 d1=>l412 rfl d1 fun P σ2 hP d2=>l413 rfl rfl d2 hP fun P' σ3 hP' ec en d3=>l414 rfl rfl hP hP' d3 fun a a' σ4 p4 p4' d4=> ?_⟩;refine l415 rfl hP (l416 rfl rfl rfl rfl hP (l417 rfl rfl rfl hP p4 (l419 rfl hP fun b σ5 pb x5=>l420 rfl hP pb ?_)));refine l421 rfl rfl rfl rfl hP (p4.ext x5) pb (l423 rfl rfl (d4.ext x5) hP fun B m σ6 hB hR o6=>l424 rfl rfl hB hR fun σ7 k7=> ?_);have q4:=((p4.ext x5).off (d4.ext x5) o6).kp k7;have q4':=((p4'.ext x5).off (d4.ext x5) o6).kp k7
 have h6:(cn P P').length<=6:=by
  unfold cn;rw [ah];refine bi ai ?_;have:=hP.n3;have:=hP'.n3;lia
 refine l426 rfl rfl rfl rfl hP hP' ec en q4 q4' (l428 rfl rfl hP hP' ec (l429 fun F hF=>l430 rfl rfl (fun v hv=>(j4 P P' v hv).1) (by exact aj ‹_› (ad rfl)) fun H' ag=> ?_));have r4:=q4.ext (.new (o:= .list ((cn P P').foldl bN [])) hF);have r4':=q4'.ext (.new (o:= .list ((cn P P').foldl bN [])) hF);refine l433 fun kb kd σ8 hK x8=>l434 (ag 64 rfl |>fun U=>rfl) (ag 20 rfl) (ag 21 rfl) hP hP' ec hK (r4.ext x8) (r4'.ext x8) fun ks=> ?_;have hF8:σ8 F=some (.list ((cn P P').foldl bN [])):=x8 _ _ (be.set_same _ _ _);have nF:F≠kd:=fun r=>by have:=hK.e;rw [<-r,hF8] at this;(replace this:=bW this;cases this)
 have t4:=(r4.ext x8).dict (es':=lh 0 ks) hK.e;have t4':=(r4'.ext x8).dict (es':=lh 0 ks) hK.e;refine l435 rfl (ag 47 rfl) (ag 63 rfl) ((be.set_ne _ _ nF).trans hF8) h6 (l437 (ag 17 rfl) hP (l438 (ag 47 rfl) rfl (ag 17 rfl) (ag 18 rfl) ec h6 ?_));refine l439 (ag 20 rfl) (ag 21 rfl) rfl (ag 17 rfl) (ag 18 rfl) hP hP' ec en t4 t4' (l441 rfl (ag 17 rfl) (ag 18 rfl) (ag 35 rfl) hP' ?_);exact l442 (ag 20 rfl) (ag 21 rfl) rfl hP hP' ec en t4 t4' rfl
end Mine
end
theorem PySem.Challenge.cw_og0260_01_holds : PySem.Challenge.rw_og0260_01.Holds := by
  exact Mine.holds_of Mine.law_ok
