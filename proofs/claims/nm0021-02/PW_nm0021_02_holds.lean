import PyProof.Rows.All
import Wide.All
import OpenK.AllK
import Wide.FinOn
import Lean
import PySem.Challenge.RW_nm0021_02
open PySem PySem.W PyProof.Rows
open List (all_eq_true any_cons any_map append_assoc append_nil drop_eq_nil_of_le filter_cons find?_cons findIdx?_cons foldl_cons forIn_cons getD_eq_getElem?_getD getElem?_drop getElem?_eq_getElem getElem?_eq_none getElem?_map getElem?_toArray length_append length_cons length_drop length_filter_le length_map length_nil length_range length_reverse length_set length_singleton length_take lookup_cons map_cons map_id map_map mem_append_left mem_append_right mem_cons mem_map mem_map_of_mem mem_of_getElem? mem_singleton not_mem_nil range_succ replicate size_toArray toList_toArray)
open Nat (add_assoc add_le_add add_le_add_left add_le_add_right add_right_comm le_add_left le_add_right le_antisymm le_of_eq le_of_lt le_of_lt_succ le_of_not_lt le_of_succ_le le_refl le_succ le_succ_of_le le_trans lt_irrefl lt_of_le_of_lt lt_of_lt_of_le lt_of_not_le lt_succ_of_lt lt_succ_self min_le_right mod_lt ne_of_gt ne_of_lt not_lt_zero sub_add_cancel sub_le succ_le_succ succ_pos zero_add zero_le)
open Int (add_lt_add_left add_zero emod_eq_of_lt lt_trans natCast_nonneg toNat_lt toNat_natCast toNat_of_nonneg)
open Heap (get?_push_of_some get?_push_size get?_update_self lt_size size_push)
open Array (getElem?_toList length_toList toList_push)
open Bool (and_eq_true false_eq_true not_eq_true not_eq_true' or_eq_false_iff or_eq_true)
open Option (isSome_map)
set_option Elab.async false
set_option tactic.hygienic false
set_option linter.all false
set_option genInjectivity false
set_option genSizeOf false
set_option compiler.extract_closed false
set_option bootstrap.genMatcherCode false
set_option maxRecDepth 4000
namespace Mine.Internal
section
set_option maxRecDepth 100000
theorem zKP:OpenLaw.wellSaid PySem.Challenge.rw_nm0021_02=true:=by decide +kernel
end
theorem qA:a=a∧b=b:=⟨rfl,rfl⟩
set_option hygiene false in
local macro_rules | `(()) => `(by first | decide | walk_at "r")
@[elab_as_elim] theorem rwm {α:Sort u} {a:α} {P:α->Prop} {b:α} (h:a=b) (q:P b):P a:=h▸q
theorem w3 {A B C:Prop}{P:Prop}(h:A/\B/\C)(k:A->B->C->P):P:=by obtain⟨s,t,u⟩:=h;exact k s t u
theorem vr {A B C D:Prop}{P:Prop}(h:A/\B/\C/\D)(k:A->B->C->D->P):P:=by obtain⟨s,t,u,v⟩:=h;exact k s t u v
theorem zC {A B:α->Prop}{P:Prop}(h:∃a,A a/\B a)(k:∀a,A a->B a->P):P:=by obtain⟨a,s,t⟩:=h;exact k a s t
theorem zU {A B C:α->Prop}{P:Prop}(h:∃a,A a/\B a/\C a)(k:∀a,A a->B a->C a->P):P:=by obtain⟨a,s,t,u⟩:=h;exact k a s t u
theorem zC3 {A B C D:α->Prop}{P:Prop}(h:∃a,A a/\B a/\C a/\D a)(k:∀a,A a->B a->C a->D a->P):P:=by obtain⟨a,s,t,u,v⟩:=h;exact k a s t u v
theorem vq {A B:α->β->Prop}{P:Prop}(h:∃a b,A a b/\B a b)(k:∀a b,A a b->B a b->P):P:=by obtain⟨a,b,s,t⟩:=h;exact k a b s t
theorem wF {A B C:α->β->Prop}{P:Prop}(h:∃a b,A a b/\B a b/\C a b)(k:∀a b,A a b->B a b->C a b->P):P:=by obtain⟨a,b,s,t,u⟩:=h;exact k a b s t u
theorem wn {A B C D:α->β->Prop}{P:Prop}(h:∃a b,A a b/\B a b/\C a b/\D a b)(k:∀a b,A a b->B a b->C a b->D a b->P):P:=by obtain⟨a,b,s,t,u,v⟩:=h;exact k a b s t u v
theorem zBd {A B:α->β->γ->Prop}{P:Prop}(h:∃a b c,A a b c/\B a b c)(k:∀a b c,A a b c->B a b c->P):P:=by obtain⟨a,b,c,s,t⟩:=h;exact k a b c s t
theorem wm {A B C:α->β->γ->Prop}{P:Prop}(h:∃a b c,A a b c/\B a b c/\C a b c)(k:∀a b c,A a b c->B a b c->C a b c->P):P:=by obtain⟨a,b,c,s,t,u⟩:=h;exact k a b c s t u
theorem vp {A B C D:α->β->γ->Prop}{P:Prop}(h:∃a b c,A a b c/\B a b c/\C a b c/\D a b c)(k:∀a b c,A a b c->B a b c->C a b c->D a b c->P):P:=by obtain⟨a,b,c,s,t,u,v⟩:=h;exact k a b c s t u v
theorem uJ {A B C D E:α->β->γ->Prop}{P:Prop}(h:∃a b c,A a b c/\B a b c/\C a b c/\D a b c/\E a b c)(k:∀a b c,A a b c->B a b c->C a b c->D a b c->E a b c->P):P:=by obtain⟨a,b,c,s,t,u,v,w⟩:=h;exact k a b c s t u v w
theorem zFQ {A B C D E F:α->β->γ->Prop}{P:Prop}(h:∃a b c,A a b c/\B a b c/\C a b c/\D a b c/\E a b c/\F a b c)(k:∀a b c,A a b c->B a b c->C a b c->D a b c->E a b c->F a b c->P):P:=by obtain⟨a,b,c,s,t,u,v,w,x⟩:=h;exact k a b c s t u v w x
theorem zJp {A B C D E F H I:α->β->γ->Prop}{P:Prop}(h:∃a b c,A a b c/\B a b c/\C a b c/\D a b c/\E a b c/\F a b c/\H a b c/\I a b c)(k:∀a b c,A a b c->B a b c->C a b c->D a b c->E a b c->F a b c->H a b c->I a b c->P):P:=by obtain⟨a,b,c,s,t,u,v,w,x,y,z⟩:=h;exact k a b c s t u v w x y z
theorem zIc {A B C D E F H I:α->β->γ->δ->Prop}{P:Prop}(h:∃a b c d,A a b c d/\B a b c d/\C a b c d/\D a b c d/\E a b c d/\F a b c d/\H a b c d/\I a b c d)(k:∀a b c d,A a b c d->B a b c d->C a b c d->D a b c d->E a b c d->F a b c d->H a b c d->I a b c d->P):P:=by obtain⟨a,b,c,d,s,t,u,v,w,x,y,z⟩:=h;exact k a b c d s t u v w x y z
set_option hygiene false in
local macro_rules | `(tactic| rw [$t:term]) => `(tactic| ((first | refine rwm ($t ..) ?_ | rewrite [$t:term]); try with_reducible rfl))
set_option hygiene false in
local macro_rules | `(tactic| rw [$t:term] at $h:ident) => `(tactic| first | replace $h := ($t ..) ▸ $h | rewrite [$t:term] at $h:ident)
section
inductive Val where
 | none
 | bool (b:Bool)
 | int (i:Int)
 | str (s:Str)
 | tup (vs:List Val)
 | ref (a:Addr)
inductive Fld where
 | op | dst | args | more | is_volatile | line | number | steps | end_ | name | params | is_static | slots | blocks | registers | has_value
 deriving DecidableEq
noncomputable def Fld.bw:List Str:=["op","dst","args","more","is_volatile","line","number","steps","end","name","params","is_static","slots","blocks","registers","has_value"]
noncomputable def Fld.all:List Fld:=[.op,.dst,.args,.more,.is_volatile,.line,.number,.steps,.end_,.name,.params,.is_static,.slots,.blocks,.registers,.has_value]
noncomputable def Fld.txt (f:Fld):Str:=Fld.bw.getD f.ctorIdx ""
theorem Fld.bI:Fld.bw.Nodup:=by decide +kernel
theorem Fld.cp (f:Fld):f.ctorIdx<16:=by cases f<;>decide
theorem Fld.bj (f:Fld):Fld.all[f.ctorIdx]?=some f:=by cases f<;>rfl
theorem Fld.bx (a b:Fld)(h:a.txt=b.txt):a=b:=by
 have key:∀f:Fld,Fld.bw[f.ctorIdx]?=some f.txt:=λf=>by
  have:f.ctorIdx<Fld.bw.length:=f.cp;unfold Fld.txt;rw[getD_eq_getElem?_getD];rw[getElem?_eq_getElem this];rfl
 obtain⟨l1,e1⟩:=List.getElem?_eq_some_iff.mp (key a);obtain⟨l2,e2⟩:=List.getElem?_eq_some_iff.mp (key b);have e:=(List.getElem_inj Fld.bI).mp ((e1.trans h).trans e2.symm)
 have:=a.bj;rw[e] at this;rw[b.bj] at this;exact(Option.some.inj this).symm
inductive Cls where
 | step | block | func
inductive GObj where
 | list (xs:List Val)
 | dict (es:List (Int×Val))
 | set (S:Int->Bool) (fresh:Bool)
 | inst (C:Cls) (fs:Fld->Option Val)
abbrev Gh:=Addr->Option GObj
noncomputable def Gh.upd (G:Gh)(a:Addr)(o:GObj):Gh:=λb=>if b=a then some o else G b
theorem Gh.aA (G:Gh)(a:Addr)(o:GObj):G.upd a o a=some o:=if_pos rfl
theorem Gh.aD (G:Gh)(o:GObj)(h:b≠a):G.upd a o b=G b:=if_neg h
inductive VR (h:Heap):Val->Value->Prop where
 | none:VR h .none .none
 | bool (b:Bool):VR h (.bool b) (.bool b)
 | int (i:Int) (t:Tok):VR h (.int i) (.int i t)
 | str (x:Str) (t:Tok):VR h (.str x) (.str x t)
 | ref (a:Addr):VR h (.ref a) (.ref a)
 | tup {a:Addr} {n:Nat} {vs:List Val} {ys:List Value} :
   h.get? a=some ⟨.type "tuple",.none,.seq ys.toArray n,#[]⟩->vs.length=ys.length->(∀(i:Nat) (v:Val) (y:Value),vs[i]?=some v->ys[i]?=some y->VR h v y)->VR h (.tup vs) (.ref a)
structure VRs (h:Heap)(vs:List Val)(ys:List Value):Prop where
 length:vs.length=ys.length
 at_:∀(i:Nat) (v:Val) (y:Value),vs[i]?=some v->ys[i]?=some y->VR h v y
theorem VR.aU (e:h.get? a=some ⟨.type "tuple",.none,.seq ys.toArray n,#[]⟩)(r:VRs h vs ys):VR h (.tup vs) (.ref a):=.tup e r.length r.at_
theorem VR.int_inv (r:VR h (.int i) y):∃t,y=.int i t:=by cases r;exact⟨_,rfl⟩
theorem VR.str_inv (r:VR h (.str x) y):∃t,y=.str x t:=by cases r;exact⟨_,rfl⟩
theorem VR.aC (r:VR h (.ref a) y):y=.ref a:=by cases r;rfl
theorem VR.bool_inv (r:VR h (.bool b) y):y=.bool b:=by cases r;rfl
theorem VR.none_inv (r:VR h .none y):y=.none:=by cases r;rfl
theorem VR.aT (r:VR h (.tup vs) y):∃a n ys,y=.ref a/\h.get? a=some ⟨.type "tuple",.none,.seq (List.toArray ys) n,#[]⟩/\VRs h vs ys:=by cases r with | tup e l k=>exact⟨_,_,_,rfl,e,l,k⟩
def IsT (o:Obj):Prop:=o.cls=.type "tuple"/\∃xs k,o.data=.seq xs k
theorem notT {o:Obj}{T:String}(h:o.cls=.type T)(n:(T == "tuple")=false:=by rfl):¬IsT o:=λt=>by
 have:=h.symm.trans t.1;cases this;cases n
def TK (h h':Heap):Prop:=∀a o,h.get? a=some o->IsT o->h'.get? a=some o
theorem TK.refl (h:Heap):TK h h:=λ_ _ e _=>e
theorem TK.trans (x:TK h1 h2)(y:TK h2 h3):TK h1 h3:=λa o e c=>y a o (x a o e c) c
theorem TK.of_keep (k:∀b o,h.get? b=some o->h'.get? b=some o):TK h h':=λa o e _=>k a o e
theorem TK.extBut (hs:Heap.ExtBut a h h')(ho:h.get? a=some o)(hc:¬IsT o):TK h h':=λb o' e c=>
 hs b o' (λq=>by subst q;rw[ho] at e;cases e;exact hc c) e
theorem TK.aL (hs:Heap.SameBut a h h')(ho:h.get? a=some o)(hc:¬IsT o):TK h h':=.extBut hs.extBut ho hc
theorem TK.sameBut (hs:Heap.SameBut a h h')(ho:h.get? a=some o)(hc:o.cls≠.type "tuple"):TK h h':=.aL hs ho λc=>hc c.1
theorem VR.mono (k:TK h h')(r:VR h v y):VR h' v y:=by
 induction r with
 | none=>exact .none
 | bool b=>exact .bool b
 | int i t=>exact .int i t
 | str x t=>exact .str x t
 | ref a=>exact .ref a
 | tup e l _ ih=>exact .tup (k _ _ e ⟨rfl,_,_,rfl⟩) l ih
theorem VRs.mono (k:TK h h')(r:VRs h vs ys):VRs h' vs ys:=⟨r.length,λi v y a b=>(r.at_ i v y a b).mono k⟩
section
variable {h:Heap}
theorem VRs.get (r:VRs h vs ys){i:Nat}(e:vs[i]?=some v):∃y,ys[i]?=some y/\VR h v y:=by have hi:=(List.getElem?_eq_some_iff.mp e).1;rw[r.length] at hi;exact⟨_,getElem?_eq_getElem hi,r.at_ i v _ e (getElem?_eq_getElem hi)⟩
theorem VRs.nil:VRs h [] []:=⟨rfl,λi v y a _=>by cases a⟩
theorem VRs.cons {v:Val}{vs:List Val}{y:Value}{ys:List Value}(a:VR h v y)(r:VRs h vs ys):VRs h (v::vs) (y::ys):=
 ⟨congrArg (· + 1) r.length,λi w z e1 e2=>by
  cases i with
  | zero=>cases e1;cases e2;exact a
  | succ i=>exact r.at_ i w z e1 e2⟩
theorem VRs.cons_inv (r:VRs h (v::vs) zs):∃y ys,zs=y::ys/\VR h v y/\VRs h vs ys:=by
 cases zs with
 | nil=>exact absurd r.length (by simp)
 | cons y ys=>exact⟨y,ys,rfl,r.at_ 0 v y rfl rfl,by simpa using r.length,λi w z e1 e2=>r.at_ (i+1) w z e1 e2⟩
theorem VRs.nil_inv (r:VRs h [] zs):zs=[]:=List.length_eq_zero_iff.mp r.length.symm
theorem VRs.af (r:VRs h [v] zs):∃y,zs=[y]/\VR h v y:=by refine wF r.cons_inv λy ys e a b=>?_;exact⟨y,by rw[e];rw[b.nil_inv],a⟩
theorem VRs.ae (r:VRs h [v,w] zs):∃y z,zs=[y,z]/\VR h v y/\VR h w z:=by refine wF r.cons_inv λy ys e a b=>?_;refine zC b.af λz e' c=>?_;exact⟨y,z,by rw[e];rw[e'],a,c⟩
theorem VRs.single (a:VR h v y):VRs h [v] [y]:=.cons a .nil
theorem VRs.append (a:VRs h vs ys)(b:VRs h ws zs):VRs h (vs++ws) (ys++zs):=
 ⟨by rw[length_append];rw[length_append];rw[a.length];rw[b.length],λi v y e1 e2=>by
  by_cases hi:i<vs.length
  ·rw[List.getElem?_append_left hi] at e1;rw[List.getElem?_append_left (a.length▸hi)] at e2;exact a.at_ i v y e1 e2
  ·rw[List.getElem?_append_right (le_of_not_lt hi)] at e1;rw[List.getElem?_append_right (le_of_not_lt (a.length▸hi))] at e2;exact b.at_ _ v y e1 (by rw[a.length];exact e2)⟩
theorem VRs.take (a:VRs h vs ys)(n:Nat):VRs h (vs.take n) (ys.take n):=
 ⟨by rw[length_take];rw[length_take];rw[a.length],λi v y e1 e2=>by
  rw[List.getElem?_take] at e1 e2;by_cases hi:i<n
  ·rw[if_pos hi] at e1 e2;exact a.at_ i v y e1 e2
  ·rw[if_neg hi] at e1;cases e1⟩
theorem VRs.drop {vs:List Val}{ys:List Value}(a:VRs h vs ys)(n:Nat):VRs h (vs.drop n) (ys.drop n):=
 ⟨by rw[length_drop];rw[length_drop];rw[a.length],λi v y e1 e2=>by
  rw[getElem?_drop] at e1 e2;exact a.at_ _ v y e1 e2⟩
theorem VRs.reverse (a:VRs h vs ys):VRs h vs.reverse ys.reverse:=
 ⟨by rw[length_reverse];rw[length_reverse];rw[a.length],λi v y e1 e2=>by
  have hi:=(List.getElem?_eq_some_iff.mp e1).1;rw[length_reverse] at hi;rw[List.getElem?_reverse hi] at e1;rw[List.getElem?_reverse (a.length▸hi)] at e2;rw[<-a.length] at e2;exact a.at_ _ v y e1 e2⟩
theorem VRs.set (a:VRs h vs ys)(j:Nat)(b:VR h v y):VRs h (vs.set j v) (ys.set j y):=
 ⟨by rw[length_set];rw[length_set];rw[a.length],λi w z e1 e2=>by
  rw[List.getElem?_set] at e1 e2;by_cases hj:j=i
  ·rw[if_pos hj] at e1 e2;by_cases hl:i<vs.length
   ·rw[if_pos (hj▸hl)] at e1;rw[if_pos (hj▸a.length▸hl)] at e2;cases e1;cases e2;exact b
   ·rw[if_neg (hj▸hl)] at e1;cases e1
  ·rw[if_neg hj] at e1 e2;exact a.at_ i w z e1 e2⟩
end
structure Cx where
 prog:Program
 w:World
 K:Frag
 H0:Heap
 mg:Str->Option Value
 mb:Str->Option Value
 cA:Cls->Addr
 kin:K.In H0
 ng:H0.Ns mainGlobals mg
 nb:H0.Ns builtinsNs mb
 lim:H0.NoLimit
inductive DR (h:Heap):List (Int×Val)->List (Int×Value)->Prop where
 | nil:DR h [] []
 | cons {k:Int} {v:Val} {y:Value} {es:List (Int×Val)} {ys:List (Int×Value)}:VR h v y->DR h es ys->DR h ((k,v)::es) ((k,y)::ys)
theorem DR.mono (k:TK h h')(d:DR h es ys):DR h' es ys:=by
 induction d with
 | nil=>exact .nil
 | cons a _ ih=>exact .cons (a.mono k) ih
def FR (h:Heap)(od:Obj)(fs:Fld->Option Val):Prop:=∀f:Fld,(∀v,fs f=some v->∃y,lookIn f.txt od=some (some y)/\VR h v y)/\(fs f=none->lookIn f.txt od=some none)
theorem FR.mono (k:TK h h')(r:FR h od fs):FR h' od fs:=λf=>
 ⟨λv e=>by refine zC ((r f).1 v e) λy a b=>?_;exact⟨y,a,b.mono k⟩,(r f).2⟩
noncomputable def cap:Nat:=1048576
theorem ui (h:a<cap):a+1<=2 * cap:=le_trans h (Nat.le_mul_of_pos_left cap ())
theorem yA (h:a<cap):a<=2 * cap:=le_of_succ_le (ui h)
theorem zDr (h:a<=2 * cap):a<=16777216:=le_trans h (by unfold cap;decide)
theorem zIU (h:a<=2 * cap):(a:Int)<2 ^ 63:=Int.lt_of_le_of_lt (Int.ofNat_le.mpr h) (by unfold cap;decide)
theorem zKA (h:k<(cap:Int)):k<2 ^ 63:=lt_trans h (by unfold cap;decide)
theorem zGZ {i:Int}{c:Nat}{d:Int}(h:i.natAbs<c)(hd:(c:Int)<=d):i<d:=Int.lt_of_lt_of_le (Int.lt_of_le_of_lt Int.le_natAbs (Int.ofNat_lt.mpr h)) hd
theorem zIV {i:Int}{c:Nat}{d:Int}(h:i.natAbs<c)(hd:(c:Int)<=d) : -d<i:=by have:=zGZ (i:=-i) (by rw[Int.natAbs_neg];exact h) hd;exact Int.neg_lt_of_neg_lt this
theorem zEv (hk:k=m+1 - i)(h:i<m):m+1 - (i+1)<k:=by rw[hk];rw[Nat.add_sub_add_right];rw[Nat.succ_sub (le_of_lt h)];exact lt_succ_self _
theorem zJg (hj:j<i+1)(h:¬j=z)(hz:z=i):j<i:=Nat.lt_of_le_of_ne (le_of_lt_succ hj) λq=>h (q.trans hz.symm)
theorem zEK:i+(m+1)=i+1+m:=(Nat.succ_add_eq_add_succ i m).symm
theorem noI {C:Prop}{i:Int}(h:i<0)(h0:0<=i):C:=absurd h0 (Int.not_le.mpr h)
noncomputable def cntF (fs:Fld->Option Val):Nat:=Fld.all.countP λf=>(fs f).isSome
theorem zIo (fs:Fld->Option Val):cntF fs<=16:=List.countP_le_length
theorem zDl [DecidableEq α](p:α->Bool)(f:α)(l:List α)(hn:l.Nodup)(hm:f∈l):(l.countP λg=>if g=f then true else p g)=l.countP p+(if p f then 0 else 1):=by
 induction l with
 | nil=>cases hm
 | cons a l ih=>
  have hn':=List.nodup_cons.mp hn;rw[List.countP_cons];rw[List.countP_cons];by_cases ha:a=f
  ·subst ha
   have:(l.countP λg=>if g=a then true else p g)=l.countP p:=
    List.countP_congr λx hx=>by rw[if_neg (λq:x=a=>hn'.1 (q▸hx))]
   rw[this];rw[if_pos rfl];cases p a<;>rfl
  ·rw[ih hn'.2 ((List.mem_cons.mp hm).resolve_left (Ne.symm ha))];rw[if_neg ha];lia
theorem zGq (fs:Fld->Option Val)(f:Fld)(v:Val):cntF (λg=>if g=f then some v else fs g)=cntF fs+(if (fs f).isSome then 0 else 1):=by
 refine Eq.trans (congrArg (λp=>List.countP p Fld.all) ?_) (zDl (λg=>(fs g).isSome) f Fld.all () (by cases f<;>decide))
 funext g
 by_cases q:g=f
 ·simp only [if_pos q];rfl
 ·simp only [if_neg q]
def SetI (h:Heap)(a:Addr)(S:Int->Bool):Prop:=∃(ks:List (Int×Tok)) (ep:Nat) (t:SetTable),
 h.get? a=some ⟨.type "set",none,.set (ks.map λk=>(hashInt k.1,Value.int k.1 k.2)).toArray ep t,#[]⟩/\(ks.map (·.1)).Nodup/\(∀k,S k=true↔k∈ks.map (·.1))/\t.fits ks.length=true/\∀k∈ks.map (·.1),0<=k/\k<32
def Is (X:Cx)(h:Heap)(a:Addr):GObj->Prop
 | .list xs=>xs.length<=2 * cap/\∃ys n,h.get? a=some ⟨.type "list",none,.seq ys n,#[]⟩/\VRs h xs ys.toList
 | .dict es=>es.length<=2 * cap/\∃kvs:List (Int×Value),h.DictOf (intKind X.prog X.w) a kvs/\DR h es kvs
 | .set S fr=>SetI h a S/\(fr=true->∃led,h.get? a=some ⟨.type "set",none,.set #[] 0 (.fresh 0 0 led),#[]⟩)
 | .inst c fs=>∃d es n,h.get? a=some ⟨.ref (X.cA c),some d,.plain,#[]⟩/\h.get? d=some ⟨.type "dict",none,.dict es n,#[]⟩/\es.size<=cntF fs/\FR h ⟨.type "dict",none,.dict es n,#[]⟩ fs
noncomputable def GObj.a8:GObj->Bool
 | .inst ..=>true
 | _=>false
theorem Is.obj (i:Is X h a g):∃o,h.get? a=some o/\¬IsT o/\(g.a8=false->o.dict=none):=by
 cases g with
 | list xs=>obtain⟨_,ys,n,e,_⟩:=i;exact⟨_,e,notT rfl,λ_=>rfl⟩
 | dict es=>obtain⟨_,kvs,⟨o,_,_,e,x,_⟩,_⟩:=i;exact⟨_,e,notT x.1,λ_=>x.2.1⟩
 | set S fr=>obtain⟨⟨_,_,_,e,_⟩,_⟩:=i;exact⟨_,e,notT rfl,λ_=>rfl⟩
 | inst c fs=>refine zBd i λd es n e _=>?_;exact⟨_,e,(λt=>nomatch t.1),λq=>(nomatch q)⟩
theorem Is.move (i:Is X h a g)(k:TK h h')(ha:∀o,h.get? a=some o->h'.get? a=some o)
  (hd:∀o d,h.get? a=some o->o.dict=some d->∀od,h.get? d=some od->h'.get? d=some od):Is X h' a g:=by
 cases g with
 | list xs=>obtain⟨l,ys,n,e,r⟩:=i;exact⟨l,ys,n,ha _ e,r.mono k⟩
 | dict es=>obtain⟨l,kvs,⟨o,es',ep,e,x⟩,r⟩:=i;exact⟨l,kvs,⟨o,es',ep,ha _ e,x⟩,r.mono k⟩
 | set S fr=>obtain⟨⟨ks,ep,t,e,x⟩,r⟩:=i;exact⟨⟨ks,ep,t,ha _ e,x⟩,λq=>(r q).elim λled z=>⟨led,ha _ z⟩⟩
 | inst c fs=>refine vp i λd es n e e' z r=>?_;exact⟨d,es,n,ha _ e,hd _ _ e rfl _ e',z,r.mono k⟩
abbrev Bs:=Addr->Option Obj
noncomputable def Bs.put (b:Bs)(a:Addr)(o:Obj):Bs:=λx=>if x=a then some o else b x
noncomputable def Bs.del (b:Bs)(a:Addr):Bs:=λx=>if x=a then none else b x
theorem Bs.put_ne {b:Bs}{o:Obj}(h:x≠a):b.put a o x=b x:=if_neg h
theorem Bs.aE {b:Bs}{o:Obj}:b.put a o a=some o:=if_pos rfl
theorem Bs.aI {b:Bs}(h:x≠a):b.del a x=b x:=if_neg h
structure Rep (X:Cx)(b:Bs)(G:Gh)(h:Heap):Prop where
 keep:∀a o,b a=some o->h.get? a=some o
 low:∀a g,G a=some g->a≠sysModules
 own:∀a g,G a=some g->b a=none/\Is X h a g
 dsep:∀a c fs o d,G a=some (.inst c fs)->h.get? a=some o->o.dict=some d->b d=none/\G d=none/\∀a' c' fs' o',G a'=some (.inst c' fs')->h.get? a'=some o'->o'.dict=some d->a'=a
theorem Rep.step {W:Addr->Prop}{b b':Bs}(r:Rep X b G h)
  (hW:∀a,W a->∃o,b a=some o/\¬IsT o) (hk:∀a o,¬W a->h.get? a=some o->h'.get? a=some o)
  (hb':∀a o,b' a=some o->h'.get? a=some o) (hsub:∀a o,b' a=some o->(b a).isSome=true\/h.get? a=none\/IsT o):Rep X b' G h'/\TK h h':=by
 have tk:TK h h':=λa o e t=>hk a o (λw=>by refine zC (hW a w) λo' e' n=>?_;rw[r.keep _ _ e'] at e;cases e;exact n t) e;have nW:∀a,b a=none->¬W a:=λa e w=>by refine zC (hW a w) λ_ e' _=>?_;rw[e] at e';cases e'
 have nb:∀a o,b a=none->h.get? a=some o->¬IsT o->b' a=none:=λa o e ho ht=>by
  cases q:b' a with
  | none=>rfl
  | some o'=>
   rcases hsub a o' q with z | z | z
   ·rw[e] at z;cases z
   ·rw[z] at ho;cases ho
   ·have:=hb' a o' q;rw[hk a o (nW a e) ho] at this;cases this;exact absurd z ht
 refine⟨⟨hb',r.low,λa g e=>?_,λa c fs o d e e1 e2=>?_⟩,tk⟩
 ·obtain⟨p,i⟩:=r.own a g e;refine zU i.obj λo ho hc hd=>?_;refine⟨nb a o p ho hc,i.move tk (λo=>hk a o (nW a p)) λo' d eo ed od eod=>?_⟩;rw[ho] at eo;cases eo;cases g with
  | inst c fs=>exact hk d od (nW d (r.dsep a _ _ o d e ho ed).1) eod
  | _=>rw[hd rfl] at ed;cases ed
 ·obtain⟨p,i⟩:=r.own a _ e;refine wm (id i) λd0 es nn f1 f2 _=>?_;rw[hk a _ (nW a p) f1] at e1;cases e1;cases e2;refine w3 (r.dsep a c fs _ d e f1 rfl) λq1 q2 q3=>?_;refine⟨nb d _ q1 f2 (notT rfl),q2,λa' c' fs' o' e' e1' e2'=>?_⟩;obtain⟨p',i'⟩:=r.own a' _ e';refine zBd i' λ_ _ _ g1 _=>?_;rw[hk a' _ (nW a' p') g1] at e1';cases e1';exact q3 a' c' fs' _ e' g1 e2'
theorem Rep.mono (r:Rep X b G h)(k:∀a o,h.get? a=some o->h'.get? a=some o):Rep X b G h':=
 (r.step (W:=λ_=>False) (λ_ f=>f.elim) (λa o _ e=>k a o e) (λa o e=>k a o (r.keep a o e)) λa o e=>.inl (by rw[e];rfl)).1
theorem Rep.less (r:Rep X b' G h)(k:∀a o,b a=some o->b' a=some o):Rep X b G h:=
 (r.step (W:=λ_=>False) (λ_ f=>f.elim) (λa o _ e=>e) (λa o e=>r.keep a o (k a o e)) λa o e=>.inl (by rw[k a o e];rfl)).1
theorem Rep.a6 {X:Cx}{b:Bs}{G:Gh}{h h':Heap}{a:Addr}{g:GObj}(r:Rep X b G h)(ni:g.a8=false)(hl:a≠sysModules)(hb:b a=none)(hd:∀x c fs ox,G x=some (.inst c fs)->h.get? x=some ox->ox.dict≠some a/\x≠a)
  (tk:TK h h') (hs:∀x o,x≠a->h.get? x=some o->h'.get? x=some o) (i:Is X h' a g):Rep X b (G.upd a g) h':=by
 refine⟨λx ox e=>hs x ox (λq=>by rw[q] at e;rw[hb] at e;cases e) (r.keep x ox e),λx gx e=>?_,λx gx e=>?_,λx c fs ox d e e1 e2=>?_⟩
 ·by_cases q:x=a
  ·rw[q];exact hl
  ·rw[Gh.aD _ _ q] at e;exact r.low x gx e
 ·by_cases q:x=a
  ·subst q;rw[Gh.aA] at e;cases e;exact⟨hb,i⟩
  ·rw[Gh.aD _ _ q] at e;refine⟨(r.own x gx e).1,(r.own x gx e).2.move tk (λox eo=>hs x ox q eo) λox d eo ed od eod=>hs d od ?_ eod⟩;refine zU ((r.own x gx e).2.obj) λo2 eo2 _ ed2=>?_;rw[eo2] at eo;cases eo;revert ed2;cases gx with
   | inst c fs=>exact λ_ q'=>(hd x _ _ _ e eo2).1 (q'▸ed)
   | _=>intro ed2;rw[ed2 rfl] at ed;cases ed
 ·by_cases q:x=a
  ·subst q;rw[Gh.aA] at e;cases e;cases ni
  ·rw[Gh.aD _ _ q] at e;have back:∀{y c0 f0 o},y≠a->G y=some (.inst c0 f0)->h'.get? y=some o->h.get? y=some o:=λ{y c0 f0 o} n q1 q2=>by
    refine zBd ((r.own _ _ q1).2) λd0 _ _ e3 _=>?_;rw[hs y _ n e3] at q2;cases q2;exact e3
   have e1':=back q e e1;refine w3 (r.dsep x c fs ox d e e1' e2) λp1 p2 p3=>?_;refine⟨p1,(Gh.aD _ _ λq':d=a=>(hd x c fs ox e e1').1 (q'▸e2)).trans p2,λa' c' fs' o' f f1 f2=>?_⟩;by_cases q':a'=a
   ·subst q';rw[Gh.aA] at f;cases f;cases ni
   ·rw[Gh.aD _ _ q'] at f;exact p3 a' c' fs' o' f (back q' f f1) f2
theorem Rep.dA (r:Rep X b G h)(hn:h.get? a=none):G a=none:=by
 cases q:G a with
 | none=>rfl
 | some g=>refine zC ((r.own _ _ q).2.obj) λo ho _=>?_;rw[hn] at ho;cases ho
theorem Rep.noB (r:Rep X b G h)(hn:h.get? a=none):b a=none:=by
 cases q:b a with
 | none=>rfl
 | some o=>rw[r.keep _ _ q] at hn;cases hn
theorem Rep.alloc (r:Rep X b G h)(k:∀a o,h.get? a=some o->h'.get? a=some o)(hn:h.get? a=none)(hl:a≠sysModules)(i:Is X h' a g)(ni:g.a8=false) :
  Rep X b (G.upd a g) h':=
 r.a6 ni hl (r.noB hn) (λx c fs ox e e1=>⟨λq=>(by refine wm ((r.own _ _ e).2) λd _ _ e2 e3 _=>?_;rw[e1] at e2;cases e2;cases q;rw[hn] at e3;cases e3),λq=>(by rw[q] at e1;rw[hn] at e1;cases e1)⟩)
  (.of_keep k) (λx o _ e=>k x o e) i
theorem Rep.change (r:Rep X b G h)(hg:G a=some g)(ni:g.a8=false)(ni':g'.a8=false)(hs:Heap.SameBut a h h')(i:Is X h' a g') :
  Rep X b (G.upd a g') h'/\TK h h':=by obtain⟨hb,i0⟩:=r.own a g hg;refine zU i0.obj λo ho hc _=>?_;have tk:TK h h':=.aL hs ho hc;exact⟨r.a6 ni' (r.low a g hg) hb (λx c fs ox e e1=>⟨λq=>(by have:=(r.dsep x c fs ox a e e1 q).2.1;rw[hg] at this;cases this),λq=>(by rw[q] at e;rw[hg] at e;cases e;cases ni)⟩) tk (λx o n e=>(hs.2 x n).trans e) i,tk⟩
theorem Rep.one {b:Bs}{o o':Obj}(r:Rep X b G h)(hb:b a=some o)(ht:¬IsT o)(hs:Heap.ExtBut a h h')(ho:h'.get? a=some o'):Rep X (b.put a o') G h'/\TK h h':=
 r.step (W:=λx=>x=a) (λx e=>by subst e;exact⟨o,hb,ht⟩) (λx o hx e=>hs x o hx e) (λx ox e=>by
  by_cases q:x=a
  ·subst q;rw[Bs.aE] at e;cases e;exact ho
  ·rw[Bs.put_ne q] at e;exact hs x ox q (r.keep _ _ e)) λx ox e=>.inl (by
  by_cases q:x=a
  ·subst q;rw[hb];rfl
  ·rw[Bs.put_ne q] at e;rw[e];rfl)
theorem Rep.gone {b:Bs}{o:Obj}(r:Rep X b G h)(hb:b a=some o)(ht:¬IsT o)(hs:Heap.ExtBut a h h'):Rep X (b.del a) G h'/\TK h h':=
 r.step (W:=λx=>x=a) (λx e=>by subst e;exact⟨o,hb,ht⟩) (λx o hx e=>hs x o hx e) (λx ox e=>by
  by_cases q:x=a
  ·rw[q] at e;unfold Bs.del at e;rw[if_pos rfl] at e;cases e
  ·rw[Bs.aI q] at e;exact hs x ox q (r.keep _ _ e)) λx ox e=>.inl (by
  by_cases q:x=a
  ·rw[q] at e;unfold Bs.del at e;rw[if_pos rfl] at e;cases e
  ·rw[Bs.aI q] at e;rw[e];rfl)
theorem Rep.hide {b:Bs}{o:Obj}(r:Rep X b G h)(k:∀a o,h.get? a=some o->h'.get? a=some o)(hn:h.get? a=none)(ho:h'.get? a=some o):Rep X (b.put a o) G h':=
 (r.step (W:=λ_=>False) (λ_ f=>f.elim) (λa o _ e=>k a o e) (λx ox e=>by
  by_cases q:x=a
  ·subst q;rw[Bs.aE] at e;cases e;exact ho
  ·rw[Bs.put_ne q] at e;exact k x ox (r.keep _ _ e)) λx ox e=>by
  by_cases q:x=a
  ·subst q;exact .inr (.inl hn)
  ·rw[Bs.put_ne q] at e;exact .inl (by rw[e];rfl)).1
end
section
abbrev M:=Str->Val->Prop
def M.upd (m:M)(x:Str)(v:Val):M:=λy w=>(y=x/\w=v)\/(y≠x/\m y w)
inductive RD (G:Gh):Nat->Val->PyData->Prop where
 | none {n:Nat}:RD G n .none .none
 | bool {n:Nat} (b:Bool):RD G n (.bool b) (.bool b)
 | int {n:Nat} (i:Int):RD G n (.int i) (.int i)
 | str {n:Nat} {x:Str}:PyData.strOk x=true->RD G n (.str x) (.str x)
 | tup {n:Nat} {vs:List Val} {ds:List PyData}:vs.length=ds.length->(∀(i:Nat) (v:Val) (d:PyData),vs[i]?=some v->ds[i]?=some d->RD G n v d)->RD G (n+1) (.tup vs) (.tuple ds)
 | list {n:Nat} {a:Addr} {vs:List Val} {ds:List PyData}:G a=some (.list vs)->vs.length=ds.length->(∀(i:Nat) (v:Val) (d:PyData),vs[i]?=some v->ds[i]?=some d->RD G n v d)->RD G (n+1) (.ref a) (.list ds)
structure RDs (G:Gh)(n:Nat)(vs:List Val)(ds:List PyData):Prop where
 length:vs.length=ds.length
 at_:∀(i:Nat) (v:Val) (d:PyData),vs[i]?=some v->ds[i]?=some d->RD G n v d
theorem RD.aU (r:RDs G n vs ds):RD G (n+1) (.tup vs) (.tuple ds):=.tup r.length r.at_
theorem RD.aS (e:G a=some (.list vs))(r:RDs G n vs ds):RD G (n+1) (.ref a) (.list ds):=.list e r.length r.at_
theorem RDs.nil:RDs G n [] []:=⟨rfl,λi v d a _=>by cases a⟩
theorem RDs.cons {G:Gh}{n:Nat}{v:Val}{d:PyData}{vs:List Val}{ds:List PyData}(a:RD G n v d)(r:RDs G n vs ds):RDs G n (v::vs) (d::ds):=
 ⟨congrArg (· + 1) r.length,λi w z e1 e2=>by
  cases i with
  | zero=>cases e1;cases e2;exact a
  | succ i=>exact r.at_ i w z e1 e2⟩
theorem RDs.map {α:Type}{n:Nat}(f:α->Val)(g:α->PyData)(l:List α)(h:∀x∈l,RD G n (f x) (g x)):RDs G n (l.map f) (l.map g):=
 ⟨by rw[length_map];rw[length_map],λi v d e1 e2=>by
  rw[getElem?_map] at e1 e2;cases q:l[i]? with
  | none=>rw[q] at e1;cases e1
  | some x=>rw[q] at e1 e2;cases e1;cases e2;exact h x (mem_of_getElem? q)⟩
noncomputable def b2i (b:Bool):Int:=if b then 1 else 0
noncomputable def zm (es:List (Int×Val))(k:Int):Option Val:=(es.find? λkv=>kv.1=k).map (·.2)
noncomputable def uT (es:List (Int×Val))(k:Int)(v:Val):List (Int×Val):=
 if es.any (λkv=>kv.1=k) then es.map (λkv=>if kv.1=k then(kv.1,v) else kv) else es++[(k,v)]
noncomputable def zy {α:Type}(xs:List α)(i:Int):Option α:=if 0<=i then xs[i.toNat]? else if 0<=i+xs.length then xs[(i+xs.length).toNat]? else none
noncomputable def slice {α:Type}(xs:List α)(lo hi:Option Int):List α:=(xs.drop (kms_lo lo xs.length)).take (kms_hi hi xs.length - kms_lo lo xs.length)
noncomputable def uX (k:Nat):List Val:=(List.range k).map λ(i:Nat)=>Val.int i
noncomputable def zBg (xs:List Val):List Val:=xs.zipIdx.map λp=>.tup [.int p.2,p.1]
abbrev QE:=Val->Gh->Prop
def newList (xs:List Val)(G:Gh)(Q:QE):Prop:=∀c,G c=none->Q (.ref c) (G.upd c (.list xs))
abbrev NoE:Value->Shared->Prop:=λ_ _=>False
structure AOk (A:Around)(n:Nat):Prop where
 hd:A.handled=none
 dep:A.depth+3 * n+20<=recursionLimit
 uni:A.units+30 * n+300<=cLine
structure Fwd (s s':Shared):Prop where
 tk:TK s.heap s'.heap
 g:s'.gens=s.gens
 o:s'.os=s.os
theorem Fwd.refl:Fwd s s:=⟨.refl _,rfl,rfl⟩
theorem Fwd.trans (x:Fwd s s₁)(y:Fwd s₁ s₂):Fwd s s₂:=⟨x.tk.trans y.tk,y.g.trans x.g,y.o.trans x.o⟩
inductive Out (X:Cx)(b:Bs)(s:Shared)(Q:QE)(x:Value)(s':Shared):Prop where
 | mk (v:Val) (G':Gh) (hv:VR s'.heap v x) (hr:Rep X b G' s'.heap) (f:Fwd s s') (q:Q v G')
inductive OutT (X:Cx)(b:Bs)(s:Shared)(Q:Bool->Gh->Prop)(t:Bool)(s':Shared):Prop where
 | mk (G':Gh) (hr:Rep X b G' s'.heap) (f:Fwd s s') (q:Q t G')
theorem Out.next (o:Out X b s₁ Q x s')(f:Fwd s s₁):Out X b s Q x s':=by cases o with | mk v G' a1 a2 a3 a4=>exact .mk v G' a1 a2 (f.trans a3) a4
theorem OutT.next (o:OutT X b s₁ Q x s')(f:Fwd s s₁):OutT X b s Q x s':=by cases o with | mk G' a2 a3 a4=>exact .mk G' a2 (f.trans a3) a4
theorem Out.here (r:Rep X b G s.heap)(hv:VR s.heap v x)(q:Q v G):Out X b s Q x { s with toks:=tk }:=
 .mk v G hv r ⟨.refl _,rfl,rfl⟩ q
theorem Out.grow (r:Rep X b G s.heap)(hv:VR h' v x)(hh:∀a o,s.heap.get? a=some o->h'.get? a=some o)(q:Q v G):Out X b s Q x { s with heap:=h',toks:=tk }:=
 .mk v G hv (r.mono hh) ⟨.of_keep hh,rfl,rfl⟩ q
def Base (X:Cx)(b:Bs):Prop:=∀a o,X.H0.get? a=some o->b a=some o
theorem Base.kin (hb:Base X b)(hr:Rep X b G h):X.K.In h:=X.kin.keeps λa o e=>hr.keep _ _ (hb _ _ e)
theorem Base.kp (hb:Base X b)(hr:Rep X b G h):∀a o,X.H0.get? a=some o->h.get? a=some o:=λa o e=>hr.keep _ _ (hb _ _ e)
noncomputable def scOK (sc:Scope):Bool:=decide (sc.names.map (·.1)).Nodup&&sc.names.all λp=>!(p.1 == ("__classdict__" : Str))&&!(p.1 == ("__debug__" : Str))
structure Zq (X:Cx)(sc:Scope)(env:Env):Prop where
 scope:env.scope=sc
 kind:sc.kind=.function
 glob:env.globals=mainGlobals
 blt:env.builtins=builtinsNs
 cel:∀x,sc.names.lookup x=some .cell->∃a,env.cells.lookup x=some a
 code:∃a o vs,env.code=.ref a/\X.K.lookup a=some o/\o.data=.fields vs
 ok:scOK sc=true
theorem zZ {α:Type}{a:α}{l:List (Str×α)}(h:l.lookup x=some a):(x,a)∈l:=by
 induction l with
 | nil=>cases h
 | cons p l ih=>
  rw[lookup_cons] at h;split at h
  ·rename_i q;cases h;rw[eq_of_beq q];exact .head _
  ·exact .tail _ (ih h)
theorem zQ {α:Type}{a:α}{l:List (Str×α)}(hn:(l.map (·.1)).Nodup)(h:(x,a)∈l):l.lookup x=some a:=by
 induction l with
 | nil=>cases h
 | cons p l ih=>
  obtain⟨n1,n2⟩:=List.nodup_cons.mp hn;rw[lookup_cons];rcases List.mem_cons.mp h with e | h
  ·rw[<-e];rw[beq_self_eq_true]
  ·have:(x == p.1)=false:=by
    rw[beq_eq_false_iff_ne];intro q;apply n1;show p.1∈_;rw[<-q];exact mem_map_of_mem (f:=(·.1)) h
   rw[this];exact ih n2 h
section
variable {X:Cx}{n:Nat}{sc:Scope}{env:Env}
theorem scOK.nd (h:scOK sc=true):(sc.names.map (·.1)).Nodup:=of_decide_eq_true (Bool.and_eq_true_iff.mp h).1
theorem scOK.no (h:scOK sc=true)(hx:(x,k)∈sc.names):(x == ("__classdict__" : Str))=false/\(x == ("__debug__" : Str))=false:=by
 have:=List.all_eq_true.mp (Bool.and_eq_true_iff.mp h).2 _ hx
 simpa using this
theorem Zq.kindOf (h:Zq X sc env)(x:Str):env.kindOf x=sc.names.lookup x:=by unfold Env.kindOf;rw[h.scope]
theorem Zq.bL (h:Zq X sc env)(hk:env.kindOf x=some k):(x == ("__debug__" : Str))=false:=by rw[h.kindOf] at hk;exact(scOK.no h.ok (zZ hk)).2
end
def Yb (env:Env)(b:Bs)(name:Str)(y:Value):Prop:=
 (env.kindOf name=some .local/\∃o es ep,b env.locals=some o/\o.data=.dict es ep/\StrKeys es/\nsFind es name=some y) \/
 ((env.kindOf name=some .cell\/env.kindOf name=some .free)/\∃ca o,env.cells.lookup name=some ca/\b ca=some o/\o.data=.cell (some y))
theorem Yb.imp (h:Yb env b x y)(k1:∀o es ep,b env.locals=some o->o.data=.dict es ep->b' env.locals=some o)(k2:∀ca o v,env.cells.lookup x=some ca->b ca=some o->o.data=.cell v->b' ca=some o):Yb env b' x y:=by
 rcases h with ⟨h1,o,es,ep,h2,h3,r⟩ | ⟨h1,ca,o,h3,h4,h5⟩
 ·exact .inl ⟨h1,o,es,ep,k1 _ _ _ h2 h3,h3,r⟩
 ·exact .inr ⟨h1,ca,o,h3,k2 _ _ _ h3 h4 h5,h5⟩
def Frm (env:Env)(b:Bs)(h:Heap)(m:M):Prop:=∀x v,m x v->∃y,VR h v y/\Yb env b x y
theorem Frm.mono (f:Frm env b h m)(k:TK h h'):Frm env b h' m:=λx v e=>by
 refine zC (f x v e) λy a c=>?_;exact⟨y,a.mono k,c⟩
theorem Frm.weak (f:Frm env b h m)(k:∀x v,m' x v->m x v):Frm env b h m':=λx v e=>f x v (k x v e)
structure Hy (X:Cx)(n:Nat)(sc:Scope)(env:Env)(A:Around)(b:Bs)(m:M)(G:Gh)(s:Shared):Prop where
 he:Zq X sc env
 hA:AOk A n
 hb:Base X b
 hr:Rep X b G s.heap
 hf:Frm env b s.heap m
theorem Hy.next (h:Hy X n sc env A b m G s)(r:Rep X b G' s'.heap)(f:Fwd s s'):Hy X n sc env A b m G' s':=⟨h.he,h.hA,h.hb,r,h.hf.mono f.tk⟩
structure Sn (X:Cx)(n:Nat)(sc:Scope)(e:Expr)(m:M)(G:Gh)(Q:QE):Prop where
 go:∀{env:Env} {A:Around} {b:Bs} {s:Shared},Hy X n sc env A b m G s->wpAny (model X.prog X.w) A (eval e env) (Out X b s Q) NoE s
structure SnT (X:Cx)(n:Nat)(sc:Scope)(e:Expr)(m:M)(G:Gh)(Q:Bool->Gh->Prop):Prop where
 go:∀{env:Env} {A:Around} {b:Bs} {s:Shared},Hy X n sc env A b m G s->wpAny (model X.prog X.w) A (isTrue e env (eval e env)) (OutT X b s Q) NoE s
theorem zA {α:Type}{M:Model}{A:Around}{t:Sem α}{P Q:α->Shared->Prop}{s:Shared}(h:wpAny M A t P NoE s)(k:∀a s',P a s'->Q a s'):wpAny M A t Q NoE s:=wpAny_mono h k λ_ _ x=>x
theorem zS {α:Type}{M:Model}{A:Around}{t:Sem α}{P Q:α->Shared->Prop}{E:Value->Shared->Prop}{s:Shared}(h:wpAny M A t P NoE s)(k:∀a s',P a s'->Q a s'):wpAny M A t Q E s:=wpAny_mono h k λ_ _ f=>f.elim
section
variable {X:Cx}{n:Nat}{sc:Scope}{env:Env}{A:Around}{b:Bs}{m:M}{G:Gh}{s:Shared}{Q:QE}{e:Expr}
theorem Out.elim {x:Value}{P:Prop}(o:Out X b s Q x s')(k:∀v G',VR s'.heap v x->Rep X b G' s'.heap->Fwd s s'->Q v G'->P):P:=by cases o with | mk v G' a1 a2 a3 a4=>exact k v G' a1 a2 a3 a4
theorem OutT.elim {Q:Bool->Gh->Prop}{t:Bool}{P:Prop}(o:OutT X b s Q t s')(k:∀G',Rep X b G' s'.heap->Fwd s s'->Q t G'->P):P:=by cases o with | mk G' a2 a3 a4=>exact k G' a2 a3 a4
theorem Sn.use {P:Value->Shared->Prop}(h:Sn X n sc e m G Q)(hy:Hy X n sc env A b m G s)(k:∀x s₁ v G1,VR s₁.heap v x->Hy X n sc env A b m G1 s₁->Fwd s s₁->Q v G1->P x s₁):wpAny (model X.prog X.w) A (eval e env) P NoE s:=
 zA (h.go hy) λx s₁ o=>o.elim λv G' a1 a2 a3 a4=>k x s₁ v G' a1 (hy.next a2 a3) a3 a4
theorem SnT.use {Q:Bool->Gh->Prop}{P:Bool->Shared->Prop}(h:SnT X n sc e m G Q)(hy:Hy X n sc env A b m G s)(k:∀t s₁ G1,Hy X n sc env A b m G1 s₁->Fwd s s₁->Q t G1->P t s₁):wpAny (model X.prog X.w) A (isTrue e env (eval e env)) P NoE s:=
 zA (h.go hy) λx s₁ o=>o.elim λG' a2 a3 a4=>k x s₁ G' (hy.next a2 a3) a3 a4
theorem Sn.mono (h:Sn X n sc e m G Q)(k:∀v G',Q v G'->Q' v G'):Sn X n sc e m G Q':=⟨λhy=>zA (h.go hy) λx s₁ o=>o.elim λv G' a1 a2 a3 a4=>.mk v G' a1 a2 a3 (k v G' a4)⟩
theorem SnT.mono {Q Q':Bool->Gh->Prop}(h:SnT X n sc e m G Q)(k:∀v G',Q v G'->Q' v G'):SnT X n sc e m G Q':=⟨λhy=>zA (h.go hy) λx s₁ o=>o.elim λG' a2 a3 a4=>.mk G' a2 a3 (k x G' a4)⟩
theorem Sn.ai (q:Q .none G):Sn X n sc (.Constant .none k pos) m G Q:=⟨λhy=>Constant_none (.mk _ _ .none hy.hr .refl q)⟩
theorem Sn.av (q:Q (.bool t) G):Sn X n sc (.Constant (.bool t) k pos) m G Q:=⟨λhy=>Constant_bool (.mk _ _ (.bool t) hy.hr .refl q)⟩
theorem Sn.int (q:Q (.int i) G):Sn X n sc (.Constant (.int i) k pos) m G Q:=⟨λhy=>wpAny_Constant_int (Out.here hy.hr (.int i _) q)⟩
theorem Sn.str (q:Q (.str x) G):Sn X n sc (.Constant (.str x) k pos) m G Q:=⟨λhy=>wpAny_Constant_str (Out.here hy.hr (.str x _) q)⟩
theorem zAC {E:Value->Shared->Prop}{y:Value}{Q:Value->Shared->Prop}(he:Zq X sc env)(hr:Rep X b G s.heap)(hs:Yb env b name y)(q:Q y s) :
  wpAny Mo A (loadName env name) Q E s:=by
 have hk':env.scope.kind=.function:=by rw[he.scope];exact he.kind
 rcases hs with ⟨hk,o,es,ep,hb,hd,hsk,hn⟩ | ⟨hk,ca,o,hc,hb,hd⟩
 ·exact wpAny_loadName_local (m:=λx=>nsFind es x) hk' hk ⟨o,es,ep,hr.keep _ _ hb,hd,hsk,λ_=>rfl⟩ hn q
 ·have ho:=hr.keep _ _ hb;rcases hk with hk | hk
  ·exact wpAny_loadName_cell hk' hk hc ⟨o,ho,hd⟩ q
  ·have hx:=hk;rw[he.kindOf] at hx;exact wpAny_loadName_free (hn:=(scOK.no he.ok (zZ hx)).1) hk' hk hc ⟨o,ho,hd⟩ q
theorem Yb.kind (h:Yb env b name y):∃k,env.kindOf name=some k:=by rcases h with ⟨h,_⟩ | ⟨h | h,_⟩<;>exact⟨_,h⟩
theorem Sn.var (hx:m x v)(q:Q v G):Sn X n sc (.Name x pos) m G Q:=⟨λhy=>by
 refine zC (hy.hf x v hx) λy hv hs=>?_;obtain⟨k,hk⟩:=hs.kind;exact wpAny_Name (zAC hy.he hy.hr hs (Out.here hy.hr hv q)) (hy.he.bL hk)⟩
theorem zk (h:k<cap):k<=sizeLine:=by rw[sizeLine_eq];exact zDr (yA h)
theorem zj {h:Heap}{a:Addr}(ha:h.objs.size<=a):h.get? a=Option.none:=by
 cases q:h.get? a with
 | none=>rfl
 | some o=>exact absurd (lt_size q) (Nat.not_lt.mpr ha)
theorem hlow (hb:Base X b)(hr:Rep X b G h):h.objs.size≠sysModules:=by
 refine zC X.lim λmc pq1 _=>?_;obtain⟨o,es,ep,ho,_⟩:=pq1
 have:(2:Nat)<h.objs.size:=lt_size (hb.kp hr _ _ ho);exact λq=>by rw[q] at this;exact absurd this ()
theorem zIR (hb:Base X b)(hr:Rep X b G s.heap)(hl:xs.length<=2 * cap)(kp:∀a o,s.heap.get? a=some o->s'.heap.get? a=some o)(hn:s.heap.get? D=Option.none)
  (hD:s'.heap.get? D=some ⟨.type "list",Option.none,.seq ys k,#[]⟩) (hlow:D≠sysModules) (hv:VRs s'.heap xs ys.toList) (hg:s'.gens=s.gens) (ho:s'.os=s.os) (h:newList xs G Q):Out X b s Q (.ref D) s':=
 .mk (.ref _) _ (.ref _) (hr.alloc (g:=.list xs) kp hn hlow ⟨hl,ys,k,hD,hv⟩ rfl) ⟨.of_keep kp,hg,ho⟩ (h _ (hr.dA hn))
theorem newL {xs:List Val}{ys:Array Value}(hb:Base X b)(hr:Rep X b G s.heap)(hl:xs.length<=2 * cap)(hv:VRs s.heap xs ys.toList)(h:newList xs G Q) :
  Out X b s Q (.ref s.heap.objs.size) { s with heap:=s.heap.push { cls:=.type "list",data:=.seq ys } }:=
 have kp:∀a o,s.heap.get? a=some o->(s.heap.push { cls:=.type "list",data:=.seq ys }).get? a=some o:=λa o e=>get?_push_of_some _ e
 zIR hb hr hl kp (zj (le_refl _)) (get?_push_size _ rfl) (hlow hb hr) (hv.mono (.of_keep kp)) rfl rfl h
theorem newT (hr:Rep X b G s.heap)(hv:VRs s.heap vs ys)(h:Q (.tup vs) G) :
  Out X b s Q (.ref s.heap.objs.size) { s with heap:=s.heap.push { cls:=.type "tuple",data:=.seq ys.toArray } }:=by have kp:∀a o,s.heap.get? a=some o->(s.heap.push { cls:=.type "tuple",data:=.seq ys.toArray }).get? a=some o:=λa o e=>get?_push_of_some _ e;exact .grow (tk:=s.toks) hr (.aU (get?_push_size _ rfl) (hv.mono (.of_keep kp))) kp h
structure Op1 (X:Cx)(n:Nat)(f:Value->Sem Value)(v:Val)(G:Gh)(Q:QE):Prop where
 go:∀{A:Around} {b:Bs} {s:Shared} {x:Value},AOk A n->Base X b->Rep X b G s.heap->VR s.heap v x->wpAny (model X.prog X.w) A (f x) (Out X b s Q) NoE s
structure Op2 (X:Cx)(n:Nat)(f:Value->Value->Sem Value)(v w:Val)(G:Gh)(Q:QE):Prop where
 go:∀{A:Around} {b:Bs} {s:Shared} {x y:Value},AOk A n->Base X b->Rep X b G s.heap->VR s.heap v x->VR s.heap w y->wpAny (model X.prog X.w) A (f x y) (Out X b s Q) NoE s
structure OpN (X:Cx)(n:Nat)(f:List Value->Sem Value)(vs:List Val)(G:Gh)(Q:QE):Prop where
 go:∀{A:Around} {b:Bs} {s:Shared} {ys:List Value},AOk A n->Base X b->Rep X b G s.heap->VRs s.heap vs ys->wpAny (model X.prog X.w) A (f ys) (Out X b s Q) NoE s
theorem Op2.ints (h:∀{A:Around} {b:Bs} {s:Shared} {t u:Tok},Rep X b G s.heap->wpAny (model X.prog X.w) A (f (.int i t) (.int j u)) (Out X b s Q) NoE s):Op2 X n f (.int i) (.int j) G Q:=by refine⟨λ{A b s x y} hA hb hr hv hw=>?_⟩;obtain⟨t,rfl⟩:=hv.int_inv;obtain⟨u,rfl⟩:=hw.int_inv;exact h hr
theorem Op2.add (q:Q (.int (i+j)) G):Op2 X n (binaryOp .Add) (.int i) (.int j) G Q:=.ints λhr=>P.add_int (Out.here hr (.int _ _) q)
theorem Op2.sub (q:Q (.int (i - j)) G):Op2 X n (binaryOp .Sub) (.int i) (.int j) G Q:=.ints λhr=>P.sub_int (Out.here hr (.int _ _) q)
theorem zF7 (h:i.natAbs<2 ^ 63):Builtin.Int.intBits i<=64:=intBits_le_64 (zIV h ()) (zGZ h ())
theorem Op2.mulL (h:i.natAbs<2 ^ 63)(q:Q (.int (i * j)) G):Op2 X n (binaryOp .Mult) (.int i) (.int j) G Q:=.ints λhr=>P.mul_int (Out.here hr (.int _ _) q) (IntMulOk.of_left (zF7 h))
theorem Op2.mulR (h:j.natAbs<2 ^ 63)(q:Q (.int (i * j)) G):Op2 X n (binaryOp .Mult) (.int i) (.int j) G Q:=.ints λhr=>P.mul_int (Out.here hr (.int _ _) q) (IntMulOk.of_right (zF7 h))
theorem zJ5 (h:j.natAbs<8589934592):Builtin.divisionGoesByPylong i j=false:=PyProof.noPylong_of_log2 (by
 by_cases h0:j.natAbs=0
 ·rw[h0];decide +kernel
 ·have:j.natAbs.log2<34:=(Nat.log2_lt h0).mpr (Nat.lt_trans h ());exact Nat.lt_trans this ())
theorem Op2.fdiv (h0:j≠0)(h:j.natAbs<8589934592)(q:Q (.int (i.fdiv j)) G):Op2 X n (binaryOp .FloorDiv) (.int i) (.int j) G Q:=.ints λhr=>floordiv_int h0 (Out.here hr (.int _ _) q) (.inl (zJ5 h))
theorem Op2.mod (h0:j≠0)(q:Q (.int (i.fmod j)) G):Op2 X n (binaryOp .Mod) (.int i) (.int j) G Q:=.ints λhr=>mod_int' h0 (Out.here hr (.int _ _) q)
theorem Op2.pow (h1:0<=j)(h2:j<=1000)(h3:i.natAbs<1024)(q:Q (.int (i ^ j.toNat)) G):Op2 X n (binaryOp .Pow) (.int i) (.int j) G Q:=.ints λhr=>pow_int h1 (by
 have hb:=zF7 (i:=i) (Nat.lt_trans h3 ())
 have:(Builtin.Int.intBits i:Int) * j<=64 * 1000:=Int.mul_le_mul (by exact_mod_cast hb) h2 h1 ();lia) (Out.here hr (.int _ _) q)
theorem Op2.bxor (q:Q (.int (Builtin.bitXor i j)) G):Op2 X n (binaryOp .BitXor) (.int i) (.int j) G Q:=.ints λhr=>xor_int (Out.here hr (.int _ _) q)
theorem zO (hr:Rep X b G h)(e:G a=some (.list xs)):∃ys k,xs.length<=2 * cap/\h.get? a=some ⟨.type "list",Option.none,.seq ys k,#[]⟩/\VRs h xs ys.toList/\xs.length=ys.size:=by obtain⟨l,ys,k,ho,hs⟩:=(hr.own _ _ e).2;exact⟨ys,k,l,ho,hs,by rw[hs.length];rw[length_toList]⟩
theorem Op2.bu (e1:G p=some (.list xs))(e2:G q=some (.list ys))(hl:xs.length+ys.length<cap)(h:newList (xs++ys) G Q):Op2 X n (binaryOp .Add) (.ref p) (.ref q) G Q:=by refine⟨λ{A b s x y} hA hb hr hv hw=>?_⟩;rw[hv.aC];rw[hw.aC];refine wn (zO hr e1) λzs k _ hz hzs l1=>?_;refine wn (zO hr e2) λus k' _ hu hus l2=>?_;exact P.add_list hz hu (newL hb hr (by rw[length_append];exact yA hl) (by rw[Array.toList_append];exact hzs.append hus) h) (by rw[<-l1];rw[<-l2];exact zk hl)
theorem Sn.two {K:Val->Val->Gh->Prop}{P:Value->Value->Shared->Prop}(hl:Sn X n sc l m G λv G1=>Sn X n sc r m G1 (K v))(hy:Hy X n sc env A b m G s)
  (k:∀x y s₂ v w G2,VR s₂.heap v x->VR s₂.heap w y->Hy X n sc env A b m G2 s₂->Fwd s s₂->K v w G2->P x y s₂) :
  wpAny (model X.prog X.w) A (eval l env) (λx s₁=>wpAny (model X.prog X.w) A (eval r env) (P x) NoE s₁) NoE s:=
 hl.use hy λx s₁ v G1 hv hy1 f₁ h1=>Sn.use h1 hy1 λy s₂ w G2 hw hy2 f₂ h2=>k x y s₂ v w G2 (hv.mono f₂.tk) hw hy2 (f₁.trans f₂) h2
theorem Sn.bin {l r:Expr}{op:Operator}(h:Sn X n sc l m G λv G1=>Sn X n sc r m G1 λw G2=>Op2 X n (binaryOp op) v w G2 Q):Sn X n sc (.BinOp l op r pos) m G Q:=⟨λhy=>
 wpAny_BinOp (h.two hy λx y s₂ v w G2 hv hw hy2 f₂ h2=>zA (h2.go hy2.hA hy2.hb hy2.hr hv hw) λ_ _ q=>q.next f₂)⟩
theorem Sn.neg (h:Sn X n sc l m G λv G1=>∃i,v=.int i/\Q (.int (-i)) G1):Sn X n sc (.UnaryOp .USub l pos) m G Q:=⟨λhy=>
 UnaryOp_ (h.use hy λx s₁ v G1 hv hy1 f₁ h1=>by
  refine zC h1 λi eq1 q=>?_;subst eq1;obtain⟨t,rfl⟩:=hv.int_inv;exact P.neg_int ((Out.here hy1.hr (.int _ _) q).next f₁))⟩
end
end
section
section
variable {X:Cx}{n:Nat}{sc:Scope}{env:Env}{A:Around}{b:Bs}{m:M}{G:Gh}{s:Shared}{Q:QE}{e:Expr}
theorem uy {vs:List Val}{ds:List PyData}(hl:vs.length=ds.length)(k:∀(i:Nat) (v:Val) (d:PyData),vs[i]?=some v->ds[i]?=some d->∀y,VR h v y->∃as,Reads h y d as) :
  ∀{ys:List Value},VRs h vs ys->∃as,ReadsAll h ys ds as:=by
 induction vs generalizing ds with
 | nil=>intro ys r;rw[r.nil_inv];rw[List.length_eq_zero_iff.mp hl.symm];exact⟨_,.nil⟩
 | cons v vs ih=>
  intro ys r;refine wF r.cons_inv λy zs eq2 a r'=>?_;subst eq2;cases ds with
  | nil=>cases hl
  | cons d ds=>
   obtain⟨as,x⟩:=k 0 v d rfl rfl y a;obtain⟨bs,z⟩:=ih (Nat.succ.inj hl) (λi v d e1 e2=>k (i+1) v d e1 e2) r';exact⟨_,.cons x z⟩
theorem wW (hr:Rep X b G h)(r:RD G k v d):∀y,VR h v y->∃as,Reads h y d as:=by
 induction r with
 | none=>intro y q;rw[q.none_inv];exact⟨_,.none⟩
 | bool t=>intro y q;rw[q.bool_inv];exact⟨_,.bool _⟩
 | int i=>intro y q;obtain⟨t,rfl⟩:=q.int_inv;exact⟨_,.int _ _⟩
 | str _=>intro y q;obtain⟨t,rfl⟩:=q.str_inv;exact⟨_,.str _ _⟩
 | tup hl _ ih=>
  intro y q;refine wm q.aT λa k ys eq3 e r=>?_;subst eq3;obtain⟨as,x⟩:=uy hl ih r;exact⟨_,.tuple e rfl rfl x⟩
 | list hg hl _ ih=>
  intro y q;rw[q.aC];refine wn (zO hr hg) λys k _ e r _=>?_;obtain⟨as,x⟩:=uy hl ih r;exact⟨_,.list e rfl rfl x⟩
theorem zB5:∀{ds:List PyData},(∀d∈ds,d.canLay0=true/\d.depth<=k)->PyData.canLayAll0 ds=true/\PyData.depthAll ds<=k:=by
 intro ds;induction ds with
 | nil=>intro _;exact⟨rfl,zero_le _⟩
 | cons d ds ih=>
  intro h;obtain⟨a1,a2⟩:=h d (.head _);obtain⟨b1,b2⟩:=ih λd hd=>h d (.tail _ hd);exact⟨by unfold PyData.canLayAll0;rw[a1];rw[b1];rfl,by unfold PyData.depthAll;exact Nat.max_le.mpr ⟨a2,b2⟩⟩
theorem zCx {vs:List Val}{ds:List PyData}(hl:vs.length=ds.length){d:PyData}(h:d∈ds):∃(i:Nat) (v:Val),vs[i]?=some v/\ds[i]?=some d:=by
 obtain⟨i,hi⟩:=List.mem_iff_getElem?.mp h
 have:=(List.getElem?_eq_some_iff.mp hi).1;rw[<-hl] at this;exact⟨i,_,getElem?_eq_getElem this,hi⟩
theorem vJ {k:Nat}{v:Val}{d:PyData}(r:RD G k v d):d.canLay0=true/\d.depth<=k:=by
 induction r with
 | none=>exact⟨rfl,zero_le _⟩
 | bool t=>exact⟨rfl,zero_le _⟩
 | int i=>exact⟨rfl,zero_le _⟩
 | str h=>exact⟨by unfold PyData.canLay0;exact h,zero_le _⟩
 | tup hl _ ih=>
  obtain⟨a,c⟩:=zB5 λd hd=>by refine vq (zCx hl hd) λi v e1 e2=>?_;exact ih i v d e1 e2
  exact⟨by unfold PyData.canLay0;exact a,by unfold PyData.depth;exact succ_le_succ c⟩
 | list _ hl _ ih=>
  obtain⟨a,c⟩:=zB5 λd hd=>by refine vq (zCx hl hd) λi v e1 e2=>?_;exact ih i v d e1 e2
  exact⟨by unfold PyData.canLay0;exact a,by unfold PyData.depth;exact succ_le_succ c⟩
theorem j3 (r:RD G 12 v d):SeqAt.shaped d=true:=by obtain⟨a,c⟩:=vJ r;unfold SeqAt.shaped;rw[a];rw[Bool.true_and];exact decide_eq_true (le_trans c ())
section
variable {v w:Val}
theorem zHd (h:u+30 * k+300<=cLine):u+64<cLine:=lt_of_lt_of_le (lt_of_lt_of_le (Nat.add_lt_add_left (by decide:64<300) u) (add_le_add_right (le_add_right u _) _)) h
theorem uni1 (h:u+30 * k+300<=cLine)(hd:d<=12):u+1+min a d<cLine:=lt_of_le_of_lt (by rw[add_assoc];exact add_le_add_left (le_trans (add_le_add_left (le_trans (min_le_right a d) hd) 1) ()) u) (zHd h)
theorem Op2.eq {d e:PyData}(r1:RD G 12 v d)(r2:RD G 12 w e)(q:Q (.bool (d.eqv e)) G):Op2 X n (compareOp .Eq) v w G Q:=by refine⟨λhA hb hr hv hw=>?_⟩;obtain⟨as,x1⟩:=wW hr r1 _ hv;obtain⟨bs,x2⟩:=wW hr r2 _ hw;exact eq_dataH x1 x2 (j3 r1) (j3 r2) (zHd hA.uni) (Out.here hr (.bool _) q)
theorem Op2.ne {d e:PyData}(r1:RD G 12 v d)(r2:RD G 12 w e)(q:Q (.bool (!d.eqv e)) G):Op2 X n (compareOp .NotEq) v w G Q:=by refine⟨λhA hb hr hv hw=>?_⟩;obtain⟨as,x1⟩:=wW hr r1 _ hv;obtain⟨bs,x2⟩:=wW hr r2 _ hw;exact ne_dataH x1 x2 (j3 r1) (j3 r2) (zHd hA.uni) (Out.here hr (.bool _) q)
theorem Op2.cv (q:Q (.bool (i == j)) G):Op2 X n (compareOp .Eq) (.int i) (.int j) G Q:=.ints λhr=>P.eq_int (Out.here hr (.bool _) q)
theorem Op2.d6 (q:Q (.bool (!(i == j))) G):Op2 X n (compareOp .NotEq) (.int i) (.int j) G Q:=.ints λhr=>P.ne_int (Out.here hr (.bool _) q)
theorem Op2.lt (q:Q (.bool (decide (i<j))) G):Op2 X n (compareOp .Lt) (.int i) (.int j) G Q:=.ints λhr=>P.lt_int (Out.here hr (.bool _) q)
theorem Op2.le (q:Q (.bool (decide (i<=j))) G):Op2 X n (compareOp .LtE) (.int i) (.int j) G Q:=.ints λhr=>P.le_int (Out.here hr (.bool _) q)
theorem Op2.gt (q:Q (.bool (decide (i > j))) G):Op2 X n (compareOp .Gt) (.int i) (.int j) G Q:=.ints λhr=>P.gt_int (Out.here hr (.bool _) q)
theorem Op2.ge (q:Q (.bool (decide (i >= j))) G):Op2 X n (compareOp .GtE) (.int i) (.int j) G Q:=.ints λhr=>P.ge_int (Out.here hr (.bool _) q)
theorem Op2.strs (h:∀{A:Around} {b:Bs} {s:Shared} {t u:Tok},Rep X b G s.heap->wpAny (model X.prog X.w) A (f (.str i t) (.str j u)) (Out X b s Q) NoE s):Op2 X n f (.str i) (.str j) G Q:=by refine⟨λ{A b s x y} hA hb hr hv hw=>?_⟩;obtain⟨t,rfl⟩:=hv.str_inv;obtain⟨u,rfl⟩:=hw.str_inv;exact h hr
theorem Op2.bH (q:Q (.bool (i == j)) G):Op2 X n (compareOp .Eq) (.str i) (.str j) G Q:=.strs λhr=>PyProof.Rows.eq_str (Out.here hr (.bool _) q)
theorem Op2.dZ (q:Q (.bool (!(i == j))) G):Op2 X n (compareOp .NotEq) (.str i) (.str j) G Q:=.strs λhr=>PyProof.Rows.ne_str (Out.here hr (.bool _) q)
theorem Op2.isNone (q:Q (.bool true) G):Op2 X n (compareOp .Is) .none .none G Q:=⟨λhA hb hr hv hw=>by
 rw[hv.none_inv];rw[hw.none_inv];exact is_none_none (.mk _ _ (.bool _) hr .refl q)⟩
theorem Op2.cF (q:Q (.bool false) G):Op2 X n (compareOp .Is) (.int i) .none G Q:=⟨λhA hb hr hv hw=>by
 obtain⟨t,rfl⟩:=hv.int_inv;rw[hw.none_inv];exact is_none_ne (λq=>nomatch q) (.mk _ _ (.bool _) hr .refl q)⟩
theorem Op2.inD (r1:RD G 12 v d)(r2:RD G 12 w (.tuple ds)\/RD G 12 w (.list ds))(q:Q (.bool (ds.any λe=>e.eqv d)) G):Op2 X n (compareOp .In) v w G Q:=by
 refine⟨λhA hb hr hv hw=>?_⟩;obtain⟨as,x1⟩:=wW hr r1 _ hv;have l1:=vJ r1;have hu:=hA.uni;rcases r2 with r2 | r2
 ·obtain⟨bs,x2⟩:=wW hr r2 _ hw;exact SeqAt.in_tuple_reads x2 x1 (by have:=(vJ r2).1;unfold PyData.canLay0 at this;exact this) l1.1 (uni1 hA.uni l1.2) (Out.here hr (.bool _) q)
 ·obtain⟨bs,x2⟩:=wW hr r2 _ hw;exact SeqAt.in_list_reads x2 x1 (by have:=(vJ r2).1;unfold PyData.canLay0 at this;exact this) l1.1 (uni1 hA.uni l1.2) (Out.here hr (.bool _) q)
theorem Op2.cY (r1:RD G 12 v d)(r2:RD G 12 w (.tuple ds)\/RD G 12 w (.list ds))(q:Q (.bool (!(ds.any λe=>e.eqv d))) G):Op2 X n (compareOp .NotIn) v w G Q:=by
 refine⟨λhA hb hr hv hw=>?_⟩;obtain⟨as,x1⟩:=wW hr r1 _ hv;have l1:=vJ r1;have hu:=hA.uni;rcases r2 with r2 | r2
 ·obtain⟨bs,x2⟩:=wW hr r2 _ hw;exact SeqAt.notIn_tuple_reads x2 x1 (by have:=(vJ r2).1;unfold PyData.canLay0 at this;exact this) l1.1 (uni1 hA.uni l1.2) (Out.here hr (.bool _) q)
 ·obtain⟨bs,x2⟩:=wW hr r2 _ hw;exact SeqAt.notIn_list_reads x2 x1 (by have:=(vJ r2).1;unfold PyData.canLay0 at this;exact this) l1.1 (uni1 hA.uni l1.2) (Out.here hr (.bool _) q)
end
set_option tactic.hygienic true in
theorem few (n:Nat):∀(l:List Int),l.Nodup->(∀k∈l,0<=k/\k<n)->l.length<=n:=by
 induction n with
 | zero=>intro l _ h;cases l with | nil=>exact le_refl _ | cons a r=>exact noI (h a (.head _)).2 (h a (.head _)).1
 | succ n ih=>
  intro l hn h;have h1:=ih (l.erase (n:Int)) (hn.erase _) λk hk=>by
   have h2:=(List.Nodup.mem_erase_iff hn).mp hk;have h3:=h k h2.2;have h4:=h2.1;lia
  have:=List.length_erase_of_mem (a:=(n:Int)) (l:=l);by_cases hm:(n:Int)∈l
  ·rw[this hm] at h1;exact Nat.le_add_of_sub_le h1
  ·rw[List.erase_of_not_mem hm] at h1;exact le_succ_of_le h1
theorem SetI.small (i:SetI h a S):∀k,S k=true->0<=k/\k<32:=by refine uJ i λks ep t e hn hm hf hr=>?_;exact λk hk=>hr k ((hm k).mp hk)
theorem zFA:(intKind X.prog X.w).is k (Value.int j t)=decide (j=k):=by
 show Value.isInt k (Value.int j t)=_;by_cases hk:j=k
 ·subst hk;simp [Value.isInt]
 ·simp [Value.isInt,hk]
noncomputable abbrev zF (ks:List (Int×Tok)):List (Int×Value):=ks.map λk=>(hashInt k.1,Value.int k.1 k.2)
theorem yk (ks:List (Int×Tok)):ElemsOf (intKind X.prog X.w) (zF ks):=λx hx=>by
 refine zC (List.mem_map.mp hx) λk _ eq2=>?_;subst eq2;exact⟨⟨k.1,by rw[zFA];exact decide_eq_true rfl,rfl⟩,rfl⟩
theorem zCw (k:Int):(∃e∈zF ks,(intKind X.prog X.w).is k e.2=true)↔k∈ks.map (·.1):=by
 constructor
 ·rintro ⟨e,he,hk⟩;refine zC (List.mem_map.mp he) λp hp eq2=>?_;subst eq2;rw[zFA] at hk;exact List.mem_map.mpr ⟨p,hp,of_decide_eq_true hk⟩
 ·intro h;refine zC (List.mem_map.mp h) λp hp eq2=>?_;subst eq2;exact⟨_,mem_map_of_mem hp,by rw[zFA];exact decide_eq_true rfl⟩
theorem SetI.parts (i:SetI h a S):∃l:List Int,l.Nodup/\(∀x,S x=true↔x∈l)/\l.length<=32/\h.SetOf (intKind X.prog X.w) a S l.length:=by
 refine uJ i λks ep t e hn hm hf hr=>?_;have hl:=few 32 _ hn hr;refine⟨_,hn,hm,hl,_,_,ep,t,e,⟨rfl,rfl,rfl⟩,rfl,yk ks,λk=>?_,?_,?_,?_⟩
 ·rw[hm k];rw[<-zCw (X:=X)]
 ·rw[size_toArray];rw[length_map];rw[length_map] at hl;exact lt_of_le_of_lt hl (by unfold scanBound;decide)
 ·rw[size_toArray];rw[length_map];exact hf
 ·rw[size_toArray];rw[length_map];rw[length_map]
theorem DR.look (d:DR h es kvs)(k:Int):(∀v,zm es k=some v->∃y,valueAt kvs k=some y/\VR h v y)/\(zm es k=none->valueAt kvs k=none):=by
 induction d with
 | nil=>exact⟨λv e=>(nomatch e),λ_=>rfl⟩
 | @cons k' v y es ys hv _ ih=>
  unfold zm valueAt at ih ⊢;rw[find?_cons];rw[find?_cons];by_cases hk:k'=k
  ·simp only [hk,decide_true];exact⟨λw e=>by cases e;exact⟨_,rfl,hv⟩,λe=>nomatch e⟩
  ·simp only [hk,decide_false];exact ih
theorem DR.length (d:DR h es kvs):es.length=kvs.length:=by
 induction d with
 | nil=>rfl
 | cons _ _ ih=>exact congrArg (· + 1) ih
theorem DR.isSome (d:DR h es kvs)(k:Int):(valueAt kvs k).isSome=(zm es k).isSome:=by
 cases e:zm es k with
 | none=>rw[(d.look k).2 e];rfl
 | some v=>refine zC ((d.look k).1 v e) λy q _=>?_;rw[q];rfl
theorem zBV (hr:Rep X b G h)(e:G a=some g):(a == sysModules)=false:=beq_eq_false_iff_ne.mpr (hr.low a g e)
theorem Op2.inDict (e:G a=some (.dict es))(q:Q (.bool (zm es k).isSome) G):Op2 X n (compareOp .In) (.int k) (.ref a) G Q:=⟨λhA hb hr hv hw=>by
 obtain⟨t,rfl⟩:=hv.int_inv;rw[hw.aC];obtain⟨_,kvs,hd,hes⟩:=(hr.own _ _ e).2;refine wpAny_in_of (knd:=intKind X.prog X.w) (intKind_is _ _ _ _) (zBV hr e) hd.mapOf ?_;rw[hes.isSome];exact Out.here hr (.bool _) q⟩
theorem Op2.inSet (e:G a=some (.set S f))(q:Q (.bool (S k)) G):Op2 X n (compareOp .In) (.int k) (.ref a) G Q:=⟨λhA hb hr hv hw=>by
 obtain⟨t,rfl⟩:=hv.int_inv;rw[hw.aC];refine zC3 (SetI.parts (X:=X) (hr.own _ _ e).2.1) λ_ _ _ _ hS=>?_;exact wpAny_inSet_of (knd:=intKind X.prog X.w) (intKind_is _ _ _ _) rfl hS (Out.here hr (.bool _) q)⟩
theorem Op2.bY (e:G a=some (.set S f))(q:Q (.bool (!S k)) G):Op2 X n (compareOp .NotIn) (.int k) (.ref a) G Q:=⟨λhA hb hr hv hw=>by
 obtain⟨t,rfl⟩:=hv.int_inv;rw[hw.aC];refine zC3 (SetI.parts (X:=X) (hr.own _ _ e).2.1) λ_ _ _ _ hS=>?_;exact wpAny_notInSet_of (knd:=intKind X.prog X.w) (intKind_is _ _ _ _) rfl hS (Out.here hr (.bool _) q)⟩
inductive Tru (G:Gh):Val->Bool->Prop where
 | none:Tru G .none false
 | bool (t:Bool):Tru G (.bool t) t
 | int (i:Int):Tru G (.int i) (i != 0)
 | list {a:Addr} {xs:List Val}:G a=some (.list xs)->Tru G (.ref a) (!xs.isEmpty)
 | dict {a:Addr} {es:List (Int×Val)}:G a=some (.dict es)->Tru G (.ref a) (!es.isEmpty)
theorem yI {Q:Bool->Gh->Prop}{x:Value}{t:Bool}(hr:Rep X b G s.heap)(hv:VR s.heap v x)(ht:Tru G v t)(h:Q t G):wpAny (model X.prog X.w) A (truthy x) (OutT X b s Q) NoE s:=by
 have fin:∀tk,OutT X b s Q t { s with toks:=tk }:=λ_=>.mk G hr ⟨.refl _,rfl,rfl⟩ h;cases ht with
 | none=>rw[hv.none_inv];exact truthy_none (fin _)
 | bool t=>rw[hv.bool_inv];exact wpAny_truthy_bool (fin _)
 | int i=>obtain⟨u,rfl⟩:=hv.int_inv;exact P.truthy_int (fin _)
 | @list a xs e=>
  rw[hv.aC];refine wn (zO hr e) λys k hl ho hy e2=>?_;refine wpAny_truthy_list ⟨_,ho,rfl,k,rfl⟩ (by rw[<-e2];exact zIU hl) ?_;have e1:ys.isEmpty=xs.isEmpty:=by rw[Array.isEmpty];rw[<-e2];cases xs<;>rfl
  rw[e1];exact fin _
 | @dict a es e=>
  rw[hv.aC];obtain⟨hl,kvs,hd,hes⟩:=(hr.own _ _ e).2;have e2:=hes.length;refine wpAny_truthy_dict (knd:=intKind X.prog X.w) (zBV hr e) hd (by rw[<-e2];exact zIU hl) ?_;have e1:kvs.isEmpty=es.isEmpty:=by cases hes<;>rfl
  rw[e1];exact fin _
abbrev TQ (Q:Bool->Gh->Prop):QE:=λv G=>∃t,Tru G v t/\Q t G
theorem Out.test {Q:Bool->Gh->Prop}{x:Value}(f:Fwd s₀ s)(q:Out X b s (TQ Q) x s'):wpAny (model X.prog X.w) A (truthy x) (OutT X b s₀ Q) NoE s':=
 q.elim λv G' hv hr f' h=>by refine zC h λt ht h=>?_;exact zA (yI hr hv ht h) λ_ _ q=>q.next (f.trans f')
theorem SnT.val {Q:Bool->Gh->Prop}(h:Sn X n sc e m G (TQ Q))(hp:∀env whole,isTrue e env whole=(do let v <-whole;standAt e.pos;holding [v] (truthy v)):=by intro _ _;rfl):SnT X n sc e m G Q:=⟨λhy=>
 isTrue_plain (zA (h.go hy) λ_ _ o=>o.test .refl) (hp _ _)⟩
theorem Sn.not (h:Sn X n sc l m G (TQ λt G'=>Q (.bool (!t)) G')):Sn X n sc (.UnaryOp .Not l pos) m G Q:=⟨λhy=>
 UnaryOp_ (zA (h.go hy) λ_ _ o=>not_of (zA (o.test .refl) λt s₂ o=>o.elim λG2 hr f h=>.mk _ G2 (.bool _) hr f h))⟩
theorem SnT.not {Q:Bool->Gh->Prop}(h:SnT X n sc l m G λt G'=>Q (!t) G'):SnT X n sc (.UnaryOp .Not l pos) m G Q:=⟨λhy=>
 isTrue_not (zA (h.go hy) λt s₁ o=>o.elim λG2 hr f h=>.mk G2 hr f h)⟩
abbrev Two (T F:Prop)(t:Bool):Prop:=(t=true->T)/\(t=false->F)
theorem Sn.ite (h:SnT X n sc t m G λr G'=>Two (Sn X n sc a m G' Q) (Sn X n sc c m G' Q) r):Sn X n sc (.IfExp t a c pos) m G Q:=⟨λhy=>
 IfExp_ (h.use hy λr s₁ G1 hy1 f₁ h1=>by
  cases r
  ·exact zA ((h1.2 rfl).go hy1) λ_ _ q=>q.next f₁
  ·exact zA ((h1.1 rfl).go hy1) λ_ _ q=>q.next f₁)⟩
theorem Sn.aX (h:Sn X n sc a m G Q):Sn X n sc (.BoolOp .And [a] pos) m G Q:=⟨λhy=>BoolOp_one (h.go hy)⟩
theorem Sn.bG (h:Sn X n sc a m G Q):Sn X n sc (.BoolOp .Or [a] pos) m G Q:=⟨λhy=>BoolOp_one (h.go hy)⟩
theorem Sn.and (h:Sn X n sc a m G λv G'=>∃t,Tru G' v t/\Two (Sn X n sc (.BoolOp .And (c::rest) pos) m G' Q) (Q v G') t):Sn X n sc (.BoolOp .And (a::c::rest) pos) m G Q:=⟨λhy=>
 BoolOp_and (h.use hy λx s₁ v G1 hv hy1 f₁ h1=>by
  refine zC h1 λt ht h1=>?_;refine zA (yI (Q:=λt' G'=>t'=t/\G'=G1) hy1.hr hv ht qA) λt' s₂ o=>o.elim λG' hr f q=>?_;obtain⟨rfl,rfl⟩:=q;cases t'
  ·exact .mk v G' (hv.mono f.tk) hr (f₁.trans f) (h1.2 rfl)
  ·exact zA ((h1.1 rfl).go (hy1.next hr f)) λ_ _ q=>q.next (f₁.trans f))⟩
theorem Sn.or (h:Sn X n sc a m G λv G'=>∃t,Tru G' v t/\Two (Q v G') (Sn X n sc (.BoolOp .Or (c::rest) pos) m G' Q) t):Sn X n sc (.BoolOp .Or (a::c::rest) pos) m G Q:=⟨λhy=>
 BoolOp_or (h.use hy λx s₁ v G1 hv hy1 f₁ h1=>by
  refine zC h1 λt ht h1=>?_;refine zA (yI (Q:=λt' G'=>t'=t/\G'=G1) hy1.hr hv ht qA) λt' s₂ o=>o.elim λG' hr f q=>?_;obtain⟨rfl,rfl⟩:=q;cases t'
  ·exact zA ((h1.2 rfl).go (hy1.next hr f)) λ_ _ q=>q.next (f₁.trans f)
  ·exact .mk v G' (hv.mono f.tk) hr (f₁.trans f) (h1.1 rfl))⟩
theorem SnT.aX {Q:Bool->Gh->Prop}(h:SnT X n sc a m G Q):SnT X n sc (.BoolOp .And [a] pos) m G Q:=⟨λhy=>
 isTrue_and (zA (h.go hy) λt s₁ q=>by
  cases t
  ·exact q
  ·exact isTrue_and_nil q)⟩
theorem SnT.bG {Q:Bool->Gh->Prop}(h:SnT X n sc a m G Q):SnT X n sc (.BoolOp .Or [a] pos) m G Q:=⟨λhy=>
 isTrue_or (zA (h.go hy) λt s₁ q=>by
  cases t
  ·exact isTrue_or_nil q
  ·exact q)⟩
theorem SnT.and {Q:Bool->Gh->Prop}(h:SnT X n sc a m G λt G'=>Two (SnT X n sc (.BoolOp .And (c::rest) pos) m G' Q) (Q false G') t):SnT X n sc (.BoolOp .And (a::c::rest) pos) m G Q:=⟨λhy=>
 isTrue_and (h.use hy λt s₁ G1 hy1 f₁ h1=>by
  cases t
  ·exact .mk G1 hy1.hr f₁ (h1.2 rfl)
  ·exact zA ((h1.1 rfl).go hy1) λ_ _ q=>q.next f₁)⟩
theorem SnT.or {Q:Bool->Gh->Prop}(h:SnT X n sc a m G λt G'=>Two (Q true G') (SnT X n sc (.BoolOp .Or (c::rest) pos) m G' Q) t):SnT X n sc (.BoolOp .Or (a::c::rest) pos) m G Q:=⟨λhy=>
 isTrue_or (h.use hy λt s₁ G1 hy1 f₁ h1=>by
  cases t
  ·exact zA ((h1.2 rfl).go hy1) λ_ _ q=>q.next f₁
  ·exact .mk G1 hy1.hr f₁ (h1.1 rfl))⟩
theorem Sn.cmp (h:Sn X n sc l m G λv G1=>Sn X n sc r m G1 λw G2=>Op2 X n (compareOp op) v w G2 Q)(hm:behindInMarks op r=false:=by with_unfolding_all rfl):Sn X n sc (.Compare l [op] [r] pos) m G Q:=⟨λhy=>
 wpAny_Compare1 (h.two hy λx y s₂ v w G2 hv hw hy2 f₂ h2=>zA (h2.go hy2.hA hy2.hb hy2.hr hv hw) λ_ _ q=>q.next f₂) hm⟩
theorem SnT.cmp {Q:Bool->Gh->Prop}(h:Sn X n sc l m G λv G1=>Sn X n sc r m G1 λw G2=>Op2 X n (compareOp op) v w G2 (TQ Q))(hm:behindInMarks op r=false:=by with_unfolding_all rfl):SnT X n sc (.Compare l [op] [r] pos) m G Q:=⟨λhy=>
 wpAny_isTrue_Compare1 (h.two hy λx y s₂ v w G2 hv hw hy2 f₂ h2=>zA (h2.go hy2.hA hy2.hb hy2.hr hv hw) λ_ _ q=>q.test f₂) hm⟩
inductive Yp (X:Cx)(b:Bs)(s:Shared)(Q:List Val->Gh->Prop)(ys:List Value)(s':Shared):Prop where
 | mk (vs:List Val) (G':Gh) (hv:VRs s'.heap vs ys) (hr:Rep X b G' s'.heap) (f:Fwd s s') (q:Q vs G')
structure SnEs (X:Cx)(n:Nat)(sc:Scope)(es:List Expr)(m:M)(G:Gh)(Q:List Val->Gh->Prop):Prop where
 go:∀{env:Env} {A:Around} {b:Bs} {s:Shared} {pos:Pos},Hy X n sc env A b m G s->wpAny (model X.prog X.w) A (spliced (backTo pos (starEach es env))) (Yp X b s Q) NoE s
theorem Yp.elim {Q:List Val->Gh->Prop}{P:Prop}(o:Yp X b s Q ys s')(k:∀vs G',VRs s'.heap vs ys->Rep X b G' s'.heap->Fwd s s'->Q vs G'->P):P:=by cases o with | mk v G' a1 a2 a3 a4=>exact k v G' a1 a2 a3 a4
theorem SnEs.use {Q:List Val->Gh->Prop}{P:List Value->Shared->Prop}(h:SnEs X n sc es m G Q)(hy:Hy X n sc env A b m G s)(k:∀ys s₁ vs G1,VRs s₁.heap vs ys->Hy X n sc env A b m G1 s₁->Fwd s s₁->Q vs G1->P ys s₁) :
  wpAny (model X.prog X.w) A (spliced (backTo pos (starEach es env))) P NoE s:=
 zA (h.go hy) λx s₁ o=>o.elim λv G' a1 a2 a3 a4=>k x s₁ v G' a1 (hy.next a2 a3) a3 a4
theorem SnEs.nil {Q:List Val->Gh->Prop}(q:Q [] G):SnEs X n sc [] m G Q:=⟨λhy=>args_nil (.mk [] G .nil hy.hr .refl q)⟩
theorem SnEs.cons {Q:List Val->Gh->Prop}{es:List Expr}(h:Sn X n sc e m G λv G1=>SnEs X n sc es m G1 λvs G2=>Q (v::vs) G2)(hp:∀env,starEach (e::es) env=(false,eval e env)::starEach es env:=by intro _;rfl):SnEs X n sc (e::es) m G Q:=⟨λhy=>
 args_cons (h.use hy λx s₁ v G1 hv hy1 f₁ h1=>SnEs.use h1 hy1 λys s₂ vs G2 hvs hy2 f₂ h2=>.mk (v::vs) G2 (.cons (hv.mono f₂.tk) hvs) hy2.hr (f₁.trans f₂) h2) (hp _)⟩
theorem Sn.tup {es:List Expr}{k:Nat}{pos:Pos}(h:SnEs X n sc es m G λvs G'=>vs.length<cap/\Q (.tup vs) G'):Sn X n sc (.Tuple es k pos) m G Q:=⟨λhy=>
 Tuple_ (h.use hy λys s₁ vs G1 hv hy1 f₁ h1=>wpAny_newObj_type ((newT hy1.hr hv h1.2).next f₁) (by
  show ys.toArray.size<=sizeLine;rw[size_toArray];rw[<-hv.length];exact zk h1.1))⟩
theorem Sn.list {es:List Expr}{pos:Pos}(h:SnEs X n sc es m G λvs G'=>vs.length<cap/\newList vs G' Q):Sn X n sc (.List es pos) m G Q:=⟨λhy=>
 List_ (h.use hy λys s₁ vs G1 hv hy1 f₁ h1=>wpAny_newObj_type ((newL (ys:=ys.toArray) hy1.hb hy1.hr (yA h1.1) (by rw[toList_toArray];exact hv) h1.2).next f₁) (by
  show ys.toArray.size<=sizeLine;rw[size_toArray];rw[<-hv.length];exact zk h1.1))⟩
structure Z0 (X:Cx):Prop where
 plain:∀c f,plainGet X.K (X.cA c) (Fld.txt f)=true
 has:∀c,hasDictIn X.K (X.cA c)=true
 no:∀c (f:Fld),findIn X.K (.ref (X.cA c)) f.txt=some none
 setA:∀c,findIn X.K (.ref (X.cA c)) "__setattr__" = some (some (.builtin "object.__setattr__"))
 over:∀c,plainOver X.K (X.cA c)=true
 makes:∀c,makesIn X.K (X.cA c)=true
theorem zJl (hv:VR h v y):handedIn y=true:=by cases hv<;>rfl
theorem Sn.attr {o:Expr}{attr:Str}{pos:Pos}(hc:Z0 X)(f:Fld)(ha:attr=f.txt)(h:Sn X n sc o m G λv G1=>∃a k fs w,v=.ref a/\G1 a=some (.inst k fs)/\fs f=some w/\Q w G1)
  (hs:∀env whole,attributeBase o attr env whole=whole:=by intro _ _;rfl):Sn X n sc (.Attribute o attr pos) m G Q:=⟨λ{env A b s} hy=>by
 subst ha;refine Attribute_any_ (h.use hy λx s₁ v G1 hv hy1 f₁ h₁=>?_) ?_
 ·obtain⟨a,k,fs,w,eq4,e,ef,q⟩:=h₁;subst eq4;rw[hv.aC];refine vp ((hy1.hr.own _ _ e).2) λd es nn h1 h2 h3 h4=>?_;refine zC ((h4 f).1 w ef) λy hyy hvv=>?_;exact get_value (od:=some ⟨.type "dict",Option.none,.dict es nn,#[]⟩) (C:=X.cA k) (hy1.hb.kin hy1.hr) ⟨h1,rfl,rfl,h2⟩ (plainGet_of (hc.plain k f)).1 (findObj_own (hc.has k) (hc.no k f) rfl hyy) (zJl hvv) ((Out.here hy1.hr hvv q).next f₁)
 ·show (do
   let o' <-attributeBase o f.txt env (eval o env)
   standAt pos.atName
   let r <-holding [o'] (getAttr o' f.txt true)
   letTemporaryGo o o' r
   pure r)=_
  rw[hs]⟩
end
end
section
section
variable {X:Cx}{n:Nat}{sc:Scope}{env:Env}{A:Around}{b:Bs}{m:M}{G:Gh}{s:Shared}{Q:QE}{e:Expr}
structure Idx (X:Cx)(v w:Val)(G:Gh)(Q:QE):Prop where
 go:∀{A:Around} {b:Bs} {s:Shared} {x y:Value} {value sl:Expr} {ops:List Value},Rep X b G s.heap->VR s.heap v x->VR s.heap w y->subscripted sl false x y=operate ops (getItem x y) ->
  wpAny (model X.prog X.w) A (subscriptTail value sl x y) (Out X b s Q) NoE s
theorem zCD {α:Type}{xs:List α}{k:Nat}(hl:xs.length=k){i:Int}{x:α}(h:zy xs i=some x):∃j,seqIndex? i k=some j/\xs[j]?=some x:=by
 unfold zy at h;unfold seqIndex?;split at h
 ·rename_i h0;have h1:=(List.getElem?_eq_some_iff.mp h).1;refine⟨i.toNat,?_,h⟩;rw[if_neg (by lia:¬i<0)];rw[if_pos (by simp only [and_eq_true,decide_eq_true_eq];lia)]
 ·split at h
  ·rename_i h0 h1;have h2:=(List.getElem?_eq_some_iff.mp h).1;refine⟨(i+xs.length).toNat,?_,h⟩;rw[if_pos (by lia:i<0)];rw[if_pos (by simp only [and_eq_true,decide_eq_true_eq];lia)];rw[hl]
  ·cases h
theorem Idx.tup {vs:List Val}{i:Int}{v:Val}(hi:i.natAbs<cap)(hx:zy vs i=some v)(q:Q v G):Idx X (.tup vs) (.int i) G Q:=⟨λ{A b s x y value sl ops} hr hv hw hs=>by
 refine wm hv.aT λa k ys eq3 e r=>?_;subst eq3;obtain⟨t,rfl⟩:=hw.int_inv;refine zC (zCD (k:=ys.toArray.size) (by rw[size_toArray];exact r.length) hx) λj hj hk=>?_;refine zC (r.get hk) λz hz hvr=>?_;exact tail_any ⟨_,e,rfl⟩ slot_tuple_getitem.lookup (P.getItem_tuple (items:=ys.toArray) e (Int.le_of_lt (zIV hi (by unfold cap;decide))) (zGZ hi (by unfold cap;decide)) hj (by rw[getElem?_toArray];exact hz) (Out.here hr hvr q)) hs⟩
theorem Idx.list {a:Addr}{xs:List Val}{i:Int}{v:Val}(e:G a=some (.list xs))(hi:i.natAbs<cap)(hx:zy xs i=some v)(q:Q v G):Idx X (.ref a) (.int i) G Q:=⟨λ{A b s x y value sl ops} hr hv hw hs=>by
 rw[hv.aC] at hs ⊢;obtain⟨t,rfl⟩:=hw.int_inv;refine wn (zO hr e) λys k hl ho r hlen=>?_;refine tail_any ⟨_,ho,rfl⟩ slot_list_getitem.lookup ?_ hs;unfold zy at hx;split at hx
 ·rename_i h0;refine zC (r.get hx) λy hy hvr=>?_;exact wpAny_getItem_list ⟨_,ho,rfl,k,rfl⟩ h0 (zGZ hi (by unfold cap;decide)) (by rw[<-getElem?_toList];exact hy) (Out.here hr hvr q)
 ·split at hx
  ·rename_i h0 h3;refine zC (r.get hx) λy hy hvr=>?_;rw[hlen] at hy h3;exact wpAny_getItem_list_neg ⟨_,ho,rfl,k,rfl⟩ (Int.not_le.mp h0) (Int.sub_nonneg.mp (by rw[Int.sub_neg];exact h3)) (Int.le_of_lt (zIV hi (by unfold cap;decide))) (by rw[<-getElem?_toList];exact hy) (Out.here hr hvr q)
  ·cases hx⟩
theorem Idx.dict {a:Addr}{es:List (Int×Val)}{k:Int}{v:Val}(e:G a=some (.dict es))(hx:zm es k=some v)(q:Q v G):Idx X (.ref a) (.int k) G Q:=⟨λ{A b s x y value sl ops} hr hv hw hs=>by
 rw[hv.aC] at hs ⊢;obtain⟨t,rfl⟩:=hw.int_inv;obtain⟨hl,kvs,hd,hes⟩:=(hr.own _ _ e).2;refine zC ((hes.look _).1 _ hx) λy hy hvr=>?_;exact tail_any hd.typeIs slot_dict_getitem.lookup (wpAny_getItem_of (knd:=intKind X.prog X.w) (intKind_is _ _ _ _) hd.mapOf hy (Out.here hr hvr q)) hs⟩
theorem Sn.idx {o i:Expr}(h:Sn X n sc o m G λv G1=>Sn X n sc i m G1 λw G2=>Idx X v w G2 Q)(hs:∀x y,subscripted i false x y=operate [x,y] (getItem x y):=by intro _ _;rfl):Sn X n sc (.Subscript o i pos) m G Q:=⟨λhy=>
 Subscript_ (h.two hy λx y s₂ v w G2 hv hw hy2 f₂ h2=>zA (h2.go hy2.hr hv hw (hs x y)) λ_ _ q=>q.next f₂)⟩
inductive OutP (X:Cx)(b:Bs)(s:Shared)(Q:Option Int->Gh->Prop)(x:Value)(s':Shared):Prop where
 | mk (i:Option Int) (G':Gh) (hi:IsPart x i) (hr:Rep X b G' s'.heap) (f:Fwd s s') (q:Q i G')
structure SnP (X:Cx)(n:Nat)(sc:Scope)(e:Option Expr)(m:M)(G:Gh)(Q:Option Int->Gh->Prop):Prop where
 go:∀{env:Env} {A:Around} {b:Bs} {s:Shared},Hy X n sc env A b m G s->wpAny (model X.prog X.w) A (evalPart e env) (OutP X b s Q) NoE s
theorem SnP.none {Q:Option Int->Gh->Prop}(q:Q .none G):SnP X n sc .none m G Q:=⟨λhy=>wpAny_pure (.mk .none G .none hy.hr .refl q)⟩
theorem SnP.some {Q:Option Int->Gh->Prop}(h:Sn X n sc e m G λv G'=>∃i,v=.int i/\Q (some i) G'):SnP X n sc (some e) m G Q:=⟨λhy=>h.use hy λx s₁ v G1 hv hy1 f₁ h1=>by
 refine zC h1 λi eq1 q=>?_;subst eq1;obtain⟨t,rfl⟩:=hv.int_inv;exact .mk (.some i) G1 (.int _ _) hy1.hr f₁ q⟩
theorem SnP.use {e:Option Expr}{Q:Option Int->Gh->Prop}{P:Value->Shared->Prop}(h:SnP X n sc e m G Q)(hy:Hy X n sc env A b m G s)(k:∀x s₁ i G1,IsPart x i->Hy X n sc env A b m G1 s₁->Fwd s s₁->Q i G1->P x s₁) :
  wpAny (model X.prog X.w) A (evalPart e env) P NoE s:=
 zA (h.go hy) λx s₁ o=>by cases o with | mk i G' a1 a2 a3 a4=>exact k x s₁ i G' a1 (hy.next a2 a3) a3 a4
structure SlOp (X:Cx)(v:Val)(lo hi:Option Int)(G:Gh)(Q:QE):Prop where
 go:∀{A:Around} {b:Bs} {s:Shared} {x vl vu:Value} {o:Expr} {l u:Option Expr} {p:Pos},Base X b->Rep X b G s.heap->VR s.heap v x->IsPart vl lo->IsPart vu hi ->
  wpAny (model X.prog X.w) A (subscriptTail o (.Slice l u .none p) x (.ref s.heap.objs.size)) (Out X b s Q) NoE { s with heap:=s.heap.push { cls:=.type "slice",data:=.fields #[vl,vu,.none] } }
theorem zAE {xs:List Val}{ys:Array Value}{vl vu:Value}{lo hi:Option Int}{o:Expr}{l u:Option Expr}(hb:Base X b)(hr:Rep X b G s.heap)
  (hl:xs.length<=2 * cap) (hL:Heap.IsList s.heap a ys) (hs:VRs s.heap xs ys.toList) (pl:IsPart vl lo) (pu:IsPart vu hi) (h:newList (slice xs lo hi) G Q) :
  wpAny (model X.prog X.w) A (subscriptTail o (.Slice l u .none p) (.ref a) (.ref s.heap.objs.size)) (Out X b s Q) NoE { s with heap:=s.heap.push { cls:=.type "slice",data:=.fields #[vl,vu,.none] } }:=by
 have hlen:xs.length=ys.size:=by rw[hs.length];rw[length_toList]
 generalize hso:({ cls:=.type "slice",data:=.fields #[vl,vu,.none] }:Obj)=so;have kp:∀a o,s.heap.get? a=some o->(s.heap.push so).get? a=some o:=λa o e=>get?_push_of_some _ e;refine tail_any (s:={ s with heap:=s.heap.push so }) (Heap.IsList.typeIs (s:={ s with heap:=s.heap.push so }) (hL.push _)) list_getitem_lookup
  (wpAny_getItem_list_slice (hL.push _) (by rw[<-hso];exact Heap.IsSliceOf.new ..) pl pu .none (by simp) ?_ (by rw[sizeLine_eq];rw[<-hlen];exact zDr hl)) rfl
 rw[kms_pick_eq];have hs':VRs (s.heap.push so) (slice xs lo hi) (kms_pick ys.toList lo hi):=by
  unfold slice kms_pick;rw[hs.length];exact((hs.mono (.of_keep kp)).drop _).take _
 exact(newL (s:={ s with heap:=s.heap.push so }) (Q:=Q) (ys:=(kms_pick ys.toList lo hi).toArray) hb (hr.mono kp) (by unfold slice;rw[length_take];rw[length_drop];exact le_trans (min_le_right ..) (le_trans (sub_le ..) hl)) (by rw[toList_toArray];exact hs') h).next ⟨.of_keep kp,rfl,rfl⟩
theorem SlOp.list {a:Addr}{xs:List Val}{lo hi:Option Int}(e:G a=some (.list xs))(h:newList (slice xs lo hi) G Q):SlOp X (.ref a) lo hi G Q:=⟨λhb hr hv pl pu=>by
 rw[hv.aC];refine wn (zO hr e) λys k hl ho r hlen=>?_;exact zAE hb hr hl ⟨_,ho,rfl,k,rfl⟩ r pl pu h⟩
theorem SlOp.ground {xs:List Val}{lo hi:Option Int}(e:xs.length<=2 * cap/\∃ys,X.H0.IsList a ys/\VRs X.H0 xs ys.toList)(h:newList (slice xs lo hi) G Q):SlOp X (.ref a) lo hi G Q:=⟨λhb hr hv pl pu=>by
 rw[hv.aC];obtain⟨hl,ys,⟨o,h1,h3⟩,h2⟩:=e;exact zAE hb hr hl ⟨o,hb.kp hr _ _ h1,h3⟩ (h2.mono (.of_keep (hb.kp hr))) pl pu h⟩
theorem Sn.slice {o:Expr}{lo hi:Option Expr}(h:Sn X n sc o m G λv G1=>SnP X n sc lo m G1 λl G2=>SnP X n sc hi m G2 λu G3=>SlOp X v l u G3 Q):Sn X n sc (.Subscript o (.Slice lo hi .none p) pos) m G Q:=⟨λhy=>
 Subscript_ (h.use hy λx s₁ v G1 hv hy1 f₁ h1=>wpAny_Slice (h1.use hy1 λxl s₂ l G2 hl hy2 f₂ h2=>h2.use hy2 λxu s3 u G3 hu hy3 f3 h3=>wpAny_pure (zA (h3.go hy3.hb hy3.hr (hv.mono (f₂.trans f3).tk) hl hu) λ_ _ q=>q.next ((f₁.trans f₂).trans f3))))⟩
theorem Sn.rev {o:Expr}{k:Nat}(h:Sn X n sc o m G λv G1=>∃a xs,v=.ref a/\G1 a=some (.list xs)/\newList xs.reverse G1 Q):Sn X n sc (.Subscript o (.Slice .none .none (some (.UnaryOp .USub (.Constant (.int 1) k p1) p2)) p) pos) m G Q:=⟨λhy=>
 Subscript_ (h.use hy λx s₁ v G1 hv hy1 f₁ h1=>by
  refine wpAny_Slice (wpAny_pure (wpAny_pure ?_));refine UnaryOp_ (wpAny_Constant_int (P.neg_int ?_));refine wF h1 λa xs eq2 e h3=>?_;subst eq2;rw[hv.aC];refine wn (zO hy1.hr e) λys kk hl hoo r hlen=>?_;generalize hso:({ cls:=.type "slice",data:=.fields #[.none,.none,.int (-1) (s₁.toks+1)] }:Obj)=so;have kp:∀a o,s₁.heap.get? a=some o->(s₁.heap.push so).get? a=some o:=λa o e=>get?_push_of_some _ e;have hL:Heap.IsList s₁.heap a ys:=⟨_,hoo,rfl,kk,rfl⟩
  refine tail_any (s:={ s₁ with heap:=s₁.heap.push so,toks:=s₁.toks+1+1 }) (Heap.IsList.typeIs (s:={ s₁ with heap:=s₁.heap.push so,toks:=s₁.toks+1+1 }) (hL.push _)) list_getitem_lookup
   (wpAny_getItem_list_slice (lo:=.none) (hi:=.none) (st:=some (-1)) (hL.push _) (by rw[<-hso];exact Heap.IsSliceOf.new ..) .none .none (.int _ _) (by simp) ?_ (by rw[sizeLine_eq];rw[<-hlen];exact zDr hl)) rfl
  rw[krv_pick];exact(newL (s:={ s₁ with heap:=s₁.heap.push so,toks:=s₁.toks+1+1 }) (Q:=Q) (ys:=ys.toList.reverse.toArray) hy1.hb (hy1.hr.mono kp) (by rw[length_reverse];exact hl) (by rw[toList_toArray];exact((r.mono (.of_keep kp)).reverse)) h3).next (f₁.trans ⟨.of_keep kp,rfl,rfl⟩))⟩
def Zf (sc:Scope)(x:Str):Prop:=(x,NameKind.globalImplicit)∈sc.names
theorem Zf.look (he:Zq X sc env)(h:Zf sc x):env.kindOf x=some .globalImplicit:=(he.kindOf x).trans (zQ (scOK.nd he.ok) h)
theorem zB4 {Mo:Model}{E:Value->Shared->Prop}{Q:Value->Shared->Prop}(he:Zq X sc env)(hk:Zf sc x)(q:wpAny Mo A (loadGlobal env x) Q E s):wpAny Mo A (loadName env x) Q E s:=by
 have e1:loadName env x=loadGlobal env x:=by
  unfold loadName;simp only [Env.blockKind,he.scope,he.kind,ScopeKind.isAnnotationScope,Bool.false_and,false_eq_true,if_false,hk.look he]
 rw[e1];exact q
theorem vI {Mo:Model}{E:Value->Shared->Prop}{v:Value}{Q:Value->Shared->Prop}(he:Zq X sc env)(hb:Base X b)(hr:Rep X b G s.heap)(hk:Zf sc x)(hv:X.mg x=some v)(q:Q v s):wpAny Mo A (loadName env x) Q E s:=by refine zB4 he hk ?_;unfold loadGlobal;rw[he.glob];refine wpAny_bind (wpAny_nsGet (X.ng.keeps (hb.kp hr)) ?_);rw[hv];exact wpAny_pure q
theorem zAK {Mo:Model}{E:Value->Shared->Prop}{v:Value}{Q:Value->Shared->Prop}(he:Zq X sc env)(hb:Base X b)(hr:Rep X b G s.heap)(hk:Zf sc x)(hm:X.mg x=none)(hv:X.mb x=some v)(q:Q v s):wpAny Mo A (loadName env x) Q E s:=by refine zB4 he hk ?_;unfold loadGlobal;rw[he.glob];rw[he.blt];refine wpAny_bind (wpAny_nsGet (X.ng.keeps (hb.kp hr)) ?_);rw[hm];show wpAny Mo A (nsGet builtinsNs x >>= _) Q E s;refine wpAny_bind (wpAny_nsGet (X.nb.keeps (hb.kp hr)) ?_);rw[hv];exact wpAny_pure q
theorem Zf.bL (he:Zq X sc env)(h:Zf sc x):(x == ("__debug__" : Str))=false:=he.bL (h.look he)
def Z7 (X:Cx)(x:Str)(v:Val):Prop:=∃y,X.mg x=some y/\VR X.H0 v y
def Zw (X:Cx)(x:Str)(ks:List Str):Prop:=∃a es k,X.mg x=some (.ref a)/\X.K.lookup a=some ⟨.type "dict",none,.dict es k,#[]⟩/\KeysLit X.w.params es.toList/\(a == sysModules)=false/\∀x,(findBy Value.isStrOf es x).isSome=ks.contains x
theorem Sn.glob {v:Val}(hg:Z7 X x v)(hk:Zf sc x)(q:Q v G):Sn X n sc (.Name x pos) m G Q:=⟨λhy=>by
 refine zC hg λy h1 h2=>?_;exact wpAny_Name (vI hy.he hy.hb hy.hr hk h1 (.mk v G (h2.mono (.of_keep (hy.hb.kp hy.hr))) hy.hr .refl q)) (hk.bL hy.he)⟩
theorem zB8 {ks:List Str}{y:Value}(hg:Zw X x ks)(hk:Zf sc x)(hy:Hy X n sc env A b m G s)(hv:VR s.heap (.str z) y)(h:Q (.bool (ks.contains z)) G) :
  wpAny (model X.prog X.w) A (eval (.Name x pos) env) (λd s₂=>wpAny (model X.prog X.w) A (compareOp .In y d) (Out X b s Q) NoE s₂) NoE s:=by refine uJ hg λa es k h1 h2 h3 h4 h5=>?_;obtain⟨t,rfl⟩:=hv.str_inv;refine wpAny_Name (vI hy.he hy.hb hy.hr hk h1 (wpAny_in_of (knd:=strKind X.prog X.w) (strKind_is _ _ _ _) h4 (mapOf_K (prog:=X.prog) (hy.hb.kin hy.hr) h2 h3) ?_)) (hk.bL hy.he);rw[h5];exact Out.here hy.hr (.bool _) h
theorem zBU {ks:List Str}{y:Value}(hg:Zw X x ks)(hk:Zf sc x)(hy:Hy X n sc env A b m G s)(hv:VR s.heap (.str z) y)(h:Q (.bool (!ks.contains z)) G) :
  wpAny (model X.prog X.w) A (eval (.Name x pos) env) (λd s₂=>wpAny (model X.prog X.w) A (compareOp .NotIn y d) (Out X b s Q) NoE s₂) NoE s:=by refine uJ hg λa es k h1 h2 h3 h4 h5=>?_;obtain⟨t,rfl⟩:=hv.str_inv;refine wpAny_Name (vI hy.he hy.hb hy.hr hk h1 (wpAny_notIn_of (knd:=strKind X.prog X.w) (strKind_is _ _ _ _) h4 (mapOf_K (prog:=X.prog) (hy.hb.kin hy.hr) h2 h3) ?_)) (hk.bL hy.he);rw[h5];exact Out.here hy.hr (.bool _) h
theorem Sn.cj {l:Expr}{ks:List Str}(hg:Zw X x ks)(hk:Zf sc x)(h:Sn X n sc l m G λv G1=>∃z,v=.str z/\Q (.bool (ks.contains z)) G1):Sn X n sc (.Compare l [.In] [.Name x p] pos) m G Q:=⟨λhy=>
 wpAny_Compare1 (h.use hy λy s₁ v G1 hv hy1 f₁ h1=>by
  refine zC h1 λz eq1 q=>?_;subst eq1;exact zA (zB8 hg hk hy1 hv q) λy s₂ q=>zA q λ_ _ q=>q.next f₁)⟩
theorem SnT.cj {Q:Bool->Gh->Prop}{l:Expr}{ks:List Str}(hg:Zw X x ks)(hk:Zf sc x)(h:Sn X n sc l m G λv G1=>∃z,v=.str z/\Q (ks.contains z) G1):SnT X n sc (.Compare l [.In] [.Name x p] pos) m G Q:=⟨λhy=>
 wpAny_isTrue_Compare1 (h.use hy λy s₁ v G1 hv hy1 f₁ h1=>by
  refine zC h1 λz eq1 q=>?_;subst eq1;exact zA (zB8 (Q:=TQ Q) hg hk hy1 hv ⟨_,.bool _,q⟩) λy s₂ q=>zA q λ_ _ q=>q.test f₁)⟩
theorem SnT.bA {Q:Bool->Gh->Prop}{l:Expr}{ks:List Str}(hg:Zw X x ks)(hk:Zf sc x)(h:Sn X n sc l m G λv G1=>∃z,v=.str z/\Q (!ks.contains z) G1):SnT X n sc (.Compare l [.NotIn] [.Name x p] pos) m G Q:=⟨λhy=>
 wpAny_isTrue_Compare1 (h.use hy λy s₁ v G1 hv hy1 f₁ h1=>by
  refine zC h1 λz eq1 q=>?_;subst eq1;exact zA (zBU (Q:=TQ Q) hg hk hy1 hv ⟨_,.bool _,q⟩) λy s₂ q=>zA q λ_ _ q=>q.test f₁)⟩
def Zj (es:List Expr):Prop:=∀env pos,(backTo pos (starEach es env)).all (λx=>!x.1)=true
theorem Zj.any {es:List Expr}(h:Zj es)(env:Env)(pos:Pos):(backTo pos (starEach es env)).any (·.1)=false:=by
 have:=h env pos;rw[all_eq_true] at this;rw[List.any_eq_false];intro x hx q
 have:=this x hx;rw[q] at this;cases this
theorem wh {f:Value}{es:List Expr}{Q:List Val->Gh->Prop}{P:Args->Shared->Prop}(hn:Zj es)(h:SnEs X n sc es m G Q)(hy:Hy X n sc env A b m G s)
  (k:∀ys s₁ vs G1,VRs s₁.heap vs ys->Hy X n sc env A b m G1 s₁->Fwd s s₁->Q vs G1->P ⟨ys,[]⟩ s₁):wpAny (model X.prog X.w) A (evalArgs f true (backTo pos (starEach es env)) []) P NoE s:=by
 have h2:=h.use (pos:=pos) hy (P:=λys s₁=>P ⟨ys,[]⟩ s₁) k;unfold evalArgs;have key:∀l:List (Bool×Sem Value),l.any (·.1)=false->wpAny (model X.prog X.w) A (spliced l) (λys s₁=>P ⟨ys,[]⟩ s₁) NoE s->wpAny (model X.prog X.w) A (evalArgs f true l []) P NoE s:=by
  intro l hl h;cases l with
  | nil=>
   unfold evalArgs;show wpAny _ A (spliced [] >>= _) _ _ s;refine wpAny_bind (zA h λvs s' h'=>?_);refine wpAny_bind (wpAny_pure ?_);refine wpAny_holding ?_;exact wpAny_bind (wpAny_pure (wpAny_bind (wpAny_pure (wpAny_pure h'))))
  | cons p l=>
   obtain⟨q,t⟩:=p;rw[any_cons] at hl;rw[or_eq_false_iff] at hl;obtain rfl:q=false:=hl.1;exact Calls.evalArgs_plain h
 exact key _ (hn.any env pos) h2
structure Zv (X:Cx):Prop where
 mg:∀x∈(["len","list","sorted","any","all","sum","int","abs","min","set","range","enumerate","zip","isinstance","bool"]:List String),X.mg (Str.ofString x)=none
 fn:∀x∈(["len","sorted","any","all","sum","abs","min","isinstance"]:List String),X.mb (Str.ofString x)=some (.builtin x)
 ty:∀x∈(["list","int","set","range","enumerate","zip","bool"]:List String),X.mb (Str.ofString x)=some (.type x)
theorem Sn.fn {id:String}{es:List Expr}(hx:Zv X)(h1:id∈(["len","list","sorted","any","all","sum","int","abs","min","set","range","enumerate","zip","isinstance","bool"]:List String))(h2:id∈(["len","sorted","any","all","sum","abs","min","isinstance"]:List String))
  (hk:Zf sc (Str.ofString id)) (hn:Zj es) (h:SnEs X n sc es m G λvs G1=>OpN X n (λys=>call (.builtin id) ys) vs G1 Q):Sn X n sc (.Call (.Name (Str.ofString id) p) es [] pos) m G Q:=⟨λhy=>
 PyProof.Rows.Call_ (wpAny_Name (zAK hy.he hy.hb hy.hr hk (hx.mg _ h1) (hx.fn _ h2) (Calls.callWith_builtin (first:=[]) (hn.any _ _) (wh hn h hy λys s₁ vs G1 hv hy1 f₁ h₁=>
  zA (h₁.go hy1.hA hy1.hb hy1.hr hv) λ_ _ q=>q.next f₁))) (hk.bL hy.he))⟩
theorem Sn.ty {id:String}{es:List Expr}(hx:Zv X)(h1:id∈(["len","list","sorted","any","all","sum","int","abs","min","set","range","enumerate","zip","isinstance","bool"]:List String))(h2:id∈(["list","int","set","range","enumerate","zip","bool"]:List String))
  (hk:Zf sc (Str.ofString id)) (hn:Zj es) (h:SnEs X n sc es m G λvs G1=>OpN X n (λys=>call (.type id) ys) vs G1 Q):Sn X n sc (.Call (.Name (Str.ofString id) p) es [] pos) m G Q:=⟨λhy=>
 PyProof.Rows.Call_ (wpAny_Name (zAK hy.he hy.hb hy.hr hk (hx.mg _ h1) (hx.ty _ h2) (PyProof.Rows.callWith_type (first:=[]) (hn.any _ _) (wh hn h hy λys s₁ vs G1 hv hy1 f₁ h₁=>
  zA (h₁.go hy1.hA hy1.hb hy1.hr hv) λ_ _ q=>q.next f₁))) (hk.bL hy.he))⟩
theorem OpN.one {f:List Value->Sem Value}{v:Val}(h:Op1 X n (λx=>f [x]) v G Q):OpN X n f [v] G Q:=⟨λhA hb hr hv=>by
 refine zC hv.af λy eq1 hv'=>?_;subst eq1;exact h.go hA hb hr hv'⟩
theorem OpN.two {f:List Value->Sem Value}{v w:Val}(h:Op2 X n (λx y=>f [x,y]) v w G Q):OpN X n f [v,w] G Q:=⟨λhA hb hr hv=>by
 refine wF hv.ae λy z eq2 hv' hw=>?_;subst eq2;exact h.go hA hb hr hv' hw⟩
abbrev Blt (X:Cx)(n:Nat)(f:Value)(vs:List Val)(G:Gh)(Q:QE):Prop:=OpN X n (λys=>call f ys) vs G Q
theorem Blt.aw {xs:List Val}(e:G a=some (.list xs))(hl:xs.length<cap)(q:Q (.int xs.length) G):Blt X n (.builtin "len") [.ref a] G Q:=.one ⟨λhA hb hr hv=>by
 rw[hv.aC];refine wn (zO hr e) λzs k _ ho hs hlen=>?_;refine Calls.call_len_list ⟨_,ho,rfl,k,rfl⟩ (by rw[<-hlen];exact zIU (yA hl)) ?_;rw[<-hlen];exact Out.here hr (.int _ _) q⟩
theorem zDA {xs:List Val}{ys:Array Value}{T:String}{k:Nat}(hT:T = "list"\/T = "tuple")(hb:Base X b)(hr:Rep X b G s.heap)(hl:xs.length<cap)(ho:s.heap.get? a=some ⟨.type T,none,.seq ys k,#[]⟩)(hv:VRs s.heap xs ys.toList)(q:newList xs G Q) :
  wpAny (model X.prog X.w) A (call (.type "list") [.ref a]) (Out X b s Q) NoE s:=
 have hlen:xs.length=ys.size:=by rw[hv.length];rw[length_toList]
 call_list_seq a hT ho rfl rfl (λh' c' kp hD=>zIR (s':={ s with heap:=h' }) hb hr (yA hl) kp (zj (le_refl _)) hD (hlow hb hr) (hv.mono (.of_keep kp)) rfl rfl q) (by rw[<-hlen];exact zk hl)
theorem Blt.cP {vs:List Val}(hl:vs.length<cap)(q:newList vs G Q):Blt X n (.type "list") [.tup vs] G Q:=.one ⟨λhA hb hr hv=>by
 refine wm hv.aT λa k ys eq3 e r=>?_;subst eq3;exact zDA (.inr rfl) hb hr hl e (by rw[toList_toArray];exact r) q⟩
theorem Blt.cQ {xs:List Val}(e:G a=some (.list xs))(hl:xs.length<cap)(q:newList xs G Q):Blt X n (.type "list") [.ref a] G Q:=.one ⟨λhA hb hr hv=>by
 rw[hv.aC];refine wn (zO hr e) λzs k _ ho hs hlen=>?_;exact zDA (.inl rfl) hb hr hl ho hs q⟩
theorem Blt.min {i j:Int}(q:Q (.int (if j<i then j else i)) G):Blt X n (.builtin "min") [.int i,.int j] G Q:=.two ⟨λhA hb hr hv hw=>by
 obtain⟨t,rfl⟩:=hv.int_inv;obtain⟨u,rfl⟩:=hw.int_inv;refine min_two_ints hA.hd λh' tk kp=>Out.grow hr ?_ kp q;split<;>exact .int _ _⟩
theorem zCe {vs:List Value}{ns:List Int}(i:IntsAre vs ns):VRs h (ns.map .int) vs:=by
 induction i with
 | nil=>exact .nil
 | cons _ _ _ ih=>exact .cons (.int _ _) ih
theorem zDi:∀{vs:List Value} {ns:List Int},vs.length=ns.length->(∀(j:Nat) (v:Value),vs[j]?=some v->∃t k,ns[j]?=some k/\v=.int k t)->IntsAre vs ns:=by
 intro vs;induction vs with
 | nil=>intro ns hl _;cases ns with | nil=>exact .nil | cons _ _=>cases hl
 | cons v vs ih=>
  intro ns hl h;cases ns with
  | nil=>cases hl
  | cons k ns=>
   refine vq (h 0 v rfl) λt k' hk eq3=>?_;subst eq3;cases hk;exact .cons _ _ (ih (Nat.succ.inj hl) λj u hu=>h (j+1) u hu)
theorem Blt.sorted {es:List (Int×Val)}(e:G a=some (.dict es))(hl:es.length<64)
  (h:∀ks:List Int,ks.Pairwise (· < ·)->(∀k,k∈ks↔(zm es k).isSome=true)->newList (ks.map .int) G Q):Blt X n (.builtin "sorted") [.ref a] G Q:=.one ⟨λ{A b s x} hA hb hr hv=>by
 rw[hv.aC];obtain⟨_,kvs,hd,hes⟩:=(hr.own _ _ e).2;obtain⟨ep,hat⟩:=hd.dictAt;have hlk:kvs.length<64:=by rw[<-hes.length];exact hl
 refine Calls.call_function_entry kind_sorted plain_sorted entry_sorted (args_sorted1 _) ?_;unfold Builtin.«sorted»;refine wpAny_bind (m:=checkCount "sorted" 1 1 _) (wpAny_pure ?_);refine wpAny_bind (kdu_collect (A:=A.in1) (kdl_dict (knd:=intKind X.prog X.w) (kvs:=kvs) (ep:=ep) (zBV hr e)) (by rw[Around.in1_handled];exact hA.hd) hat (by rw[sizeLine_eq];exact le_trans (le_of_lt hlk) ()) λh' tk acc hk hacc=>?_);have hlen:acc.toList.length=kvs.length:=by rw[length_toList];exact hacc.1
 refine wpAny_bind (wpAny_newList ?_ (by rw[hlen];rw[sizeLine_eq];exact le_trans (le_of_lt hlk) ()));have hI:IntsAre acc.toList (kvs.map (·.1)):=by
  refine zDi (by rw[length_map];exact hlen) λj v hv=>?_;obtain⟨k,x,hx,hk'⟩:=hacc.2 j v (by rw[<-getElem?_toList];exact hv);obtain⟨t,rfl⟩:=Value.isInt_shape hk';exact⟨t,k,by rw[getElem?_map];rw[hx];rfl,rfl⟩
 have hoL:(h'.push (seqObj "list" acc.toList.toArray 0)).get? h'.objs.size=some (seqObj "list" acc.toList.toArray 0):=get?_push_size _ rfl;refine wpAny_bind (wpAny_holding (wpAny_call_entry slot_list_sort ⟨_,hoL,rfl⟩ entry_list_sort (list_sort_tree hoL hI (by rw[hlen];exact hlk) λout ns' a1 a2 a3=>⟨_,rfl,?_⟩) (args_list_sort _)));refine wpAny_pure ⟨_,rfl,?_⟩;have hnd:ns'.Nodup:=a2.nodup_iff.mpr (by obtain⟨_,_,_,_,_,_,_,z⟩:=hat;exact z);have hlt:ns'.Pairwise (· < ·):=(List.Pairwise.and a3 hnd).imp λq=>Int.lt_iff_le_and_ne.mpr q;have hmem:∀k,k∈ns'↔(zm es k).isSome=true:=λk=>by
  rw[a2.mem_iff];rw[<-hes.isSome];rw[mem_map];unfold valueAt;rw[isSome_map];rw[List.find?_isSome];constructor
  ·rintro ⟨p,hp,e⟩;exact⟨p,hp,decide_eq_true e⟩
  ·rintro ⟨p,hp,e⟩;exact⟨p,hp,of_decide_eq_true e⟩
 have hnew:s.heap.get? h'.objs.size=none:=by
  cases q:s.heap.get? h'.objs.size with
  | none=>rfl
  | some o=>exact absurd (lt_size (hk _ _ q)) (lt_irrefl _)
 obtain⟨e',he'⟩:=sortedHeap_at (vs:=acc.toList) (out:=out) hoL;have kp:∀x o,s.heap.get? x=some o->(sortedHeap (h'.push (seqObj "list" acc.toList.toArray 0)) h'.objs.size acc.toList out).get? x=some o:=λx o q=>by
  have q1:=hk _ _ q;have hx:x≠h'.objs.size:=ne_of_lt (lt_size q1);rw[sortedHeap_old hx (by rw[size_push'];exact lt_succ_of_lt (lt_size q1))];rw[Heap.get?_push_ne _ _ _ hx];exact q1
 have hl2:(ns'.map Val.int).length<=2 * cap:=by
  rw[length_map];rw[a2.length_eq];rw[length_map];exact yA (Nat.lt_trans hlk (by unfold cap;decide))
 exact zIR (s':={ s with heap:=_,toks:=tk }) hb hr hl2 kp hnew he' (hlow hb (hr.mono hk)) (zCe a1) rfl rfl (h ns' hlt hmem)⟩
end
end
section
open SetTable
noncomputable def orb (m i:Nat):Nat->Nat
 | 0=>i
 | t+1=>(orb m i t * 5+1) % m
noncomputable def orbL (m:Nat):Nat->Nat->List Nat
 | 0,_=>[]
 | t+1,i=>i::orbL m t ((i * 5+1) % m)
theorem zCo (m i t:Nat):orb m i (t+1)=orb m ((i * 5+1) % m) t:=by
 induction t with
 | zero=>rfl
 | succ t ih=>exact congrArg (λx=>(x * 5+1) % m) ih
theorem zCP (m i a t:Nat):orb m (orb m i a) t=orb m i (a+t):=by
 induction t with
 | zero=>rfl
 | succ t ih=>exact congrArg (λx=>(x * 5+1) % m) ih
theorem zGS (m n:Nat):∀i t,t<n->(orbL m n i)[t]?=some (orb m i t):=by
 induction n with
 | zero=>exact λ_ _ h=>absurd h (not_lt_zero _)
 | succ n ih=>
  intro i t h;cases t with
  | zero=>rfl
  | succ t=>rw[zCo];exact ih _ t (Nat.lt_of_succ_lt_succ h)
theorem zGR (m n:Nat):∀i,(orbL m n i).length=n:=by
 induction n with
 | zero=>exact λ_=>rfl
 | succ n ih=>exact λi=>congrArg (· + 1) (ih _)
noncomputable def zC0 (m:Nat):Bool:=((List.range m).all λj=>(orbL m m 0).contains j)&&orb m 0 m == 0
noncomputable def zBZ:List Nat:=[7,15,31,63,127,255]
theorem zD9:∀m∈zBZ,zC0 (m+1)=true:=by decide +kernel
theorem zGQ (h:zC0 m=true)(hi:i<m)(hj:j<m):∃t,t<m/\orb m i t=j:=by
 unfold zC0 at h;rw[and_eq_true] at h;rw[all_eq_true] at h;rw[beq_iff_eq] at h;have hit:∀k,k<m->∃t,t<m/\orb m 0 t=k:=λk hk=>by
  have h1:=h.1 k (List.mem_range.mpr hk);rw[List.contains_iff_mem] at h1;obtain⟨t,ht⟩:=List.mem_iff_getElem?.mp h1;have hlt:t<m:=by have:=(List.getElem?_eq_some_iff.mp ht).1;rwa [zGR] at this
  rw[zGS m m 0 t hlt] at ht;exact⟨t,hlt,by simpa using ht⟩
 refine zC (hit i hi) λa ha ea=>?_;refine zC (hit j hj) λb hb eb=>?_;by_cases hab:a<=b
 ·exact⟨b - a,lt_of_le_of_lt (sub_le b a) hb,by rw[<-ea];rw[zCP];rw[Nat.add_sub_cancel' hab];rw[eb]⟩
 ·refine⟨m - a+b,Nat.lt_of_lt_of_eq (Nat.add_lt_add_left (lt_of_not_le hab) _) (sub_add_cancel (le_of_lt ha)),?_⟩;rw[<-ea];rw[zCP];rw[<-add_assoc];rw[Nat.add_sub_cancel' (le_of_lt ha)];rw[<-zCP];rw[h.2];rw[eb]
theorem zBb (mask:Nat)(owner:Array (Option Nat))(fuel i p:Nat)(o:Option Nat)(h:((List.range (runEnd mask i+1 - i)).find? λk=>(owner.getD (i+k) (some 0)).isNone)=o):layClean.free mask owner (fuel+1) i p=o.elim (layClean.free mask owner fuel (leap mask i p).1 (leap mask i p).2) λk=>some (i+k):=by rw[layClean.free];rw[h];cases o<;>rfl
theorem zHq (mask i:Nat):0<runEnd mask i+1 - i:=by unfold runEnd;split<;>lia
theorem zFJ {mask j:Nat}(hj:owner.getD j (some 0)=none)(fuel:Nat):∀i p:Nat,p<32->(∃t,t<fuel/\orb (mask+1) i t=j)->∃q,layClean.free mask owner fuel i p=some q/\owner.getD q (some 0)=none:=by
 induction fuel with
 | zero=>exact λ_ _ _ h=>h.elim λ_ h=>absurd h.1 (not_lt_zero _)
 | succ fuel ih=>
  intro i p hp h;refine zC h λt ht et=>?_;cases hf:(List.range (runEnd mask i+1 - i)).find? λk=>(owner.getD (i+k) (some 0)).isNone with
  | some k=>exact⟨_,zBb mask owner fuel i p _ hf,Option.isNone_iff_eq_none.mp (List.find?_some (p:=λk=>(owner.getD (i+k) (some 0)).isNone) hf)⟩
  | none=>
   rw[zBb mask owner fuel i p _ hf];cases t with
   | zero=>
    have h1:=List.find?_eq_none.mp hf 0 (List.mem_range.mpr (zHq mask i));rw[Nat.add_zero] at h1;rw[show i=j from et] at h1;rw[hj] at h1;exact absurd rfl h1
   | succ t=>
    rw[zCo] at et;have e1:leap mask i p=((i * 5+1) % (mask+1),0):=by
     unfold leap;rw[show p / 32=0 from Nat.div_eq_of_lt hp,Nat.add_zero]
    rw[e1];exact ih _ 0 () ⟨t,Nat.lt_of_succ_lt_succ ht,et⟩
noncomputable def zA1 (owner:Array (Option Nat)):List Nat:=owner.toList.filterMap id
theorem zFI {owner:Array (Option Nat)}{j:Nat}{d:Option Nat}:owner.getD j d=(owner.toList[j]?).getD d:=by rw[Array.getD_eq_getD_getElem?];rw[getElem?_toList]
theorem getD_none (h:o.getD (some 0)=none):o=some none:=by
 cases o with
 | none=>cases h
 | some o=>exact congrArg some h
theorem setL {l:List (Option Nat)}{k:Nat}:∀{j:Nat},l[j]?=some none->((l.set j (some k)).filterMap id).Perm (k::l.filterMap id):=by
 induction l with
 | nil=>intro j h;cases h
 | cons x l ih=>
  intro j h;cases j with
  | zero=>cases h;exact .rfl
  | succ j=>
   have:=ih (j:=j) h;cases x with
   | none=>exact this
   | some y=>exact(List.Perm.cons y this).trans (List.Perm.swap _ _ _)
theorem zEQ {owner:Array (Option Nat)}{j k:Nat}(hj:owner.getD j (some 0)=none):(zA1 (owner.setIfInBounds j (some k))).Perm (k::zA1 owner):=by unfold zA1;rw[Array.toList_setIfInBounds];exact setL (getD_none (zFI.symm.trans hj))
theorem zKR {l:List (Option Nat)}:(l.filterMap id).length<l.length->∃j,j<l.length/\(l[j]?).getD (some 0)=none:=by
 induction l with
 | nil=>exact λh=>absurd h (not_lt_zero _)
 | cons x l ih=>
  intro h;cases x with
  | none=>exact⟨0,succ_pos _,rfl⟩
  | some y=>exact(ih (Nat.lt_of_succ_lt_succ h)).elim λj h=>⟨j+1,Nat.succ_lt_succ h.1,h.2⟩
theorem zDW {owner:Array (Option Nat)}(h:(zA1 owner).length<owner.size):∃j,j<owner.size/\owner.getD j (some 0)=none:=
 (zKR h).elim λj h=>⟨j,h.1,zFI.trans h.2⟩
theorem zDs (h0:0<=h)(h1:h<32):bits h<32:=by unfold bits;rw[emod_eq_of_lt h0 (lt_trans h1 ())];exact(toNat_lt h0).mpr h1
noncomputable def zCY (mask:Nat)(acc:Option (Array (Option Nat)×Nat))(h:Int):Option (Array (Option Nat)×Nat):=do
 let (owner,k) <-acc;let j <-layClean.free mask owner (turns mask) (bits h % (mask+1)) (bits h)
 pure (owner.setIfInBounds j (some k),k+1)
theorem zG4 {mask:Nat}(hm:mask∈zBZ)(hs:List Int):∀(owner:Array (Option Nat)) (k:Nat),(∀h∈hs,0<=h/\h<32)->owner.size=mask+1->(zA1 owner).Perm (List.range k)->k+hs.length<=mask+1 ->
  ∃owner',hs.foldl (zCY mask) (some (owner,k))=some (owner',k+hs.length)/\owner'.size=mask+1/\(zA1 owner').Perm (List.range (k+hs.length)):=by
 induction hs with
 | nil=>exact λowner k _ hsz hp _=>⟨owner,rfl,hsz,hp⟩
 | cons h hs ih=>
  intro owner k hr hsz hp hle;have e:k+(h::hs).length=k+1+hs.length:=(Nat.succ_add_eq_add_succ k hs.length).symm;rw[e] at hle;have hk:k<mask+1:=lt_of_lt_of_le (lt_of_lt_of_le (lt_succ_self k) (le_add_right _ _)) hle;refine zC (zDW (owner:=owner) (by rw[hp.length_eq];rw[length_range];rw[hsz];exact hk)) λj hj ej=>?_;obtain⟨b0,b1⟩:=hr h (.head _);refine zC (zGQ (zD9 mask hm) (i:=bits h % (mask+1)) (j:=j) (mod_lt _ (succ_pos _)) (hsz▸hj)) λt ht et=>?_;obtain⟨q,eq,hq⟩:=zFJ ej (turns mask) (bits h % (mask+1)) (bits h) (zDs b0 b1) ⟨t,by unfold turns;lia,et⟩;clear hk hj ej b0 b1 ht et;have hstep:zCY mask (some (owner,k)) h=some (owner.setIfInBounds q (some k),k+1):=by
   show (layClean.free mask owner (turns mask) (bits h % (mask+1)) (bits h)).bind (λj=>some (owner.setIfInBounds j (some k),k+1))=_;rw[eq];rfl
  rw[foldl_cons];rw[hstep];rw[e];exact ih (owner.setIfInBounds q (some k)) (k+1) (λx hx=>hr x (.tail _ hx)) (by rw[Array.size_setIfInBounds];exact hsz)
   ((zEQ hq).trans ((List.Perm.cons k hp).trans (by rw[range_succ];exact(List.perm_append_singleton _ _).symm))) hle
theorem rngL (l:List (Option Nat)):(List.range l.length).filterMap (λj=>(l[j]?).getD none)=l.filterMap id:=by
 induction l with
 | nil=>rfl
 | cons x l ih=>
  rw[length_cons];rw[List.range_succ_eq_map];rw[List.filterMap_cons];rw[List.filterMap_map];cases x with
  | none=>exact ih
  | some y=>exact congrArg (y::·) ih
theorem zBz (owner:Array (Option Nat)):(List.range owner.size).filterMap (λj=>owner.getD j none)=zA1 owner:=by rw[show (λj=>owner.getD j none)=λj=>(owner.toList[j]?).getD none from funext λj=>zFI];exact rngL owner.toList
theorem zI1 {mask finger moves:Nat}{led plain:Bool}(hm:mask∈zBZ)(hr:∀h∈hs.toList,0<=h/\h<32)(hle:hs.size<=mask) :
  ∃t order,laid mask finger moves led plain hs=some (t,order)/\order.toList.Perm (List.range hs.size)/\t.place.size=hs.size/\t.dummies=#[]/\t.mask=mask:=by
 have hfold:=zG4 hm hs.toList (Array.replicate (mask+1) none) 0 hr (by simp) (by simp [zA1]) (by rw[length_toList];lia);refine zU hfold λowner e1 e2 e3=>?_;have hclean:layClean mask hs=some owner:=by
  unfold layClean;rw[<-Array.foldl_toList];show (hs.toList.foldl (zCY mask) (some (Array.replicate (mask+1) none,0))).map (·.1)=_;rw[e1];rfl
 simp only [zero_add,length_toList] at e3;have key:((List.range (mask+1)).filterMap λj=>(owner.getD j none).map (j,·)).map (·.2)=zA1 owner:=by
  rw[<-zBz owner];rw[e2];rw[List.map_filterMap]
  congr 1
  funext j
  cases owner.getD j none<;>rfl
 refine⟨_,_,by unfold laid;rw[hclean];rfl,?_,?_,rfl,rfl⟩
 ·simp only [toList_toArray,key];exact e3
 ·simp only [size_toArray,length_map]
  have:=congrArg List.length key;rw[length_map] at this;rw[this];rw[e3.length_eq];rw[length_range]
end
section
section
variable {X:Cx}{n:Nat}{sc:Scope}
theorem zAO (h:ElemsOf (intKind X.prog X.w) l):∃ks,l=zF ks:=by
 induction l with
 | nil=>exact⟨[],rfl⟩
 | cons e l ih=>
  obtain⟨ks,rfl⟩:=ih h.tail;obtain⟨⟨k,hk,hh⟩,_⟩:=h.head;obtain⟨t,ht⟩:=Value.isInt_shape hk;obtain⟨e1,e2⟩:=e;dsimp only at hh ht;subst hh ht;exact⟨(k,t)::ks,rfl⟩
theorem zBf {a:Int}{l l':List Int}(hn:(a::l).Nodup)(hs:∀x∈a::l,x∈l'):∀x∈l,x∈l'.erase a:=λx hx=>(List.mem_erase_of_ne λ(e:x=a)=>(List.nodup_cons.mp hn).1 (e▸hx)).mpr (hs x (.tail _ hx))
theorem zG3 (h:0<b):a<=b - 1↔a+1<=b:=(Nat.le_sub_iff_add_le h)
theorem wN {l:List Int}:∀{l':List Int},l.Nodup->(∀x∈l,x∈l')->l.length<=l'.length:=by
 induction l with
 | nil=>exact λ_ _=>zero_le _
 | cons a l ih=>
  intro l' hn hs;have ha:=hs a (.head _)
  have:=ih (List.nodup_cons.mp hn).2 (zBf hn hs);rw[List.length_erase_of_mem ha] at this;exact(zG3 (List.length_pos_of_mem ha)).mp this
theorem vk {l:List Int}:∀{l':List Int},l.Nodup->(∀x∈l,x∈l')->l'.length<=l.length->l'.Nodup:=by
 induction l with
 | nil=>intro l' _ _ h;rw[List.eq_nil_of_length_eq_zero (Nat.le_zero.mp h)];exact .nil
 | cons a l ih=>
  intro l' hn hs h;have ha:=hs a (.head _);have hsub:=zBf hn hs;have e:=List.length_erase_of_mem ha;have hp:=List.length_pos_of_mem ha;have hna:a∉l'.erase a:=λhm=>by
   have:=wN hn λx hx=>(List.mem_cons.mp hx).elim (λq=>q▸hm) (hsub x);rw[e] at this;exact lt_irrefl _ (lt_of_lt_of_le (Nat.sub_lt hp Nat.one_pos) (le_trans h this))
  exact((List.perm_cons_erase ha).nodup_iff).mpr (List.nodup_cons.mpr ⟨hna,ih (List.nodup_cons.mp hn).2 hsub (by rw[e];exact Nat.sub_le_of_le_add h)⟩)
theorem SetI.bD {S:Int->Bool}{k:Nat}{l:List Int}(i:h.SetOf (intKind X.prog X.w) a S k)(hn:l.Nodup)(hl:∀x∈l,S x=true)(hk:k<=l.length)(hr:∀x,S x=true->0<=x/\x<32):SetI h a S:=by
 refine zIc i λpq0 es ep t ho pq5 hd hel hm hb hf hsz=>?_;obtain⟨oc,od,oda,os⟩:=pq0;obtain⟨x1,x2,x3⟩:=pq5;dsimp only at x1 x2 x3 hd;subst x1 x2 x3 hd;obtain⟨ks,hks⟩:=zAO hel;have hlen:ks.length=k:=by rw[<-hsz];rw[<-length_toList];rw[hks];rw[length_map]
 have hm':∀x,S x=true↔x∈ks.map (·.1):=λx=>by rw[hm x];rw[hks];rw[zCw]
 refine⟨ks,ep,t,?_,?_,hm',?_,λx hx=>hr x ((hm' x).mpr hx)⟩
 ·rw[ho]
  have:es=(zF ks).toArray:=by rw[<-hks]
  rw[this]
 ·exact vk hn (λx hx=>(hm' x).mp (hl x hx)) (by rw[length_map];rw[hlen];exact hk)
 ·rw[hlen];rw[<-hsz];exact hf
theorem SetI.add {S:Int->Bool}{k:Int}(i:SetI h a S)(hk:0<=k/\k<32)(hS:∀m,h.SetOf (intKind X.prog X.w) a S m->h'.SetOf (intKind X.prog X.w) a (λj=>S j||decide (j=k)) (if S k then m else m+1)) :
  SetI h' a (λj=>S j||decide (j=k)):=by
 refine zC3 (i.parts (X:=X)) λl hn hm hl hs=>?_;have h1:=hS _ hs;have hr:∀x,(S x||decide (x=k))=true->0<=x/\x<32:=λx hx=>by
  rw[or_eq_true] at hx;rw[decide_eq_true_eq] at hx;rcases hx with hx | rfl
  ·exact i.small x hx
  ·exact hk
 cases hsk:S k with
 | true=>
  rw[hsk] at h1;exact SetI.bD h1 hn (λx hx=>by rw[(hm x).mpr hx];rfl) (le_refl _) hr
 | false=>
  rw[hsk] at h1;refine SetI.bD (l:=k::l) h1 (List.nodup_cons.mpr ⟨λhx=>?_,hn⟩) (λx hx=>?_) (le_refl _) hr
  ·rw[(hm k).mpr hx] at hsk;cases hsk
  ·rcases List.mem_cons.mp hx with rfl | hx
   ·simp
   ·rw[(hm x).mpr hx];rfl
theorem SetOf.size {h:Heap}{a:Addr}{S:Int->Bool}{m k:Nat}(x:h.SetOf (intKind X.prog X.w) a S m)(y:h.SetOf (intKind X.prog X.w) a S k):m=k:=by refine zIc x λ_ _ _ _ e1 _ e2 _ _ _ _ e3=>?_;refine zIc y λ_ _ _ _ f1 _ f2 _ _ _ _ f3=>?_;rw[e1] at f1;cases f1;rw[e2] at f2;cases f2;rw[<-e3];rw[<-f3]
theorem ww {A:Around}{s:Shared}{a:Addr}{S:Int->Bool}{k:Int}{t:Tok}{E:Value->Shared->Prop}{Q:Bool->Shared->Prop}(i:SetI s.heap a S)(hk:0<=k/\k<32)
  (h:∀h',Heap.SameBut a s.heap h'->SetI h' a (λj=>S j||decide (j=k))->Q (!S k) { s with heap:=h' }) :
  wpAny (model X.prog X.w) A (setAddHashed a (.int k t) (hashInt k)) Q E s:=by refine zC3 (i.parts (X:=X)) λl hn hm hl hs=>?_;refine wpAny_setAddHashed_of (knd:=intKind X.prog X.w) (intKind_is _ _ _ _) rfl hs (lt_of_le_of_lt (succ_le_succ hl) (by unfold scanBound;decide)) λh' sb hS'=>h h' sb ?_;exact i.add (X:=X) hk λm hm'=>by rw[SetOf.size hm' hs];exact hS'
theorem zCN (hr:Rep X b G h)(e:G a=some (.set S f)):SetI h a S/\(f=true->∃led,h.get? a=some ⟨.type "set",none,.set #[] 0 (.fresh 0 0 led),#[]⟩)/\∃o,h.get? a=some o/\o.cls=.type "set":=by obtain⟨i,f⟩:=(hr.own _ _ e).2;refine zBd (id i) λ_ _ _ ho _=>?_;exact⟨i,f,_,ho,rfl⟩
theorem Meth.add {G:Gh}{Q:QE}{a:Addr}{S:Int->Bool}{f:Bool}{k:Int}(e:G a=some (.set S f))(hk:0<=k/\k<32)(h:Q .none (G.upd a (.set (λj=>S j||decide (j=k)) false))):Blt X n (.builtin "set.add") [.ref a,.int k] G Q:=.two ⟨λ{A b s x y} hA hb hr hv hw=>by
 rw[hv.aC];obtain⟨t,rfl⟩:=hw.int_inv;obtain⟨i,_⟩:=zCN hr e;refine zC3 (i.parts (X:=X)) λl hn hm hl hs=>?_;refine call_set_add (knd:=intKind X.prog X.w) (intKind_is _ _ _ _) rfl hs (by unfold scanBound;omega) λh' sb hS'=>?_;have i':=i.add (X:=X) (h':=h') hk λm hm'=>by rw[SetOf.size hm' hs];exact hS'
 obtain⟨r',k'⟩:=hr.change (g':=.set _ false) e rfl rfl sb ⟨i',λq=>nomatch q⟩;exact .mk .none _ .none r' ⟨k',rfl,rfl⟩ h⟩
theorem zCC 
  (ho:s.heap.get? a=some ⟨.type "set",none,.set (zF ks).toArray ep t,#[]⟩) (hf:t.fits ks.length=true) (hl:ks.length<4096) (h:Q (ks.findIdx? λp=>decide (p.1=k)) s) :
  wpAny (model X.prog X.w) A (setFind a (.int k tk) (hashInt k)) Q E s:=by
 have hel:=yk (X:=X) ks;have hidx:List.findIdx? (λe:Int×Value=>(intKind X.prog X.w).is k e.2) (zF ks)=ks.findIdx? λp=>decide (p.1=k):=by
  clear h hel hf ho hl;induction ks with
  | nil=>rfl
  | cons p ks ih=>
   simp only [zF,map_cons,findIdx?_cons] at ih ⊢;rw[ih]
   have:(intKind X.prog X.w).is k (Value.int p.1 p.2)=decide (p.1=k):=by
    show Value.isInt k (Value.int p.1 p.2)=_;by_cases hk:p.1=k<;>simp [Value.isInt,hk]
   rw[this]
 unfold setFind setFindIn;have hf':t.fits (zF ks).toArray.size=true:=by simpa using hf
 refine wpAny_bind (wpAny_setState_of ho rfl hf' ?_);dsimp only;rw[byScan_of (knd:=intKind X.prog X.w) (by rfl) (by simpa [scanBound] using hl) (by simpa using hel)];simp only [↓reduceIte];refine wpAny_bind (wpAny_rule ?_);refine wpAny_bind (wpAny_setScan_of (knd:=intKind X.prog X.w) (k:=k) (intKind_is _ _ _ _) ho rfl hf' (by simpa using hel) ?_);rw[toList_toArray];rw[hidx];cases hr:ks.findIdx? λp=>decide (p.1=k) with
 | none=>rw[hr] at h;exact wpAny_pure h
 | some j=>rw[hr] at h;dsimp only;rw[zero_add];exact wpAny_pure h
theorem u0 (l:List α)(i:Nat):(SetTable.eraseAt l.toArray i).toList=l.eraseIdx i:=by simp [SetTable.eraseAt,List.extract_eq_take_drop,List.eraseIdx_eq_take_drop_succ,List.take_of_length_le]
theorem zA5 (xs:Array α)(p:Nat)(x:α):(SetTable.insertAt xs p x).size=xs.size+1:=by
 have:=(SetTable.insertAt_perm xs p x).length_eq
 simpa using this
theorem jc {α β:Type}(f:α->β)(l:List α):∀i:Nat,(l.map f).eraseIdx i=(l.eraseIdx i).map f:=by
 induction l with
 | nil=>exact λ_=>rfl
 | cons a l ih=>
  intro i;cases i with
  | zero=>rfl
  | succ i=>exact congrArg (f a::·) (ih i)
theorem zFW {t:SetTable}{k i:Nat}(h:t.fits k=true)(hi:i<k):(t.drop i).fits (k - 1)=true:=by
 simp only [SetTable.fits,and_eq_true,beq_iff_eq,decide_eq_true_eq] at h;simp only [SetTable.fill] at h;obtain⟨j,hj⟩:∃j,t.place[i]?=some j:=⟨t.place[i],Array.getElem?_eq_getElem (h.1▸hi)⟩
 have hd:t.drop i={ t with place:=SetTable.eraseAt t.place i,dummies:=SetTable.insertAt t.dummies (SetTable.below t.dummies j) j }:=by
  unfold SetTable.drop;rw[hj]
 rw[hd];have e1:(SetTable.eraseAt t.place i).size=t.place.size - 1:=by
  generalize t.place=p at h;obtain⟨l⟩:=p
  have:=congrArg List.length (u0 l i);rw[length_toList] at this;rw[this];rw[List.length_eraseIdx];simp only [size_toArray] at h ⊢;rw[if_pos (by lia)]
 simp only [SetTable.fits,and_eq_true,beq_iff_eq,decide_eq_true_eq];simp only [SetTable.fill,e1,zA5];lia
theorem Meth.discard {S:Int->Bool}{f:Bool}{k:Int}(e:G a=some (.set S f))(h:Q .none (G.upd a (.set (λj=>S j&&!decide (j=k)) false))):Blt X n (.builtin "set.discard") [.ref a,.int k] G Q:=.two ⟨λ{A b s x y} hA hb hr hv hw=>by
 rw[hv.aC];obtain⟨tk,rfl⟩:=hw.int_inv;have i:=(hr.own _ _ e).2.1;refine uJ (id i) λks ep t ho hn hm hf hsm=>?_;have hl:=few 32 _ hn hsm;rw[length_map] at hl;have hT:s.TypeIs (.ref a) "set":=⟨_,ho,rfl⟩
 refine wpAny_call_entry F.slot_set_discard hT F.entry_set_discard ?_ (F.args_set_discard_2 _ _);unfold Builtin.«set.discard» Builtin.Frozenset.oneOther;simp only [List.isEmpty_nil,bind_assoc];unfold Builtin.Frozenset.addrOf Builtin.Frozenset.withSetAsKey setDiscard setDiscardHashed;refine wpAny_bind (wpAny_pure ?_);dsimp only;refine wpAny_bind (wpAny_pure ?_);dsimp only;refine wpAny_bind (wpAny_tryCatch ?_);refine wpAny_holding ?_;refine wpAny_bind (wpAny_pyHash_int ?_);have fin:∀(s':Shared),Out X b s Q .none s'->wpAny (model X.prog X.w) A.in1 (ret .none) (λfin s'=>∃r,fin=.done (.ret r)/\Out X b s Q r s') NoE s':=λs' q=>wpAny_pure ⟨_,rfl,q⟩;refine wpAny_bind (zCC (X:=X) (s:={ s with toks:=s.toks+1 }) ho hf (by lia) ?_);cases hj:ks.findIdx? λp=>decide (p.1=k) with
 | none=>
  have hnk:S k=false:=by
   cases q:S k with
   | false=>rfl
   | true=>
    refine zC (List.mem_map.mp ((hm k).mp q)) λp hp hpk=>?_
    have:=List.findIdx?_eq_none_iff.mp hj p hp;simp [hpk] at this
  have hS:(λj=>S j&&!decide (j=k))=S:=by
   funext j
   by_cases hjk:j=k
   ·subst hjk;rw[hnk];rfl
   ·simp [hjk]
  rw[hS] at h;have hr':=hr.change (g':=.set S false) e rfl rfl (Heap.SameBut.refl _ _) ⟨i,λq=>nomatch q⟩;exact wpAny_pure (fin _ (.mk .none _ .none hr'.1 ⟨.refl _,rfl,rfl⟩ h))
 | some j=>
  obtain⟨hj1,hj2,_⟩:=List.findIdx?_eq_some_iff_getElem.mp hj;simp only [decide_eq_true_eq] at hj2;dsimp only;have hf':t.fits (zF ks).toArray.size=true:=by simpa using hf
  refine wpAny_bind (wpAny_setState_of (s:={ s with toks:=s.toks+1 }) ho rfl hf' ?_);dsimp only;have hes:(SetTable.eraseAt (zF ks).toArray j)=(zF (ks.eraseIdx j)).toArray:=by
   apply Array.toList_inj.mp;rw[u0];rw[toList_toArray];rw[zF];rw[jc]
  rw[hes];have hlen:(ks.eraseIdx j).length=ks.length - 1:=by rw[List.length_eraseIdx];rw[if_pos hj1]
  refine wpAny_bind (wpAny_storeSet_of (s:={ s with toks:=s.toks+1 }) ho rfl ?_ (by simp only [size_toArray,length_map,hlen,sizeLine_eq];lia));refine wpAny_bind (wpAny_point ?_);refine wpAny_pure (fin _ ?_);obtain⟨P,R,hsplit,hers⟩:∃P R,ks.map (·.1)=P++k::R/\(ks.eraseIdx j).map (·.1)=P++R:=by
   refine⟨(ks.map (·.1)).take j,(ks.map (·.1)).drop (j+1),?_,by rw[<-jc];rw[List.eraseIdx_eq_take_drop_succ]⟩;rw[<-hj2]
   conv=>lhs;rw[<-List.take_append_drop j (ks.map (·.1))]
   rw[List.drop_eq_getElem_cons (by simpa using hj1)];simp
  have hn2:=hn;rw[hsplit] at hn2;rw[List.nodup_append] at hn2;refine w3 hn2 λn1 n2 n3=>?_;have n4:=List.nodup_cons.mp n2;have hg:(s.heap.update a (Obj.putSet (zF (ks.eraseIdx j)).toArray (t.drop j))).get? a=some ⟨.type "set",none,.set (zF (ks.eraseIdx j)).toArray (ep+1) (t.drop j),#[]⟩:=by
   have:=get?_update_self (Obj.putSet (zF (ks.eraseIdx j)).toArray (t.drop j)) ho rfl;exact this
  have i':SetI (s.heap.update a (Obj.putSet (zF (ks.eraseIdx j)).toArray (t.drop j))) a (λx=>S x&&!decide (x=k)):=by
   refine⟨ks.eraseIdx j,ep+1,t.drop j,hg,?_,λx=>?_,?_,λx hx=>hsm x ?_⟩
   ·rw[hers];exact List.nodup_append.mpr ⟨n1,n4.2,λp hp q hq=>n3 p hp q (.tail _ hq)⟩
   ·rw[hers];rw[and_eq_true];rw[hm x];rw[hsplit];simp only [List.mem_append,mem_cons,not_eq_true',decide_eq_false_iff_not];constructor
    ·rintro ⟨h1 | h1 | h1,h2⟩
     ·exact .inl h1
     ·exact absurd h1 h2
     ·exact .inr h1
    ·rintro (h1 | h1)
     ·exact⟨.inl h1,λe=>n3 x h1 k (.head _) e⟩
     ·exact⟨.inr (.inr h1),λe=>n4.1 (e▸h1)⟩
   ·rw[hlen];exact zFW hf hj1
   ·rw[hers] at hx;rw[hsplit];rcases List.mem_append.mp hx with q | q
    ·exact mem_append_left _ q
    ·exact mem_append_right _ (.tail _ q)
  obtain⟨r',k'⟩:=hr.change (g':=.set _ false) e rfl rfl (Heap.SameBut.update ..) ⟨i',λq=>nomatch q⟩;exact .mk .none _ .none r' ⟨k',rfl,rfl⟩ h⟩
end
end
section
section
variable {X:Cx}{n:Nat}{sc:Scope}
theorem uU:∀k,k<200->(SetTable.sizeAbove k - 1)∈zBZ/\k<SetTable.sizeAbove k/\SetTable.sizeAbove k<=256:=by decide +kernel
noncomputable abbrev wY (ks:List (Int×Tok))(ep:Nat)(t:SetTable):Obj:=⟨.type "set",none,.set (zF ks).toArray ep t,#[]⟩
theorem zBc {order:List Nat}(h:order.Perm (List.range ks.length)):∃ks',order.filterMap (λi=>(zF ks)[i]?)=zF ks'/\ks'.Perm ks:=by
 refine⟨order.filterMap (λi=>ks[i]?),?_,?_⟩
 ·simp only [zF,List.map_filterMap,getElem?_map]
 ·refine(h.filterMap _).trans ?_
  have:=filterMap_getElem?_range ks.toArray;simp only [size_toArray,getElem?_toArray] at this;rw[this]
theorem zM {α:Type}{M:Model}{A:Around}{E:Value->Shared->Prop}{s:Shared}{p:Prop}[Decidable p]{a b:Sem α}{Q:α->Shared->Prop}(hp:¬p)(h:wpAny M A b Q E s):wpAny M A (if p then a else b) Q E s:=by rw[if_neg hp];exact h
theorem zAL {mask finger moves:Nat}{led plain:Bool}(hm:mask∈zBZ)(hr:∀k∈ks.map (·.1),0<=k/\k<32)(hl:ks.length<=mask) :
  ∃t order ks',SetTable.laid mask finger moves led plain ((zF ks).toArray.map (·.1))=some (t,order)/\order.filterMap ((zF ks).toArray[·]?)=(zF ks').toArray/\ks'.Perm ks/\t.place.size=ks.length/\t.dummies=#[]/\t.mask=mask:=by
 have hhs:((zF ks).toArray.map (·.1)).toList=ks.map λk=>hashInt k.1:=by simp [zF,Function.comp_def]
 have hsz:((zF ks).toArray.map (·.1)).size=ks.length:=by simp
 have hr':∀h∈((zF ks).toArray.map (·.1)).toList,0<=h/\h<32:=λh hh=>by
  rw[hhs] at hh;refine zC (List.mem_map.mp hh) λp hp eq2=>?_;subst eq2;obtain⟨h0,h1⟩:=hr p.1 (mem_map_of_mem hp)
  have:hashInt p.1=p.1:=by
   have key:∀j:Nat,j<32->hashInt (j:Int)=j:=by decide +kernel
   have:=key p.1.toNat (by lia)
   rwa [toNat_of_nonneg h0] at this
  rw[this];exact⟨h0,h1⟩
 obtain⟨t,order,e1,e2,e3,e4,e5⟩:=zI1 (finger:=finger) (moves:=moves) (led:=led) (plain:=plain) hm hr' (by rw[Array.size_map];rw[size_toArray];rw[length_map];exact hl);rw[hsz] at e2 e3;refine zC (zBc e2) λks' k1 k2=>?_;refine⟨t,order,ks',e1,?_,k2,e3,e4,e5⟩;apply Array.toList_inj.mp;rw[Array.toList_filterMap];rw[<-k1];simp
theorem zCK {A:Around}{s:Shared}{E:Value->Shared->Prop}{ks:List (Int×Tok)}{ep wanted:Nat}{t:SetTable}{Q:Unit->Shared->Prop}(ho:s.heap.get? a=some (wY ks ep t))(hf:t.fits ks.length=true)
  (hr:∀k∈ks.map (·.1),0<=k/\k<32) (hw:wanted<200) (hl:ks.length<=wanted)
  (h:∀h' ks' t',Heap.SameBut a s.heap h'->h'.get? a=some (wY ks' (ep+1) t')->ks'.Perm ks->t'.place.size=ks.length->t'.dummies=#[]->t'.mask+1=SetTable.sizeAbove wanted->Q Unit.unit { s with heap:=h' }) :
  wpAny (model X.prog X.w) A (setRelay a wanted) Q E s:=by
 refine w3 (uU wanted hw) λhm h1 h2=>?_;have hf':t.fits (zF ks).toArray.size=true:=by simpa using hf
 unfold setRelay;refine wpAny_bind (wpAny_setState_of ho rfl hf' ?_);dsimp only;rw[if_neg (by rw[sizeLine_eq];exact Nat.not_lt.mpr (le_trans h2 ()))];refine zFQ (zAL (finger:=t.finger) (moves:=t.movedTo (SetTable.sizeAbove wanted - 1)) (led:=t.led) (plain:=t.plain) hm hr (Nat.le_sub_one_of_lt (lt_of_le_of_lt hl h1))) λt' order ks' e1 e2 p1 p2 p3 p4=>?_;refine wpAny_bind ?_;rw[show t.relaid ((zF ks).toArray.map (·.1)) wanted=some (t',order) from e1];refine zM (p:=((order.filterMap ((zF ks).toArray[·]?)).size != (zF ks).toArray.size)=true) (by rw[e2];simp [p1.length_eq]) (wpAny_pure ?_);rw[e2];refine wpAny_storeSet_of ho rfl ?_ (by simp only [size_toArray,length_map,p1.length_eq,sizeLine_eq];exact le_trans (le_of_lt (lt_of_le_of_lt hl hw)) ());exact h _ ks' t' (Heap.SameBut.update ..) (get?_update_self (Obj.putSet (zF ks').toArray t') ho rfl) p1 p2 p3 (by rw[p4];exact sub_add_cancel (lt_of_le_of_lt (zero_le _) h1))
theorem zFH {α:Type}{l:List α}:∀{i:Nat} (h:i<l.length),(l[i]::l.eraseIdx i).Perm l:=by
 induction l with
 | nil=>intro i h;exact absurd h (not_lt_zero _)
 | cons a l ih=>
  intro i h;cases i with
  | zero=>exact .rfl
  | succ i=>exact(List.Perm.swap _ _ _).trans (List.Perm.cons a (ih (Nat.lt_of_succ_lt_succ h)))
theorem zE7 {α:Type}(next:Nat->Nat)(fuel:Nat):∀(k:Nat) (left:List α) (out:Array α),left.length=fuel->(pickOrder.go next fuel k left out).toList.Perm (out.toList++left):=by
 induction fuel with
 | zero=>
  intro k left out h;rw[List.length_eq_zero_iff.mp h];rw[append_nil];exact .rfl
 | succ fuel ih=>
  intro k left out h;rw[pickOrder.go];have hlt:next k % left.length<left.length:=mod_lt _ (h▸succ_pos fuel)
  rw[getElem?_eq_getElem hlt];dsimp only;refine(ih (k+1) _ _ (by rw[List.length_eraseIdx];rw[if_pos hlt];rw[h];rfl)).trans ?_;rw[toList_push];rw[append_assoc];refine List.Perm.append_left _ ?_;exact zFH hlt
theorem zE8 (X:Cx):∀{l:List (Int×Value)},l.Perm (zF ks)->∃ks',l=zF ks'/\ks'.Perm ks:=by
 intro l h;obtain⟨ks',hks⟩:=zAO (X:=X) ((yk ks).perm h);subst hks;refine⟨ks',rfl,?_⟩;have key:∀ks:List (Int×Tok),(zF ks).map (λe=>match e.2 with | .int k t=>(k,t) | _=>(0,0))=ks:=λks=>by
  rw[zF];rw[map_map]
  conv=>rhs;rw[<-map_id ks]
  rfl
 have:=h.map (λe:Int×Value=>match e.2 with | .int k t=>(k,t) | _=>((0:Int),(0:Tok)))
 rwa [key,key] at this
theorem zDQ (ho:s.heap.get? o=some (wY ks ep t))(hf:t.fits ks.length=true)
  (hd:(!t.plain&&decide (ks.length > 1))=false\/X.w.params.followText "set-order" = true) (hl:(!t.led&&decide (ks.length > 1))=false\/X.w.params.followText "set-order" = true)
  (h:∀ks',ks'.Perm ks->Q (zF ks').toArray s):wpAny (model X.prog X.w) A (setWalk o) Q E s:=by
 have hf':t.fits (zF ks).toArray.size=true:=by simpa using hf
 unfold setWalk;refine wpAny_bind (wpAny_setState_of ho rfl hf' ?_);dsimp only;unfold setsByText;refine wpAny_bind (wpAny_bind (wpAny_askSetting (wpAny_pure ?_)));dsimp only;cases hb:X.w.params.followText "set-order" with
 | true=>
  have hb':(model X.prog X.w).w.params.followText "set-order" = true:=hb;rw[hb'];rw[if_pos rfl];refine wpAny_bind (wpAny_askSetting (wpAny_pure ?_));have hp:=zE7 ((model X.prog X.w).w.params.setOrder o ep) (zF ks).toArray.size 0 (zF ks) #[] (by simp);simp only [List.nil_append] at hp;refine zC (zE8 X hp) λks' e p=>?_;have e2:pickOrder ((model X.prog X.w).w.params.setOrder o ep) (zF ks).toArray=(zF ks').toArray:=by
   apply Array.toList_inj.mp;rw[<-e];rfl
  show Q (pickOrder ((model X.prog X.w).w.params.setOrder o ep) (zF ks).toArray) s;rw[e2];exact h ks' p
 | false=>
  have hb':(model X.prog X.w).w.params.followText "set-order" = false:=hb;rw[hb'];rw[if_neg ()];rw[hb] at hd hl;simp only [false_eq_true,or_false] at hd hl;have q1:(!t.plain&&decide ((zF ks).toArray.size > 1))=false:=by simpa using hd
  have q2:(!t.led&&decide ((zF ks).toArray.size > 1))=false:=by simpa using hl
  split
  ·rename_i q;exact absurd (q1.symm.trans q) ()
  ·refine wpAny_bind (zM (p:=(!t.led&&decide ((zF ks).toArray.size > 1))=true) (by rw[q2];decide) (wpAny_pure (wpAny_pure (h ks .rfl))))
theorem ur (hs:∀a∈sets,∃ks ep t,s.heap.get? a=some (wY ks ep t)/\t.fits ks.length=true)(h:Q true s) :
  wpAny (model X.prog X.w) A (setsQuiet sets) Q E s:=by
 unfold setsQuiet;refine wpAny_bind (wpAny_forIn_list _ (λrest b s'=>s'=s/\b=(none,Unit.unit)/\∀a∈rest,a∈sets) _ ?_ ?_ _ _ ⟨rfl,rfl,λ_ h=>h⟩)
 ·rintro a rest b s' ⟨rfl,rfl,hin⟩;refine zBd (hs a (hin a (.head _))) λks ep t ho hf=>?_;have hf':t.fits (zF ks).toArray.size=true:=by simpa using hf
  refine wpAny_bind (wpAny_setEntries_of ho rfl hf' ?_);refine wpAny_bind ?_;rw[<-Array.forIn_toList];refine wpAny_forIn_list _ (λrest b s'=>s'=s'/\s'=s'/\b=(none,Unit.unit)/\(∀e∈rest,e∈zF ks)/\s'=_) _ ?_ ?_ _ _ ⟨rfl,rfl,rfl,λ_ h=>by simpa using h,rfl⟩
  ·rintro ⟨e1,e2⟩ rest b s' ⟨_,_,rfl,hin,rfl⟩
   have:=hin _ (.head _);simp only [zF,mem_map] at this;refine zC this λk _ hk=>?_;cases hk;exact wpAny_pure ⟨rfl,rfl,rfl,λe he=>hin e (.tail _ he),rfl⟩
  ·rintro b s' ⟨_,_,rfl,_,rfl⟩;exact wpAny_pure ⟨rfl,rfl,λa ha=>hin a (.tail _ ha)⟩
 ·rintro b s' ⟨rfl,rfl,_⟩;exact wpAny_pure h
theorem u4 {A:Around}{s:Shared}{E:Value->Shared->Prop}{ko ka:List (Int×Tok)}{eo ea:Nat}{to ta:SetTable}{Q:Array (Int×Value)->Shared->Prop}(hne:a≠o)
  (ho:s.heap.get? o=some (wY ko eo to)) (hfo:to.fits ko.length=true) (ha:s.heap.get? a=some (wY ka ea ta)) (hfa:ta.fits ka.length=true) (hlen:ka.length<=40)
  (h:∀ks' h' ea' ta',ks'.Perm ko->Heap.SameBut a s.heap h'->h'.get? a=some (wY ka ea' ta')->ta'.fits ka.length=true->Q (zF ks').toArray { s with heap:=h' }) :
  wpAny (model X.prog X.w) A (setWalkUnseen o [a] (some a)) Q E s:=by
 have hfo':to.fits (zF ko).toArray.size=true:=by simpa using hfo
 have hfa':ta.fits (zF ka).toArray.size=true:=by simpa using hfa
 have walkIt:((!to.plain&&decide (ko.length > 1))=false\/X.w.params.followText "set-order" = true)->((!to.led&&decide (ko.length > 1))=false\/X.w.params.followText "set-order" = true)->wpAny (model X.prog X.w) A (setWalk o) Q E s:=
  λh1 h2=>zDQ ho hfo h1 h2 λks' p=>h ks' s.heap ea ta p (.refl _ _) ha hfa
 unfold setWalkUnseen setsByText;refine wpAny_bind (wpAny_setState_of ho rfl hfo' ?_);dsimp only;refine wpAny_bind (wpAny_bind (wpAny_askSetting (wpAny_pure ?_)));have hB:(model X.prog X.w).w.params.followText "set-order" = X.w.params.followText "set-order":=rfl;rw[hB];by_cases hc:(X.w.params.followText "set-order"||(to.led&&to.plain)||decide ((zF ko).toArray.size<=1))=true
 ·rw[if_pos hc];refine walkIt ?_ ?_
  ·simp only [or_eq_true,and_eq_true,decide_eq_true_eq,size_toArray,length_map] at hc;rcases hc with (hc | hc) | hc
   ·exact .inr hc
   ·left;rw[hc.2];rfl
   ·left;rw[decide_eq_false (by lia)];rw[Bool.and_false]
  ·simp only [or_eq_true,and_eq_true,decide_eq_true_eq,size_toArray,length_map] at hc;rcases hc with (hc | hc) | hc
   ·exact .inr hc
   ·left;rw[hc.1];rfl
   ·left;rw[decide_eq_false (by lia)];rw[Bool.and_false]
 ·rw[if_neg hc];refine wpAny_bind (ur (λx hx=>?_) ?_)
  ·rcases List.mem_cons.mp hx with rfl | hx
   ·exact⟨ko,eo,to,ho,hfo⟩
   ·rw[mem_singleton] at hx;subst hx;exact⟨ka,ea,ta,ha,hfa⟩
  ·rw[if_neg ()];refine wpAny_bind (wpAny_rule ?_);refine wpAny_bind (wpAny_setState_of ha rfl hfa' ?_);dsimp only;split
   ·refine wpAny_bind (wpAny_storeSet_of ha rfl ?_ (by simp only [size_toArray,length_map,sizeLine_eq];lia));refine wpAny_pure ?_;exact h ko _ _ _ .rfl (Heap.SameBut.update ..) (get?_update_self (Obj.putSet _ _) ha rfl) hfa
   ·exact wpAny_pure (h ko s.heap ea ta .rfl (.refl _ _) ha hfa)
theorem SetI.bX (ho:h.get? a=some (wY ks ep t))(hn:(ks.map (·.1)).Nodup)(hm:∀k,S k=true↔k∈ks.map (·.1))(hf:t.fits ks.length=true)(hr:∀k,S k=true->0<=k/\k<32):SetI h a S:=
 ⟨ks,ep,t,ho,hn,hm,hf,λk hk=>hr k ((hm k).mpr hk)⟩
def vL (h:Heap)(a:Addr):Prop:=∃led,h.get? a=some ⟨.type "set",none,.set #[] 0 (.fresh 0 0 led),#[]⟩
theorem zCU {A:Around}{s s₁:Shared}{E:Value->Shared->Prop}{ko ks':List (Int×Tok)}{U:Int->Bool}{ea:Nat}{ta t':SetTable}{Q:Unit->Shared->Prop}(hs1:s₁={ s with heap:=s₁.heap })(sb:Heap.SameBut a s.heap s₁.heap)(ho:s₁.heap.get? a=some (wY [] ea ta))(hno:(ko.map (·.1)).Nodup)(hU:∀k,U k=true↔k∈ko.map (·.1))(hr:∀k,U k=true->0<=k/\k<32)(hlo:ko.length<=32)(p:ks'.Perm ko)(hf:t'.fits ks'.length=true)
  (k:∀h',Heap.SameBut a s.heap h'->SetI h' a U->Q Unit.unit { s with heap:=h' }):wpAny (model X.prog X.w) A (storeSet a (zF ks').toArray t') Q E s₁:=by refine wpAny_storeSet_of ho rfl ?_ (by rw[size_toArray];rw[length_map];rw[p.length_eq];rw[sizeLine_eq];exact le_trans hlo ());have hg:=get?_update_self (Obj.putSet (zF ks').toArray t') ho rfl;rw[hs1];exact k _ (sb.trans (Heap.SameBut.update ..)) (SetI.bX (ks:=ks') (ep:=ea+1) (t:=t') hg (((p.map _).nodup_iff).mpr hno) (λk=>by rw[(p.map _).mem_iff];exact hU k) hf hr)
theorem zHL {S T Si:Int->Bool}(a1:∀j,S j=true->Si j=true)(a2:∀j,Si j=true->S j=true\/T j=true)(a3:∀j,T j=true->Si j=true):Si=λj=>S j||T j:=funext λj=>Bool.eq_iff_iff.mpr (by rw[or_eq_true];exact⟨a2 j,λq=>q.elim (a1 j) (a3 j)⟩)
theorem zD8 {A:Around}{s s₁:Shared}{E:Value->Shared->Prop}{S T:Int->Bool}{nm:String}{ka ko:List (Int×Tok)}{ea eo:Nat}{ta to:SetTable}{Q:Unit->Shared->Prop}(hne:a≠o)(hs1:s₁={ s with heap:=s₁.heap })(sb1:Heap.SameBut a s.heap s₁.heap)(hoo:s.heap.get? o=some (wY ko eo to))(hfo:to.fits ko.length=true)(hmo:∀k,T k=true↔k∈ko.map (·.1))(hro:∀k,T k=true->0<=k/\k<32)
  (ho:s₁.heap.get? a=some (wY ka ea ta)) (hf:ta.fits ka.length=true) (hl:ka.length<=40) (iS:∀{h' ea' ta'},h'.get? a=some (wY ka ea' ta')->ta'.fits ka.length=true->SetI h' a S) (k:∀h',Heap.SameBut a s.heap h'->SetI h' a (λj=>S j||T j)->Q Unit.unit { s with heap:=h' }) :
  wpAny (model X.prog X.w) A (do
   for (h,x) in <-setWalkUnseen o [a] (some a) do
    let _ <-holding [x] (setAddHashed a x h)
    Builtin.Frozenset.unchanged nm o eo
    if (<-setState o).2.1 != eo then unsupported "set.changed-during-merge") Q E s₁:=by
 have hfo':to.fits (zF ko).toArray.size=true:=by rw[size_toArray];rw[length_map];exact hfo
 have hkeep:∀{h'},Heap.SameBut a s.heap h'->h'.get? o=some (wY ko eo to):=λsb=>(sb.2 o (Ne.symm hne)).trans hoo;refine wpAny_bind (u4 hne (hkeep sb1) hfo ho hf hl λks' h2 ea2 ta2 p' sb2 ho2 hf2=>?_);have i2:=iS ho2 hf2;rw[hs1];have sb2:=sb1.trans sb2;clear hs1 sb1 ho2 hf2 iS ho hf hl hoo;rw[<-Array.forIn_toList];refine wpAny_bind ?_;refine wpAny_forIn_list _ (λrest b s'=>∃h' Si rs,s'={ s with heap:=h' }/\Heap.SameBut a s.heap h'/\SetI h' a Si/\rest=zF rs/\(∀p∈rs,p.1∈ko.map (·.1))/\(∀j,S j=true->Si j=true)/\(∀j,Si j=true->S j=true\/T j=true)/\(∀j,T j=true->Si j=true\/j∈rs.map (·.1))) _ (λe rest b s' q=>?_) (λb s' q=>?_) _ _
  ⟨h2,S,ks',rfl,sb2,i2,rfl,λp hp=>(p'.map (·.1)).mem_iff.mp (mem_map_of_mem hp),λ_ h=>h,λ_ h=>.inl h,λj hj=>.inr ((p'.map (·.1)).mem_iff.mpr ((hmo j).mp hj))⟩
 ·clear k p' sb2 i2;refine zJp q λh' Si rs eq3 sb' i' hrs hin a1 a2 a3=>?_;subst eq3;cases rs with
  | nil=>cases hrs
  | cons p rs=>
   obtain⟨e1,rfl⟩:=List.cons.inj hrs;subst e1;have hpT:T p.1=true:=(hmo p.1).mpr (hin p (.head _));refine wpAny_bind (wpAny_holding (ww (X:=X) (s:={ s with heap:=h' }) i' (hro p.1 hpT) λh'' sb'' i''=>?_));have sb':=sb'.trans sb'';have hoo:=hkeep sb';clear sb'' i' hkeep hro hmo hne;refine wpAny_bind ?_;unfold Builtin.Frozenset.unchanged;refine wpAny_bind (wpAny_setEpoch_of (s:={ s with heap:=h'' }) hoo rfl hfo' ?_);refine zM (by rw[bne_self_eq_false];decide) (wpAny_pure ?_);refine wpAny_bind (wpAny_setState_of (s:={ s with heap:=h'' }) hoo rfl hfo' ?_);refine zM (by rw[bne_self_eq_false];decide) (wpAny_pure ?_);refine⟨h'',_,rs,rfl,sb',i'',rfl,λq hq=>hin q (.tail _ hq),λj hj=>by rw[a1 j hj];rfl,λj hj=>?_,λj hj=>?_⟩
   ·rcases Bool.or_eq_true_iff.mp hj with q | q
    ·exact a2 j q
    ·exact .inr (of_decide_eq_true q▸hpT)
   ·rcases a3 j hj with q | q
    ·left;rw[q];rfl
    ·rcases List.mem_cons.mp q with q | q
     ·left;rw[q];rw[decide_eq_true rfl];rw[Bool.or_true]
     ·exact .inr q
 ·refine zJp q λh' Si rs eq3 sb' i' hrs hin a1 a2 a3=>?_;subst eq3;cases rs with
  | cons p r=>cases hrs
  | nil=>
   rw[zHL a1 a2 λj q=>(a3 j q).elim id λz=>by cases z] at i';exact wpAny_pure (k h' sb' i')
theorem zGG {t o:SetTable}(h:t.fill≠0):t.road o=.oneByOne:=if_pos (bne_iff_ne.mpr h)
theorem zE1 {t o:SetTable}(h:t.fill=0):t.road o=.slotForSlot\/t.road o=.clean:=by
 unfold SetTable.road;rw[if_neg (by rw[h];decide)];split
 ·exact .inl rfl
 ·exact .inr rfl
theorem zFM {t:SetTable}{k:Nat}(h1:t.place.size=k)(h2:t.dummies=#[])(h3:k<=t.mask):t.fits k=true:=by unfold SetTable.fits SetTable.fill;rw[h1];rw[h2];rw[beq_self_eq_true];rw[Bool.true_and];exact decide_eq_true h3
theorem y8 {t:SetTable}{k:Nat}(h:t.fits k=true):t.place.size=k:=eq_of_beq (Bool.and_eq_true_iff.mp h).1
theorem zEj {A:Around}{s s₁:Shared}{E:Value->Shared->Prop}{S T:Int->Bool}{nm:String}{ka ko:List (Int×Tok)}{ea eo:Nat}{ta to:SetTable}{Q:Unit->Shared->Prop}(hne:a≠o)(hoo:s.heap.get? o=some (wY ko eo to))(hfo:to.fits ko.length=true)(hno:(ko.map (·.1)).Nodup)(hmo:∀k,T k=true↔k∈ko.map (·.1))(hro:∀k,T k=true->0<=k/\k<32)(hlo:ko.length<=32)
  (hs1:s₁={ s with heap:=s₁.heap }) (sb1:Heap.SameBut a s.heap s₁.heap) (ho:s₁.heap.get? a=some (wY ka ea ta)) (hna:(ka.map (·.1)).Nodup) (hma:∀k,S k=true↔k∈ka.map (·.1)) (hra:∀k,S k=true->0<=k/\k<32) (hf:ta.fits ka.length=true) (hl:ka.length<=40) (hz:ta.fill=0->ta.mask∈zBZ/\ko.length<=ta.mask)
  (k:∀h',Heap.SameBut a s.heap h'->SetI h' a (λj=>S j||T j)->Q Unit.unit { s with heap:=h' }) :
  wpAny (model X.prog X.w) A (do
   let (_,_,ts) <-setState a
   match ts.road to with
   | .slotForSlot=>storeSet a (zF ko).toArray { to with finger:=ts.finger,led:=ts.led&&to.led,moves:=ts.moves,plain:=ts.plain&&to.plain }
   | .clean=>
    let (es,t) <-(do
     let some (t,order):=SetTable.laid ts.mask ts.finger ts.moves (led:=ts.led&&to.led) (plain:=ts.plain&&to.plain) ((zF ko).toArray.map (·.1)) | unsupported "internal:set-table-without-room"
     let es':=order.filterMap ((zF ko).toArray[·]?)
     if es'.size != (zF ko).toArray.size then unsupported "internal:set-table-lost-an-element"
     pure (es',t))
    storeSet a es t
   | .oneByOne=>
    for (h,x) in <-setWalkUnseen o [a] (some a) do
     let _ <-holding [x] (setAddHashed a x h)
     Builtin.Frozenset.unchanged nm o eo
     if (<-setState o).2.1 != eo then unsupported "set.changed-during-merge") Q E s₁:=by
 refine wpAny_bind (wpAny_setState_of ho rfl (by rw[size_toArray];rw[length_map];exact hf) ?_);dsimp only;by_cases hfill:ta.fill=0
 ·have hk0:ka=[]:=List.length_eq_zero_iff.mp ((y8 hf).symm.trans (Nat.eq_zero_of_add_eq_zero_right hfill));subst hk0;obtain⟨hm,hle⟩:=hz hfill;have hS:∀j,S j=false:=λj=>Bool.eq_false_iff.mpr λq=>not_mem_nil ((hma j).mp q);have hU:∀j,(S j||T j)=T j:=λj=>by rw[hS j];rfl
  have st:∀{ks' t'},ks'.Perm ko->t'.fits ks'.length=true->wpAny (model X.prog X.w) A (storeSet a (zF ks').toArray t') Q E s₁:=λp hf=>zCU hs1 sb1 ho hno (λj=>by rw[hU j];exact hmo j) (λj q=>hro j (by rw[hU j] at q;exact q)) hlo p hf k;have hro':∀j∈ko.map (·.1),0<=j/\j<32:=λj q=>hro j ((hmo j).mpr q);clear k hS hU hs1 sb1 ho hna hma hra hf hl hz hmo hoo;rcases zE1 (o:=to) hfill with e | e
  ·rw[e];exact st .rfl hfo
  ·rw[e];refine zFQ (zAL (finger:=ta.finger) (moves:=ta.moves) (led:=ta.led&&to.led) (plain:=ta.plain&&to.plain) hm hro' hle) λt' order ks' e1 e2 p1 p2 p3 p4=>?_;dsimp only;rw[e1];dsimp only;refine wpAny_bind (zM (by rw[e2];rw[size_toArray];rw[length_map];rw[size_toArray];rw[length_map];rw[p1.length_eq];rw[bne_self_eq_false];decide) (wpAny_pure ?_));dsimp only;rw[e2];exact st p1 (zFM (p2.trans p1.length_eq.symm) p3 (by rw[p4];rw[p1.length_eq];exact hle))
 ·rw[zGG hfill];exact zD8 hne hs1 sb1 hoo hfo hmo hro ho hf hl (λe f=>SetI.bX e hna hma f hra) k
theorem zEZ (e:ta=SetTable.fresh 0 0 ta.led)(hn:ta.roomFor k=none):ta.mask∈zBZ/\k<=ta.mask:=by
 rw[e] at hn ⊢;simp only [SetTable.roomFor,SetTable.fresh,SetTable.fill] at hn ⊢;simp only [size_toArray,length_nil] at hn;split at hn
 ·cases hn
 ·exact⟨(),by lia⟩
theorem zEY {ta:SetTable}{k w:Nat}(h:ta.roomFor k=some w):w=(ta.place.size+k) * 2:=by
 unfold SetTable.roomFor at h;split at h
 ·exact(Option.some.inj h).symm
 ·cases h
theorem zHs (ha:a<=32)(hk:k<=32)(h:w=(a+k) * 2):w<200:=by rw[h];exact lt_of_le_of_lt (Nat.mul_le_mul_right 2 (add_le_add ha hk)) ()
theorem zHt (h:w=(a+k) * 2):a<=w:=by rw[h];exact le_trans (le_add_right a k) (Nat.le_mul_of_pos_right _ ())
theorem zE0 (h:w=(a+k) * 2)(hz:w<z)(q:m+1=z):a<=m/\k<=m:=by have hm:(a+k) * 2<=m:=le_of_lt_succ (by rw[<-h];exact Nat.lt_of_lt_of_eq hz q.symm);have h2:=le_trans (Nat.le_mul_of_pos_right (a+k) ()) hm;exact⟨le_trans (le_add_right a k) h2,le_trans (le_add_left k a) h2⟩
theorem zGf {ea:Nat}{S:Int->Bool}(hoa:h.get? a=some (wY ka ea ta))(hma:∀k,S k=true↔k∈ka.map (·.1))(hfa:ta.fits ka.length=true)(hfr:vL h a\/∃k,S k=true)(hz:ta.fill=0):ta=SetTable.fresh 0 0 ta.led:=by
 rcases hfr with ⟨led,e⟩ | ⟨k,hk⟩
 ·rw[hoa] at e;injection e with e;injection e with _ _ e _;injection e with _ _ e;rw[e];rfl
 ·have h1:=(hma k).mp hk;rw[List.length_eq_zero_iff.mp ((y8 hfa).symm.trans (Nat.eq_zero_of_add_eq_zero_right hz))] at h1;cases h1
theorem vG (ia:SetI s.heap a S)(io:SetI s.heap o T)(hne:a≠o)(hfr:vL s.heap a\/∃k,S k=true)
  (h:∀h',Heap.SameBut a s.heap h'->SetI h' a (λj=>S j||T j)->(vL h' a\/∃k,S k=true\/T k=true)->Q Unit.unit { s with heap:=h' }) :
  wpAny (model X.prog X.w) A (Builtin.Frozenset.merge nm a o) Q E s:=by
 refine uJ (id ia) λka ea ta hoa hna hma hfa hra=>?_;refine uJ (id io) λko eo to hoo hno hmo hfo hro=>?_;have hla:=few 32 _ hna hra;have hlo:=few 32 _ hno hro;rw[length_map] at hla hlo;have hfo':to.fits (zF ko).toArray.size=true:=by rw[size_toArray];rw[length_map];exact hfo
 have hfa':ta.fits (zF ka).toArray.size=true:=by rw[size_toArray];rw[length_map];exact hfa
 unfold Builtin.Frozenset.merge;refine wpAny_bind (wpAny_setEpoch_of hoo rfl hfo' ?_);unfold setMerge;refine zM (λq=>hne (eq_of_beq q)) ?_;refine wpAny_bind (wpAny_setState_of hoo rfl hfo' ?_);dsimp only;cases ko with
 | nil=>
  rw[if_pos (by rfl)];have hT:(λj=>S j||T j)=S:=(zHL (λ_ q=>q) (λ_ q=>.inl q) λj q=>absurd ((hmo j).mp q) not_mem_nil).symm;exact wpAny_pure (h s.heap (.refl _ _) (by rw[hT];exact ia) (hfr.imp id λq=>q.elim λk hk=>⟨k,.inl hk⟩))
 | cons p0 ko=>
  refine zM (λq=>Bool.false_ne_true q) ?_;have k:∀h',Heap.SameBut a s.heap h'->SetI h' a (λj=>S j||T j)->Q Unit.unit { s with heap:=h' }:=λh' sb i=>h h' sb i (.inr ⟨p0.1,.inr ((hmo _).mpr (.head _))⟩);clear h;have hpos:0<(p0::ko).length:=succ_pos _;generalize p0::ko=ko at *;have key:=λ(s₁:Shared) (ka1:List (Int×Tok)) (ea1:Nat) (ta1:SetTable) (hs1:s₁={ s with heap:=s₁.heap }) (sb1:Heap.SameBut a s.heap s₁.heap) (ho1:s₁.heap.get? a=some (wY ka1 ea1 ta1)) (p₁:ka1.Perm ka) (hf1:ta1.fits ka1.length=true) (hz:ta1.fill=0->ta1.mask∈zBZ/\ko.length<=ta1.mask)=>
   zEj (X:=X) (A:=A) (E:=E) (nm:=nm) hne hoo hfo hno hmo io.small hlo hs1 sb1 ho1 (((p₁.map _).nodup_iff).mpr hna) (λk=>by rw[hma k];rw[(p₁.map _).mem_iff]) ia.small hf1 (by rw[p₁.length_eq];exact le_trans hla ()) hz k
  refine wpAny_bind ?_;unfold setRoomFor;refine wpAny_bind (wpAny_setState_of hoa rfl hfa' ?_);have hkoe:(zF ko).toArray.size=ko.length:=by rw[size_toArray];rw[length_map]
  rw[hkoe];dsimp only;cases hroom:ta.roomFor ko.length with
  | none=>exact wpAny_pure (key s ka ea ta rfl (.refl _ _) hoa .rfl hfa λhz=>zEZ (zGf hoa hma hfa hfr hz) hroom)
  | some wanted=>
   have hw:wanted=(ka.length+ko.length) * 2:=y8 hfa▸zEY hroom;have hw2:=zHs hla hlo hw;refine w3 (uU wanted hw2) λm1 m2 m3=>?_;refine zCK (X:=X) hoa hfa hra hw2 (zHt hw) λh' ks' t' sb' ho' p' q1 q2 q3=>?_;obtain⟨g1,g2⟩:=zE0 hw m2 q3;exact key { s with heap:=h' } ks' (ea+1) t' rfl sb' ho' p' (zFM (q1.trans p'.length_eq.symm) q2 (by rw[p'.length_eq];exact g1)) λ_=>⟨by rw[show t'.mask=SetTable.sizeAbove wanted - 1 from Nat.eq_sub_of_add_eq q3];exact m1,g2⟩
end
end
section
theorem vX:isSubtype (.type "set") (.type "frozenset")=pure false:=by rw[isSubtype_type];kernel_rfl
theorem zBh:entryFor table "set.__ne__" = some Builtin.«frozenset.__ne__»:=
 entryFor_alias (id':="frozenset.__ne__") (by rw[fastTable_eq_tree];kernel_rfl) (by kernel_rfl) (by kernel_rfl) (by rw[fastTable_eq_tree];kernel_rfl)
theorem zAr:fillsInplaceSlot (.type "set") "or" false=pure true:=by unfold fillsInplaceSlot;show (typeLookup (.type "set") (dunderI "or") >>= λfi=>pure (fi.isSome&&!isSeqSlot fi))=pure true;rw[F.slot_set_ior.lookup];show pure (f:=Sem) ((some (Value.builtin "set.__ior__")).isSome&&!isSeqSlot (some (.builtin "set.__ior__")))=pure true;rw[show ((some (Value.builtin "set.__ior__")).isSome&&!isSeqSlot (some (.builtin "set.__ior__")))=true by decide +kernel]
section
variable {X:Cx}{n:Nat}{sc:Scope}
theorem wy (hT:s.TypeIs x "set")(h:Q true s):wpAny (model X.prog X.w) A (Builtin.Frozenset.isAnySet x) Q E s:=by unfold Builtin.Frozenset.isAnySet;refine wpAny_bind (m:=isInstance x (.type "set")) (wpAny_isInstance hT sub_set_self ?_);exact wpAny_pure h
theorem Op2.eU {S T:Int->Bool}{f g:Bool}(e1:G a=some (.set S f))(e2:G o=some (.set T g))(hne:a≠o)(hfr:f=true\/∃k,S k=true)
  (hq:∀f',(f'=true\/∃k,S k=true\/T k=true)->Q (.ref a) (G.upd a (.set (λj=>S j||T j) f'))):Op2 X n (inplaceOp .BitOr) (.ref a) (.ref o) G Q:=⟨λ{A b s x y} hA hb hr hv hw=>by
 rw[hv.aC];rw[hw.aC];obtain⟨iS,fS,_,ha,hca⟩:=zCN hr e1;obtain⟨iT,_,_,ho,hco⟩:=zCN hr e2;have hTa:s.TypeIs (.ref a) "set":=⟨_,ha,hca⟩
 have hTo:s.TypeIs (.ref o) "set":=⟨_,ho,hco⟩
 unfold inplaceOp;refine wpAny_holding ?_;refine wpAny_bind (wpAny_typeOf hTa ?_);refine wpAny_bind (wpAny_of_eq zAr ?_);rw[if_pos rfl];refine wpAny_bind (wpAny_tryMethod_slot hTa F.slot_set_ior (wpAny_call_entry F.slot_set_ior hTa F.entry_set_ior ?_ (F.args_set_ior_2 _ _)));unfold Builtin.«set.__ior__»;refine wpAny_bind (wpAny_pure ?_);refine wpAny_bind (wy (X:=X) hTo ?_);refine zM () ?_;refine wpAny_bind (wpAny_pure ?_);refine wpAny_bind ?_;unfold Builtin.Frozenset.updateFrom;refine wpAny_bind (wy (X:=X) hTo ?_);rw[if_pos rfl];refine wpAny_bind (wpAny_pure ?_);refine vG (X:=X) iS iT hne (hfr.imp (λq=>fS q) λq=>q) λh' sb i' hfr'=>?_;refine wpAny_pure ⟨_,rfl,by simp,wpAny_bind (wpAny_rule (wpAny_pure ?_))⟩;have fin:∀f',(f'=true->vL h' a)->(f'=true\/∃k,S k=true\/T k=true)->Out X b s Q (.ref a) { s with heap:=h' }:=λf' h1 h2=>by
  obtain⟨r',k'⟩:=hr.change (g':=.set (λj=>S j||T j) f') e1 rfl rfl sb ⟨i',h1⟩;exact .mk (.ref _) _ (.ref _) r' ⟨k',rfl,rfl⟩ (hq f' h2)
 by_cases hf:vL h' a
 ·exact fin true (λ_=>hf) (.inl rfl)
 ·exact fin false (λq=>nomatch q) (.inr (hfr'.resolve_left hf))⟩
theorem uE (hb:Base X b)(hr:Rep X b G s.heap)(h:∀a,G a=none->Q (.ref a) (G.upd a (.set (λ_=>false) true))) :
  Out X b s Q (.ref s.heap.objs.size) { s with heap:=s.heap.push { cls:=.type "set",dict:=none,data:=.set #[] 0 (.fresh 0 0 led) } }:=by have kp:∀a o,s.heap.get? a=some o->(s.heap.push { cls:=.type "set",dict:=none,data:=.set #[] 0 (.fresh 0 0 led) }).get? a=some o:=λa o e=>get?_push_of_some _ e;have hn:=zj (h:=s.heap) (le_refl _);have hg:=get?_push_size s.heap (o:={ cls:=.type "set",dict:=none,data:=.set #[] 0 (.fresh 0 0 led) }) rfl;exact .mk (.ref _) _ (.ref _) (hr.alloc (g:=.set (λ_=>false) true) kp hn (hlow hb hr) ⟨⟨[],0,_,hg,.nil,λk=>⟨λq=>(nomatch q),λq=>(nomatch q)⟩,rfl,λk hk=>(nomatch hk)⟩,λ_=>⟨led,hg⟩⟩ rfl) ⟨.of_keep kp,rfl,rfl⟩ (h _ (hr.dA hn))
theorem Blt.bz (h:∀a,G a=none->Q (.ref a) (G.upd a (.set (λ_=>false) true))):Blt X n (.type "set") [] G Q:=⟨λhA hb hr hv=>by
 rw[hv.nil_inv];exact call_set_0 λled=>uE hb hr h⟩
theorem vW (ia:SetI s.heap a S)(io:SetI s.heap o T)
  (h:∀r:Bool,(∀ks:List Int,ks.Nodup->(∀k,S k=true↔k∈ks)->∀ls:List Int,ls.Nodup->(∀k,T k=true↔k∈ls)->(r=true↔(ks.length<=ls.length/\∀k,S k=true->T k=true)))->Q r s) :
  wpAny (model X.prog X.w) A (Builtin.Frozenset.subsetOf nm a o) Q E s:=by
 refine uJ (id ia) λka ea ta hoa hna hma hfa hra=>?_;refine uJ (id io) λko eo to hoo hno hmo hfo hro=>?_;have hfo':to.fits (zF ko).toArray.size=true:=by simpa using hfo
 have hfa':ta.fits (zF ka).toArray.size=true:=by simpa using hfa
 have lens:∀(ks ls:List Int),ks.Nodup->ls.Nodup->(∀k,k∈ks↔k∈ls)->ks.length=ls.length:=λks ls h1 h2 h3=>
  le_antisymm (wN h1 λx hx=>(h3 x).mp hx) (wN h2 λx hx=>(h3 x).mpr hx)
 have fin:∀r:Bool,(r=true↔(ka.length<=ko.length/\∀k,S k=true->T k=true))->Q r s:=λr hr=>h r λks h1 h2 ls h3 h4=>by
  rw[hr];rw[lens ks (ka.map (·.1)) h1 hna λk=>(h2 k).symm.trans (hma k)];rw[lens ls (ko.map (·.1)) h3 hno λk=>(h4 k).symm.trans (hmo k)];rw[length_map];rw[length_map]
 unfold Builtin.Frozenset.subsetOf Builtin.Frozenset.sizeOf;refine wpAny_bind (wpAny_bind (wpAny_setEntries_of hoa rfl hfa' (wpAny_pure (wpAny_bind (wpAny_bind (wpAny_setEntries_of hoo rfl hfo' (wpAny_pure ?_)))))));by_cases hgt:(zF ka).toArray.size > (zF ko).toArray.size
 ·rw[if_pos hgt];simp only [size_toArray,length_map] at hgt;exact wpAny_pure (fin false (by simp;lia))
 ·rw[if_neg hgt];simp only [size_toArray,length_map] at hgt;refine wpAny_bind (wpAny_setEpoch_of hoa rfl hfa' ?_);unfold Builtin.Frozenset.walkUnseen;refine wpAny_bind ?_;refine wpAny_bind (wpAny_setEntries_of hoa rfl hfa' ?_);refine wpAny_bind (wpAny_setEntries_of hoo rfl hfo' ?_);refine wpAny_bind (wpAny_forIn_list _ (λrest b s'=>b=(none,Unit.unit)/\s=s'/\∀e∈rest,e∈zF (ka++ko)) _ ?_ ?_ _ _ ⟨rfl,rfl,λe he=>by simpa [zF] using he⟩)
  ·rintro ⟨e1,e2⟩ rest b s' ⟨rfl,rfl,hin⟩
   have:=hin _ (.head _);simp only [zF,mem_map] at this;refine zC this λk _ hk=>?_;cases hk;refine wpAny_bind (wpAny_pure ?_);refine zM (by simp) ?_;exact wpAny_pure ⟨rfl,rfl,λe he=>hin e (.tail _ he)⟩
  ·rintro b s' ⟨rfl,rfl,_⟩;refine wpAny_pure ?_;rw[toList_toArray];refine wpAny_bind (wpAny_mono (wpAny_forIn_list _ (λrest b s'=>b=(none,Unit.unit)/\s=s'/\∃rs,rest=zF rs/\(∀p∈rs,S p.1=true)/\(∀k,S k=true->T k=true\/k∈rs.map (·.1)))
    (λb s'=>s=s'/\(b=(none,Unit.unit)/\(∀k,S k=true->T k=true)\/b=(some false,Unit.unit)/\∃k,S k=true/\T k=false)) ?_ ?_ _ _ ⟨rfl,rfl,ka,rfl,λp hp=>(hma _).mpr (mem_map_of_mem hp),λk hk=>.inr ((hma k).mp hk)⟩) ?_ λ_ _ x=>x)
   ·rintro ⟨e1,e2⟩ rest b s' ⟨rfl,rfl,rs,hrs,hin,hcov⟩;cases rs with
    | nil=>cases hrs
    | cons p rs=>
     simp only [zF,map_cons,List.cons.injEq,Prod.mk.injEq] at hrs;obtain⟨⟨rfl,rfl⟩,rfl⟩:=hrs;refine zC3 (SetI.parts (X:=X) io) λ_ _ _ _ hS'=>?_;refine wpAny_bind (wpAny_holding (wpAny_setFind_of (knd:=intKind X.prog X.w) (k:=p.1) (intKind_is _ _ _ _) rfl hS' λr hr=>?_));cases hT:T p.1 with
     | false=>
      rw[hT] at hr
      have:r=none:=by cases r with | none=>rfl | some _=>cases hr
      subst this;exact wpAny_pure ⟨rfl,.inr ⟨rfl,p.1,hin p (.head _),hT⟩⟩
     | true=>
      rw[hT] at hr;obtain⟨j,rfl⟩:∃j,r=some j:=by cases r with | none=>cases hr | some j=>exact⟨j,rfl⟩
      refine zM (by simp) ?_;refine wpAny_bind ?_;unfold Builtin.Frozenset.unchanged;refine wpAny_bind (wpAny_setEpoch_of hoa rfl hfa' ?_);refine zM (by simp) (wpAny_pure (wpAny_pure ?_));refine⟨rfl,rfl,rs,rfl,λq hq=>hin q (.tail _ hq),λk hk=>?_⟩;rcases hcov k hk with q | q
      ·exact .inl q
      ·rw[map_cons] at q;rw[mem_cons] at q;rcases q with rfl | q
       ·exact .inl hT
       ·exact .inr q
   ·rintro b s' ⟨rfl,rfl,rs,hrs,hin,hcov⟩;have hrs0:rs=[]:=by cases rs with | nil=>rfl | cons p r=>cases hrs
    subst hrs0;exact⟨rfl,.inl ⟨rfl,λk hk=>(hcov k hk).resolve_right (by simp)⟩⟩
   ·rintro b s' ⟨rfl,⟨rfl,hall⟩ | ⟨rfl,k,hk,hkT⟩⟩
    ·exact wpAny_pure (fin true (by simp only [true_iff];exact⟨by lia,hall⟩))
    ·exact wpAny_pure (fin false (by simp only [false_eq_true,false_iff,not_and];intro _ h';rw[h' k hk] at hkT;cases hkT))
theorem Op2.dK (e1:G p=some (.set S f))(e2:G q=some (.set T g))(hne:p≠q)(h:∀r:Bool,(r=true↔∀k,S k=T k)->Q (.bool (!r)) G) :
  Op2 X n (compareOp .NotEq) (.ref p) (.ref q) G Q:=⟨λ{A b s x y} hA hb hr hv hw=>by
 rw[hv.aC];rw[hw.aC];obtain⟨iS,_⟩:=(hr.own _ _ e1).2;obtain⟨iT,_⟩:=(hr.own _ _ e2).2;refine uJ (id iS) λka ea ta hoa hna hma hfa hra=>?_;refine uJ (id iT) λko eo to hoo hno hmo hfo hro=>?_;have hfo':to.fits (zF ko).toArray.size=true:=by simpa using hfo
 have hfa':ta.fits (zF ka).toArray.size=true:=by simpa using hfa
 have hTa:s.TypeIs (.ref p) "set":=⟨_,hoa,rfl⟩
 have hTo:s.TypeIs (.ref q) "set":=⟨_,hoo,rfl⟩
 show wpAny _ _ (richCompare .NotEq _ _) _ _ _;refine wpAny_richCompare_same_room (op:=.NotEq) (T:="set") hTa hTo F.slot_set_ne (wpAny_call_entry F.slot_set_ne hTa zBh ?_ (F.args_set_ne_2 _ _)) (by have:=hA.uni;lia);unfold Builtin.«frozenset.__ne__»;refine wpAny_bind (wpAny_pure ?_);refine wpAny_bind (wy (X:=X) hTo ?_);refine zM () ?_;refine wpAny_bind (wpAny_pure (wpAny_bind (wpAny_pure ?_)));unfold Builtin.Frozenset.sizeOf;refine wpAny_bind (wpAny_bind (wpAny_setEntries_of hoa rfl hfa' (wpAny_pure (wpAny_bind (wpAny_bind (wpAny_setEntries_of hoo rfl hfo' (wpAny_pure ?_)))))));have fin:∀r:Bool,(r=true↔∀k,S k=T k)->wpAny (model X.prog X.w) A.in1 (ret (.bool (!r))) (λfin s'=>∃r,fin=.done (.ret r)/\r≠.notImplemented/\Out X b s Q r s') NoE s:=λr hrr=>
  wpAny_pure ⟨_,rfl,by simp,Out.here hr (.bool _) (h r hrr)⟩
 have lens:∀(ks ls:List Int),ks.Nodup->ls.Nodup->(∀k,k∈ks->k∈ls)->ks.length<=ls.length:=λks ls h1 h2 h3=>wN h1 h3;by_cases hl:(zF ka).toArray.size != (zF ko).toArray.size
 ·refine wpAny_bind ?_;rw[if_pos hl];refine wpAny_pure (fin false ?_);simp only [false_eq_true,false_iff];intro hall;simp only [size_toArray,length_map,bne_iff_ne,ne_eq] at hl;apply hl;have h1:=lens (ka.map (·.1)) (ko.map (·.1)) hna hno λk hk=>(hmo k).mp (by rw[<-hall k];exact(hma k).mpr hk);have h2:=lens (ko.map (·.1)) (ka.map (·.1)) hno hna λk hk=>(hma k).mp (by rw[hall k];exact(hmo k).mpr hk);simp only [length_map] at h1 h2;lia
 ·refine wpAny_bind (zM hl ?_);simp only [size_toArray,length_map,bne_iff_ne,ne_eq,Decidable.not_not] at hl;refine wpAny_bind (wpAny_bind (m:=isInstance (.ref p) (.type "frozenset")) (wpAny_isInstance hTa vX ?_));refine wpAny_pure (zM () ?_);refine vW (X:=X) iS iT λr hrr=>fin r ?_;rw[hrr (ka.map (·.1)) hna hma (ko.map (·.1)) hno hmo];simp only [length_map];constructor
  ·rintro ⟨_,hsub⟩ k;have hback:∀k,T k=true->S k=true:=λk hk=>by
    have hin:=(hmo k).mp hk;cases hSk:S k with
    | true=>rfl
    | false=>
     exfalso;have hn':(k::ka.map (·.1)).Nodup:=List.nodup_cons.mpr ⟨λhx=>(by rw[(hma k).mpr hx] at hSk;cases hSk),hna⟩
     have:=wN (l':=ko.map (·.1)) hn' λx hx=>by
      rcases List.mem_cons.mp hx with rfl | hx
      ·exact hin
      ·exact(hmo x).mp (hsub x ((hma x).mpr hx))
     simp only [length_cons,length_map] at this;lia
   cases q1:S k<;>cases q2:T k
   ·rfl
   ·rw[hback k q2] at q1;cases q1
   ·rw[hsub k q1] at q2;cases q2
   ·rfl
  ·intro hall;exact⟨by lia,λk hk=>by rw[<-hall k];exact hk⟩⟩
set_option maxRecDepth 100000 in
set_option maxHeartbeats 3200000 in
theorem upd_upd {G:Gh}{D:Addr}{o o':GObj}:(G.upd D o).upd D o'=G.upd D o':=by funext x;unfold Gh.upd;split<;>rfl
theorem zEW {A:Around}{b:Bs}{G:Gh}{s₀ s:Shared}{Q:QE}{l D:Addr}{T:Int->Bool}{g:Bool}{P:Fin->Shared->Prop}{E:Value->Shared->Prop}(hr:Rep X b (G.upd D (.set (λ_=>false) true)) s.heap)(e:G l=some (.set T g))(hc:G D=none)(f:Fwd s₀ s)(h:Q (.ref D) (G.upd D (.set T false)))(k:∀s',Out X b s₀ Q (.ref D) s'->P (.done (.ret .none)) s') :
  wpAny (model X.prog X.w) A (Builtin.«set.__init__» { pos:=[.ref D,.ref l] }) P E s:=by
 have hlc:l≠D:=λq=>by rw[q] at e;rw[hc] at e;cases e
 have e1:(G.upd D (.set (λ_=>false) true)) l=some (.set T g):=by rw[Gh.aD _ _ hlc];exact e
 obtain⟨iN,fN⟩:=(hr.own _ _ (Gh.aA G D (.set (λ_=>false) true))).2;obtain⟨iT,_⟩:=(hr.own _ _ e1).2;obtain⟨led,hS⟩:=fN rfl;have key:wpAny (model X.prog X.w) A (Builtin.Frozenset.updateFrom "set.__init__" D (.ref l)) (λ_ s'=>wpAny (model X.prog X.w) A (ret Value.none) P E s') E s:=by
  refine zBd (id iT) λ_ _ _ hol _=>?_;have hTl:s.TypeIs (.ref l) "set":=⟨_,hol,rfl⟩
  unfold Builtin.Frozenset.updateFrom;refine wpAny_bind (wy (X:=X) hTl ?_);rw[if_pos rfl];refine wpAny_bind (wpAny_pure ?_);refine vG (X:=X) (S:=λ_=>false) iN iT (Ne.symm hlc) (.inl ⟨led,hS⟩) λh' sb i' hfr'=>?_;rw[show (λj=>false||T j)=T from funext λj=>Bool.false_or _] at i';have kk:=f.tk.trans (TK.sameBut sb hS (by simp));refine wpAny_pure (k _ (.mk (.ref _) _ (.ref _) (hr.change (g':=.set T false) (Gh.aA _ _ _) rfl rfl sb ⟨i',λq=>Bool.noConfusion q⟩).1 ⟨kk,f.g,f.o⟩ (by rw[upd_upd];exact h)))
 have hT:s.TypeIs (.ref D) "set":=⟨_,hS,rfl⟩
 clear iN iT e1 hr k;unfold Builtin.«set.__init__» noKeywords;generalize hU:Builtin.Frozenset.updateFrom "set.__init__" = U at key
 wp_walk
 exact key
set_option maxRecDepth 4000 in
theorem zD0 {A:Around}{b:Bs}{G:Gh}{s:Shared}{Q:QE}{l:Addr}{T:Int->Bool}{g:Bool}(hb:Base X b)(hr:Rep X b G s.heap)(e:G l=some (.set T g))(h:∀c,G c=none->Q (.ref c) (G.upd c (.set T false))) :
  wpAny (model X.prog X.w) A (call (.type "set") [.ref l]) (Out X b s Q) NoE s:=by
 obtain⟨iT,_⟩:=(hr.own _ _ e).2;refine zBd iT λ_ _ _ hol _=>?_;obtain⟨c,tl,hmro⟩:=F.called_set.mro;have hmade:=F.called_set.made;have hsub:=F.called_set.sub;refine wpAny_call (codeAny_of_tree ?_);show wpAny _ _ (callAny (.type "set") _) _ _ _;refine wpAny_pure ⟨Code.quiet_builtin _ (by decide +kernel),codeAny_builtin F.entry_type_call ?_⟩;rw[Around.under_plain (weight_type_call_type "set" [.ref l] []) rfl];have h1:=F.called_set.notType;have h2:=F.called_set.canCreate;have hct:=F.typeCall_set_1 (.ref l)
 repeat (any_goals (first | assumption | wp_step))
 refine codeAny_mono (code_set_new_1 (.ref l) (E:=NoE) (Q₁:=λobj s₁=>∃led:Bool,obj=.ref s.heap.objs.size/\s₁={ s with heap:=s.heap.push { cls:=.type "set",dict:=none,data:=.set #[] 0 (.fresh 0 0 led) } }) λled=>⟨led,rfl,rfl⟩) λr s₁ hr1=>?_;cases r with
 | error e=>exact hr1
 | ok fl=>
  cases fl with
  | ret obj=>
   refine zC hr1 λled eq1 eq2=>?_;subst eq1;subst eq2;have hS:(s.heap.push { cls:=.type "set",dict:=none,data:=.set #[] 0 (.fresh 0 0 led) }).get? s.heap.objs.size=some { cls:=.type "set",dict:=none,data:=.set #[] 0 (.fresh 0 0 led) }:=get?_push_size _ rfl;have hT:Shared.TypeIs { s with heap:=s.heap.push { cls:=.type "set",dict:=none,data:=.set #[] 0 (.fresh 0 0 led) } } (.ref s.heap.objs.size) "set":=⟨_,hS,rfl⟩
   have hli:=F.called_set.init.lookup;have hbi:=F.called_set.init.bind (.ref s.heap.objs.size)
   repeat (any_goals (first | assumption | wp_step))
   have O:=uE (Q:=λv G'=>∃c,v=.ref c/\G c=none/\G'=G.upd c (.set (λ_=>false) true)) (led:=led) hb hr λc hc=>⟨c,rfl,hc,rfl⟩
   obtain⟨_,G1,hv1,hr1,⟨k₁,_,_⟩,c,rfl,hc,rfl⟩:=O;cases hv1;refine codeAny_mono (codeAny_call_builtin (R:=wants (λr s₂=>r=.none/\Out X b s Q (.ref s.heap.objs.size) s₂) NoE) F.called_set.init.plain F.entry_set_init (check_set_init_1 hT ?_)) λr2 s₂ hr2=>?_
   ·exact zEW hr1 e hc ⟨k₁,rfl,rfl⟩ (h _ hc) λs' o=>⟨rfl,o⟩
   ·cases r2 with
    | error e=>exact hr2
    | ok fl2=>
     cases fl2 with
     | ret r=>
      obtain⟨rfl,ho⟩:=hr2
      repeat (any_goals (first | assumption | wp_step))
     | _=>exact hr2.elim
  | _=>exact hr1.elim
theorem Blt.cV (e:G l=some (.set T g))(h:∀c,G c=none->Q (.ref c) (G.upd c (.set T false))):Blt X n (.type "set") [.ref l] G Q:=.one ⟨λhA hb hr hv=>by
 rw[hv.aC];exact zD0 hb hr e h⟩
end
end
section
section
variable {X:Cx}{n:Nat}{sc:Scope}{env:Env}{A:Around}{b:Bs}{m:M}{G:Gh}{s:Shared}{Q:QE}{e:Expr}
theorem DR.without (d:DR h es kvs)(k:Int):DR h (es.filter λkv=>kv.1≠k) (PySem.without kvs k):=by
 induction d with
 | nil=>exact .nil
 | @cons k' v y es ys hv _ ih=>
  unfold PySem.without at ih ⊢;rw[filter_cons];rw[filter_cons];by_cases hk:k'=k
  ·rw[if_neg (by simp [hk])];rw[if_neg (by simp [hk])];exact ih
  ·rw[if_pos (by simp [hk])];rw[if_pos (by simp [hk])];exact .cons hv ih
theorem DR.any (d:DR h es kvs)(k:Int):(es.any λkv=>decide (kv.1=k))=kvs.any λkv=>decide (kv.1=k):=by
 induction d with
 | nil=>rfl
 | cons _ _ ih=>rw[any_cons];rw[any_cons];rw[ih]
theorem DR.stored (d:DR h es kvs)(k:Int)(hv:VR h v y):DR h (uT es k v) (PySem.stored kvs k y):=by
 unfold uT PySem.stored;rw[d.any];split
 ·rename_i q;clear q;induction d with
  | nil=>exact .nil
  | @cons k' w z es ys hw _ ih=>
   rw[map_cons];rw[map_cons];by_cases hk:k'=k
   ·rw[if_pos hk];rw[if_pos hk];exact .cons hv ih
   ·rw[if_neg hk];rw[if_neg hk];exact .cons hw ih
 ·rename_i q;clear q;induction d with
  | nil=>exact .cons hv .nil
  | cons hw _ ih=>exact .cons hw ih
inductive HasT (G:Gh):Val->String->Prop where
 | list {a:Addr} {xs:List Val}:G a=some (.list xs)->HasT G (.ref a) "list"
 | dict {a:Addr} {es:List (Int×Val)}:G a=some (.dict es)->HasT G (.ref a) "dict"
 | set {a:Addr} {S:Int->Bool} {f:Bool}:G a=some (.set S f)->HasT G (.ref a) "set"
theorem HasT.sound (hr:Rep X b G s.heap)(hv:VR s.heap v y)(h:HasT G v T):s.TypeIs y T/\∀a,y=.ref a->∃ob,s.heap.get? a=some ob/\ob.dict=none:=by
 cases h with
 | list e=>rw[hv.aC];refine wF (zO hr e) λ_ _ _ ho _=>?_;exact⟨⟨_,ho,rfl⟩,λa q=>by cases q;exact⟨_,ho,rfl⟩⟩
 | dict e=>rw[hv.aC];obtain⟨_,_,⟨o,_,_,ho,hc,_⟩,_⟩:=(hr.own _ _ e).2;exact⟨⟨_,ho,hc.1⟩,λa q=>by cases q;exact⟨_,ho,hc.2.1⟩⟩
 | set e=>rw[hv.aC];obtain⟨⟨_,_,_,ho,_⟩,_⟩:=(hr.own _ _ e).2;exact⟨⟨_,ho,rfl⟩,λa q=>by cases q;exact⟨_,ho,rfl⟩⟩
structure Zp (T:String)(attr:Str)(id:String):Prop where
 p:PlainAttrs T
 sl:Slot T attr id
 ty:typeOf (.builtin id)=pure (.type "method_descriptor")
theorem Zp.append:Zp "list" "append" "list.append":=⟨F.plainAttrs_list,F.slot_list_append,F.type_list_append⟩
theorem Zp.extend:Zp "list" "extend" "list.extend":=⟨F.plainAttrs_list,F.slot_list_extend,F.type_list_extend⟩
theorem Zp.pop:Zp "list" "pop" "list.pop":=⟨F.plainAttrs_list,F.slot_list_pop,F.type_list_pop⟩
theorem Zp.cx:Zp "dict" "pop" "dict.pop":=⟨F.plainAttrs_dict,F.slot_dict_pop,F.type_dict_pop⟩
theorem Zp.get:Zp "dict" "get" "dict.get":=⟨F.plainAttrs_dict,F.slot_dict_get,F.type_dict_get⟩
theorem Zp.add:Zp "set" "add" "set.add":=⟨F.plainAttrs_set,F.slot_set_add,F.type_set_add⟩
theorem Zp.discard:Zp "set" "discard" "set.discard":=⟨F.plainAttrs_set,F.slot_set_discard,F.type_set_discard⟩
theorem Sn.aV {T:String}{attr:Str}{id:String}{o:Expr}{es:List Expr}{apos pos:Pos}(hm:Zp T attr id)(hn:Zj es)
  (h:Sn X n sc o m G λv G1=>HasT G1 v T/\SnEs X n sc es m G1 λvs G2=>Blt X n (.builtin id) (v::vs) G2 Q)
  (hs:∀env whole,attributeBase o attr env whole=whole:=by intro _ _;rfl) (hline:(apos.endLine == pos.line)=true:=by rfl) (hfew:decide (es.length<29)=true:=by rfl) :
  Sn X n sc (.Call (.Attribute o attr apos) es [] pos) m G Q:=⟨λ{env A b s} hy=>by
 refine wpAny_Call_method (hs _ _) ?_ hline hm.p hm.sl hm.ty (h.use hy λx s₁ v G1 hv hy1 f₁ h1=>?_)
 ·rw[hn]
  have:=of_decide_eq_true hfew;show (true&&true&&decide (es.length+0+0<30))=true;rw[decide_eq_true (by lia)];rfl
 ·obtain⟨t1,t2⟩:=h1.1.sound hy1.hr hv;exact⟨t1,t2,Calls.callWith_builtin (hn.any _ _) (wh hn h1.2 hy1 λys s₂ vs G2 hvs hy2 f₂ h2=>
   zA (h2.go hy2.hA hy2.hb hy2.hr (.cons (hv.mono f₂.tk) hvs)) λ_ _ q=>q.next (f₁.trans f₂))⟩⟩
theorem zAj (hr:Rep X b G s.heap)(e:G a=some (.list xs))
  (hs:Heap.SameBut a s.heap h') (ho':h'.get? a=some ⟨.type "list",none,.seq ys' k',#[]⟩) (hl:xs'.length<=2 * cap) (hxs:VRs s.heap xs' ys'.toList) (hv:VR s.heap v y) (h:Q v (G.upd a (.list xs'))):Out X b s Q y { s with heap:=h',toks:=tk }:=by refine wF (zO hr e) λ_ _ _ ho _=>?_;have kk:TK s.heap h':=.aL hs ho (notT rfl);exact .mk v _ (hv.mono kk) (hr.change (g':=.list xs') e rfl rfl hs ⟨hl,ys',k',ho',hxs.mono kk⟩).1 ⟨kk,rfl,rfl⟩ h
theorem wC:Heap.SameBut a h (h.update a f):=⟨Heap.size_update _ _ _,λb hb=>Heap.get?_update_other _ _ (Ne.symm hb)⟩
theorem Meth.append (e:G a=some (.list xs))(hc:xs.length<cap)(q:Q .none (G.upd a (.list (xs++[v])))):Blt X n (.builtin "list.append") [.ref a,v] G Q:=.two ⟨λ{A b s x y} hA hb hr hv hw=>by
 rw[hv.aC];refine wn (zO hr e) λzs k hl ho hs hlen=>?_;refine call_meets F.slot_list_append ⟨_,ho,rfl⟩ F.entry_list_append (F.args_list_append_2 _ _) (list_append a zs k _ (by rw[<-hlen];exact zk hc)) ⟨ho,?_⟩;exact zAj hr e wC (get?_update_self _ ho rfl) (by rw[length_append];rw[length_singleton];exact ui hc) (by rw[toList_push];exact hs.append (.single hw)) .none q⟩
theorem Meth.extend (e:G a=some (.list xs))(e2:G c=some (.list ys))(hc:xs.length+ys.length<cap)(q:Q .none (G.upd a (.list (xs++ys)))):Blt X n (.builtin "list.extend") [.ref a,.ref c] G Q:=.two ⟨λ{A b s x y} hA hb hr hv hw=>by
 rw[hv.aC];rw[hw.aC];refine wn (zO hr e) λzs k hl ho hs hlen=>?_;refine wn (zO hr e2) λzs2 k2 hl2 ho2 hs2 hlen2=>?_;have hf:zs.size+zs2.size<=sizeLine:=by rw[<-hlen];rw[<-hlen2];exact zk hc
 refine call_meets F.slot_list_extend ⟨_,ho,rfl⟩ F.entry_list_extend (F.args_list_extend_2 _ _) (AutoSeq1.list_extend_list_list_0 a zs k _ zs2 k2 ?_ (by lia) (by lia)) ⟨ho,ho2,?_⟩
 ·intro q
  have:=(Bool.and_eq_true_iff.mp q).2;unfold Builtin.List.listTooLong at this;rw[decide_eq_true_eq] at this;lia
 exact zAj hr e wC (get?_update_self _ ho rfl) (by rw[length_append];exact yA hc) (by rw[Array.toList_append];exact hs.append hs2) .none q⟩
theorem Meth.pop (e:G a=some (.list (xs++[v])))(hc:xs.length+1<cap)(q:Q v (G.upd a (.list xs))):Blt X n (.builtin "list.pop") [.ref a] G Q:=.one ⟨λ{A b s x} hA hb hr hv=>by
 rw[hv.aC];refine wn (zO hr e) λzs k hl ho hs hlen=>?_;rw[length_append] at hlen;rw[length_singleton] at hlen;obtain⟨z,hz,hvr⟩:=hs.get (i:=zs.size - 1) (v:=v) (by rw[<-hlen];rw[Nat.add_sub_cancel];rw[List.getElem?_append_right (le_refl _)];rw[Nat.sub_self];rfl);rw[getElem?_toList] at hz;refine call_meets F.slot_list_pop ⟨_,ho,rfl⟩ F.entry_list_pop (F.args_list_pop_1 _) (MeetsSeq.list_pop_last a zs k z hz (by rw[<-hlen];exact zk hc)) ⟨ho,?_⟩;refine zAj (xs':=xs) hr e wC (get?_update_self _ ho rfl) (yA (Nat.lt_of_succ_lt hc)) ?_ hvr q
 have:(zs.eraseIdxIfInBounds (zs.size - 1)).toList=zs.toList.take (zs.size - 1):=by
  obtain⟨l⟩:=zs;simp only [List.eraseIdxIfInBounds_toArray,size_toArray];rw[<-List.dropLast_eq_take];exact List.eraseIdx_length_sub_one ..
 rw[this];rw[<-hlen];rw[Nat.add_sub_cancel]
 have:=hs.take xs.length;rw[List.take_left' rfl] at this;exact this⟩
theorem zAq (h:zm es k=none):(es.filter λkv=>kv.1≠k)=es:=by
 rw[List.filter_eq_self];intro p hp;unfold zm at h;rw[Option.map_eq_none_iff] at h;rw[List.find?_eq_none] at h
 simpa using h p hp
theorem Gh.cU (e:G a=some o):G.upd a o=G:=by
 funext x
 by_cases q:x=a
 ·rw[q];rw[Gh.aA];rw[e]
 ·rw[Gh.aD _ _ q]
theorem Meth.cx (e:G d=some (.dict es))(h:Q ((zm es k).getD .none) (G.upd d (.dict (es.filter λkv=>kv.1≠k)))):Blt X n (.builtin "dict.pop") [.ref d,.int k,.none] G Q:=⟨λ{A b s ys} hA hb hr hv=>by
 refine wF hv.cons_inv λy zs eq2 hv1 hv2=>?_;subst eq2;refine wF hv2.ae λu w eq2 hv3 hv4=>?_;subst eq2;obtain⟨tk,rfl⟩:=hv3.int_inv;rw[hv1.aC];rw[hv4.none_inv];obtain⟨hl,kvs,hd,hes⟩:=(hr.own _ _ e).2;have hlen:=hes.length;refine wm (id hd) λoo ees eep hoo hxx _=>?_;have hpart:(keyPart (.int k tk)).isSome=true:=rfl;refine wpAny_call_entry F.slot_dict_pop hd.typeIs F.entry_dict_pop ?_ (F.args_dict_pop_3 _ _ _);unfold Builtin.«dict.pop»;refine wpAny_bind ?_;unfold Builtin.Dict.keyAndDefault;refine wpAny_bind (wpAny_notOrdered_dict hd.typeIs ?_);show wpAny _ _ (pure (d,Value.int k tk,some Value.none)) _ _ s;refine wpAny_pure ?_;simp only [hpart,if_true];refine wpAny_bind (wpAny_pure ?_);simp only [false_eq_true,if_false];refine wpAny_bind (wpAny_takeOut_pairs (knd:=intKind X.prog X.w) (hsz:=by rw[sizeLine_eq];rw[<-hlen];exact zDr hl) (intKind_is _ _ _ _) hd (λhn=>?_) λen _ hen h' hm' hs'=>?_)
 ·simp only [Option.isNone_none,if_true];refine wpAny_bind (wpAny_missedRemoval_other (zBV hr e) ?_);refine wpAny_bind (wpAny_rule (wpAny_pure ⟨_,rfl,?_⟩));have hnone:zm es k=none:=by
   cases q:zm es k with
   | none=>rfl
   | some v=>refine zC ((hes.look k).1 v q) λy z _=>?_;rw[hn] at z;cases z
  rw[zAq hnone] at h;rw[hnone] at h;rw[Gh.cU e] at h;exact .mk .none G .none hr ⟨.refl _,rfl,rfl⟩ h
 ·simp only [Option.isNone_some,false_eq_true,if_false];obtain⟨v,q,hv⟩:∃v,zm es k=some v/\VR s.heap v en.val:=by
   cases q:zm es k with
   | none=>have:=(hes.look k).2 q;rw[this] at hen;cases hen
   | some v=>refine zC ((hes.look k).1 v q) λy z hv=>?_;rw[hen] at z;cases z;exact⟨v,rfl,hv⟩
  rw[q] at h;refine wpAny_bind (wpAny_letGo (wpAny_pure ⟨_,rfl,?_⟩));have kk:TK s.heap h':=.aL hs' hoo (notT hxx.1);exact .mk v _ (hv.mono kk) (hr.change (g':=.dict (es.filter λkv=>kv.1≠k)) e rfl rfl hs' ⟨le_trans (length_filter_le ..) hl,_,hm',(hes.without k).mono kk⟩).1 ⟨kk,rfl,rfl⟩ h⟩
theorem Meth.get (e:G d=some (.dict es))(h:Q ((zm es k).getD v) G):Blt X n (.builtin "dict.get") [.ref d,.int k,v] G Q:=⟨λ{A b s ys} hA hb hr hv=>by
 refine wF hv.cons_inv λy zs eq2 hv1 hv2=>?_;subst eq2;refine wF hv2.ae λu w eq2 hv3 hv4=>?_;subst eq2;obtain⟨tk,rfl⟩:=hv3.int_inv;rw[hv1.aC];obtain⟨hl,kvs,hd,hes⟩:=(hr.own _ _ e).2;refine call_meetsIn F.slot_dict_get hd.typeIs F.entry_dict_get (F.args_dict_get_3 _ _ _) (meets_dict_get_default (intKind X.prog X.w) d (intKind_is _ _ _ _) (zBV hr e) w) ⟨_,hd.mapOf,?_⟩;refine Out.here hr ?_ h;cases q:zm es k with
 | none=>rw[(hes.look k).2 q];exact hv4
 | some w=>refine zC ((hes.look k).1 w q) λz a1 a2=>?_;rw[a1];exact a2⟩
end
end
section
section
variable {X:Cx}{n:Nat}{sc:Scope}{env:Env}{A:Around}{b:Bs}{m:M}{G:Gh}{s:Shared}{Q:QE}{e:Expr}{loc:Bool}
structure Lay (X:Cx)(lo:Bool)(env:Env)(b:Bs):Prop where
 loc:∃o es ep,b env.locals=some o/\o.data=.dict es ep/\StrKeys es
 low:X.H0.get? env.locals=none
 has:lo=false->∀x,env.kindOf x=some .cell->∃ca o v,env.cells.lookup x=some ca/\b ca=some o/\o.data=.cell v/\X.H0.get? ca=none/\ca≠env.locals/\∀y,env.cells.lookup y=some ca->y=x
def Own (loc:Bool)(env:Env)(a:Addr):Prop:=a=env.locals\/(loc=false/\∃x,env.kindOf x=some .cell/\env.cells.lookup x=some a)
def Agr (loc:Bool)(env:Env)(b b':Bs):Prop:=∀a o,b a=some o->¬Own loc env a->b' a=some o
theorem Agr.refl:Agr loc env b b:=λ_ _ e _=>e
theorem Agr.trans (h:Agr loc env b b')(h':Agr loc env b' b''):Agr loc env b b'':=λa o e n=>h' a o (h a o e n) n
theorem Own.data (hl:Lay X loc env b)(h:Own loc env a):X.H0.get? a=none/\∃o,b a=some o/\¬∃vs,o.data=.fields vs:=by
 rcases h with rfl | ⟨hll,x,hk,hc⟩
 ·refine wm hl.loc λo es ep h1 h2 _=>?_;exact⟨hl.low,o,h1,λ⟨vs,q⟩=>by rw[h2] at q;cases q⟩
 ·refine uJ (hl.has hll x hk) λca o v h1 h2 h3 h4 _=>?_;rw[hc] at h1;cases h1;exact⟨h4,o,h2,λ⟨vs,q⟩=>by rw[h3] at q;cases q⟩
theorem Agr.base (hl:Lay X loc env b)(h:Agr loc env b b')(hb:Base X b):Base X b':=λa o e=>h a o (hb a o e) λq=>by rw[(q.data hl).1] at e;cases e
def Z1 (loc:Bool)(sc:Scope)(x:Str):Prop:=(x,NameKind.local)∈sc.names\/(loc=false/\(x,NameKind.cell)∈sc.names)
inductive St (X:Cx)(loc:Bool)(env:Env)(b:Bs)(G:Gh)(s:Shared)(m:M)(s':Shared):Prop where
 | mk (b':Bs) (hr:Rep X b' G s'.heap) (hf:Frm env b' s'.heap m) (hl:Lay X loc env b') (ag:Agr loc env b b') (f:Fwd s s')
theorem St.next (h:St X loc env b1 G s₁ m s')(a:Agr loc env b b1)(f:Fwd s s₁):St X loc env b G s m s':=by cases h with | mk b' h1 h2 h3 h4 h5=>exact .mk b' h1 h2 h3 (a.trans h4) (f.trans h5)
theorem yE (h:o.data=.dict es ep):¬IsT o:=λ⟨_,_,_,q⟩=>by rw[h] at q;cases q
theorem zEf (h:o.data=.cell v):¬IsT o:=λ⟨_,_,_,q⟩=>by rw[h] at q;cases q
theorem zi (h:o.data=.fields vs):¬IsT o:=λ⟨_,_,_,q⟩=>by rw[h] at q;cases q
theorem zGK (h:b a=some o)(hd:o.data≠oo.data)(e:b x=some oo):b.put a o' x=some oo:=by rw[Bs.put_ne (λq=>by rw[q] at e;rw[h] at e;cases e;exact hd rfl)];exact e
theorem zBr (he:Zq X sc env)(hl:Lay X loc env b)(hr:Rep X b G s.heap)(hf:Frm env b s.heap m)(hk:Z1 loc sc x)(hv:VR s.heap v y) :
  wpAny Mo A (storeName env x y) (λ_ s'=>St X loc env b G s (m.upd x v) s') NoE s:=by
 have hsk:env.scope.kind=.function:=by rw[he.scope];exact he.kind
 rcases hk with hq | ⟨rfl,hq⟩
 ·have hkk:=(he.kindOf x).trans (zQ (scOK.nd he.ok) hq);refine wm hl.loc λo es ep hb hd hs=>?_;refine wpAny_storeName_local hkk ⟨o,es,ep,hr.keep _ _ hb,hd,hs,λ_=>rfl⟩ (λh' hn' sb=>?_) (by rw[hsk];rfl);refine vp hn' λo' es' ep' ho' hd' hs' hns=>?_;obtain⟨r',kk⟩:=hr.one hb (yE hd) sb.extBut ho';refine .mk (b.put env.locals o') r' (λz w e=>?_) ⟨⟨o',es',ep',Bs.aE,hd',hs'⟩,hl.low,λhloc z hz=>?_⟩ (λa oa e na=>?_) ⟨kk,rfl,rfl⟩
  ·rcases e with ⟨rfl,rfl⟩ | ⟨q,e⟩
   ·exact⟨y,hv.mono kk,.inl ⟨hkk,o',es',ep',Bs.aE,hd',hs',(hns _).trans (if_pos rfl)⟩⟩
   ·refine zC (hf z w e) λu hu hsl=>?_;refine⟨u,hu.mono kk,?_⟩;rcases hsl with ⟨h1,oo,es0,ep0,h2,h3,h4,h5⟩ | ⟨h1,ca,oc,h3,h4,h5⟩
    ·rw[hb] at h2;cases h2;rw[hd] at h3;cases h3;exact .inl ⟨h1,o',es',ep',Bs.aE,hd',hs',(hns _).trans ((if_neg q).trans h5)⟩
    ·exact .inr ⟨h1,ca,oc,h3,zGK hb (by rw[hd];rw[h5];exact Data.noConfusion) h4,h5⟩
  ·refine zFQ (hl.has hloc z hz) λca oc w h1 h2 h3 h4 h5 h6=>?_;exact⟨ca,oc,w,h1,(Bs.put_ne h5).trans h2,h3,h4,h5,h6⟩
  ·exact(Bs.put_ne λq=>na (.inl q)).trans e
 ·have hkk:=(he.kindOf x).trans (zQ (scOK.nd he.ok) hq);refine zFQ (hl.has rfl _ hkk) λca o w h1 h2 h3 h4 h5 h6=>?_;refine wpAny_storeName_cell hsk hkk h1 ⟨o,hr.keep _ _ h2,h3⟩ λh' hc' sb=>?_;refine zC hc' λo' ho' hd'=>?_;obtain⟨r',kk⟩:=hr.one h2 (zEf h3) sb.extBut ho';refine .mk (b.put ca o') r' (λz u e=>?_) ⟨?_,hl.low,λhloc z hz=>?_⟩ (λa oa e na=>?_) ⟨kk,rfl,rfl⟩
  ·rcases e with ⟨rfl,rfl⟩ | ⟨q,e⟩
   ·exact⟨y,hv.mono kk,.inr ⟨.inl hkk,ca,o',h1,Bs.aE,hd'⟩⟩
   ·refine zC (hf z u e) λu' hu hsl=>?_;exact⟨u',hu.mono kk,hsl.imp (λ_ _ _ e _=>(Bs.put_ne (Ne.symm h5)).trans e) λcb _ _ g e _=>(Bs.put_ne λq':cb=ca=>q (h6 _ (q'▸g))).trans e⟩
  ·refine wm hl.loc λoo es ep g1 g2 g3=>?_;exact⟨oo,es,ep,(Bs.put_ne (Ne.symm h5)).trans g1,g2,g3⟩
  ·refine zFQ (hl.has rfl z hz) λcb oc u g1 g2 g3 g4 g5 g6=>?_;by_cases q:cb=ca
   ·subst q;exact⟨cb,o',_,g1,Bs.aE,hd',g4,g5,g6⟩
   ·exact⟨cb,oc,u,g1,(Bs.put_ne q).trans g2,g3,g4,g5,g6⟩
  ·exact(Bs.put_ne λq=>na (.inr ⟨rfl,x,hkk,by rw[q];exact h1⟩)).trans e
structure Bnd (X:Cx)(loc:Bool)(sc:Scope)(t:Expr)(v:Val)(m m':M):Prop where
 go:∀{env:Env} {A:Around} {b:Bs} {G:Gh} {s:Shared} {y:Value},Zq X sc env->A.handled=none->Lay X loc env b->Rep X b G s.heap->Frm env b s.heap m->VR s.heap v y ->
  wpAny (model X.prog X.w) A (assign t env y) (λ_ s'=>St X loc env b G s m' s') NoE s
structure Bnds (X:Cx)(loc:Bool)(sc:Scope)(ts:List Expr)(vs:List Val)(m m':M):Prop where
 len:∀env,(assignEach ts env).length=vs.length/\(assignEach ts env).findIdx? (·.1)=none
 go:∀{env:Env} {A:Around} {b:Bs} {G:Gh} {s:Shared} {ys:List Value},Zq X sc env->A.handled=none->Lay X loc env b->Rep X b G s.heap->Frm env b s.heap m->VRs s.heap vs ys ->
  wpAny (model X.prog X.w) A (assignInOrder ((assignEach ts env).map (·.2)) ys) (λ_ s'=>St X loc env b G s m' s') NoE s
theorem St.weak (h:St X loc env b G s m s')(k:∀x v,m' x v->m x v):St X loc env b G s m' s':=by cases h with | mk b' h1 h2 h3 h4 h5=>exact .mk b' h1 (h2.weak k) h3 h4 h5
structure Put (loc:Bool)(sc:Scope)(x:Str)(v:Val)(m m':M):Prop where
 st:Z1 loc sc x
 up:scOK sc=true->∀y w,m' y w->m.upd x v y w
theorem Put.go (h:Put loc sc x v m m')(he:Zq X sc env)(hl:Lay X loc env b)(hr:Rep X b G s.heap)(hf:Frm env b s.heap m)(hv:VR s.heap v y) :
  wpAny Mo A (storeName env x y) (λ_ s'=>St X loc env b G s m' s') NoE s:=zA (zBr he hl hr hf h.st hv) λ_ _ q=>q.weak (h.up he.ok)
theorem Bnd.name (h:Put loc sc x v m m'):Bnd X loc sc (.Name x pos) v m m':=⟨λhe hh hl hr hf hv=>assign_Name (h.go he hl hr hf hv)⟩
theorem Bnd.tup {ts:List Expr}{k:Nat}{pos:Pos}{vs:List Val}{m':M}(h:Bnds X loc sc ts vs m m'):Bnd X loc sc (.Tuple ts k pos) (.tup vs) m m':=⟨λ{env A b G s y} he hh hl hr hf hv=>by
 refine wm hv.aT λa k ys eq3 e hs=>?_;subst eq3;obtain⟨l1,l2⟩:=h.len env;refine wpAny_bind (wpAny_standAt (wpAny_unpack_tuple hh ⟨_,e,rfl,_,rfl⟩ (by rw[l1];rw[hs.length];rw[size_toArray]) l2 λh' eb=>?_));have kp:∀b o,s.heap.get? b=some o->h'.get? b=some o:=λb o e=>eb b o (ne_of_lt (lt_size e)) e;exact zA (h.go (s:={ s with heap:=h' }) he hh hl (hr.mono kp) (hf.mono (.of_keep kp)) (hs.mono (.of_keep kp))) λ_ _ q=>q.next .refl ⟨.of_keep kp,rfl,rfl⟩⟩
theorem Bnds.nil:Bnds X loc sc [] [] m m:=⟨λ_=>qA,λhe hh hl hr hf hv=>by rw[hv.nil_inv];exact wpAny_pure (.mk _ hr hf hl .refl .refl)⟩
theorem Bnds.cons {t:Expr}{ts:List Expr}{v:Val}{vs:List Val}{m₁ m':M}(h1:Bnd X loc sc t v m m₁)(h2:Bnds X loc sc ts vs m₁ m')(hp:∀env,assignEach (t::ts) env=(false,assign t env)::assignEach ts env:=by intro _;rfl):Bnds X loc sc (t::ts) (v::vs) m m':=
 ⟨λenv=>by
  obtain⟨a,c⟩:=h2.len env;rw[hp];exact⟨by rw[length_cons];rw[length_cons];rw[a],by rw[findIdx?_cons];rw[c];rfl⟩,
 λ{env A b G s ys} he hh hl hr hf hv=>by
  refine wF hv.cons_inv λy zs eq2 hv1 hv2=>?_;subst eq2;rw[hp];refine wpAny_bind (wpAny_holding (zA (h1.go he hh hl hr hf hv1) λ_ s₁ q=>?_));cases q with | mk b1 hr1 hf1 hl1 ag f₁=>exact zA (h2.go he hh hl1 hr1 hf1 (hv2.mono f₁.tk)) λ_ _ q=>q.next ag f₁⟩
structure Iter (X:Cx)(h0:Heap)(tgt:Expr)(I:Value)(xs:List Val)(gd:Gh->Prop)(hid:Addr->Prop)(St:Nat->Bs->Prop):Prop where
 kind:∀{i:Nat} {b:Bs} {a:Addr} {o:Obj},St i b->hid a->b a=some o->∃vs,o.data=.fields vs
 fr:∀{i:Nat} {b b':Bs},St i b->(∀a o,hid a->b a=some o->b' a=some o)->St i b'
 self:∀{A:Around} {b:Bs} {G:Gh} {s:Shared} {i:Nat} {Q:Value->Shared->Prop},Rep X b G s.heap->St i b->Q I s->wpAny (model X.prog X.w) A (pyIter I) Q NoE s
 item:∀{A:Around} {b:Bs} {G:Gh} {s:Shared} {i:Nat} {x:Val} {Q:Value->Shared->Prop},A.handled=none->TK h0 s.heap->Rep X b G s.heap->gd G->St i b->xs[i]?=some x ->
  (∀y s' b',VR s'.heap x y->Rep X b' G s'.heap->Fwd s s'->St (i+1) b'->(∀a o,b a=some o->¬hid a->b' a=some o)->Q y s') ->
  wpAny (model X.prog X.w) A (pyNext I) (λr s₁=>∃y,r=some y/\wpAny (model X.prog X.w) A (letOwnedTupleGo tgt I y) (λ_ s₂=>Q y s₂) NoE s₁) NoE s
 stop:∀{A:Around} {b:Bs} {G:Gh} {s:Shared} {i:Nat} {Q:Option Value->Shared->Prop},A.handled=none->TK h0 s.heap->Rep X b G s.heap->gd G->St i b->xs[i]?=none ->
  (∀s' b',Rep X b' G s'.heap->Fwd s s'->(∀a o,b a=some o->¬hid a->b' a=some o)->Q none s') ->
  wpAny (model X.prog X.w) A (pyNext I) Q NoE s
noncomputable def zFG:List String:=["enumerate","zip","dict_itemiterator","dict_reverseitemiterator","odict_iterator","itertools.zip_longest","itertools.pairwise"]
theorem zCB {y:Value}{Q:Unit->Shared->Prop}(ho:s.heap.get? I=some o)(hc:o.cls=.type T)(hd:o.data=.fields vs)(hT:zFG.contains T=false)(h:Q Unit.unit s) :
  wpAny (model X.prog X.w) A (letOwnedTupleGo tgt (.ref I) y) Q NoE s:=by
 have tl:wpAny (model X.prog X.w) A (letOwnedTupleGo (.Tuple [] 0 ⟨0,0,0,0⟩) (.ref I) y) Q NoE s:=by
  cases y with
  | ref a=>
   refine wpAny_bind (wpAny_load ho ?_);rw[hc];rw[hd];show wpAny _ A (if (zFG.contains T&&vs[0]? == some (rawInt a))=true then _ else _) Q NoE s;rw[hT];rw[Bool.false_and];rw[if_neg ()];exact wpAny_pure h
  | _=>exact wpAny_pure h
 cases tgt<;>first | exact wpAny_pure h | exact tl
theorem zEy:Iter X h0 tgt (.ref I) xs (λG=>G l=some (.list xs)) (·=I) (λi b=>∃o,b I=some o/\o.cls=.type "list_iterator"/\o.data=.fields #[.ref l,.int i 0]) where
 kind:=λg ha ea=>by refine zU g λo e _ hd=>?_;subst ha;rw[e] at ea;cases ea;exact⟨_,hd⟩
 fr:=λg h=>g.elim λo g=>⟨o,h I o rfl g.1,g.2⟩
 self:=λhr g hq=>g.elim λo g=>wpAny_pyIter_listiter ⟨o,hr.keep _ _ g.1,g.2.1,g.2.2⟩ hq
 item:=λ{A b G s i x Q} hh _ hr hg g hx h=>by
  refine zU g λo e hc hd=>?_;refine wn (zO hr hg) λys k hl ho hs _=>?_;refine zC (hs.get hx) λy hy hv=>?_;refine wpAny_pyNext_list_item ⟨o,hr.keep _ _ e,hc,hd⟩ ⟨_,ho,rfl,k,rfl⟩ (by rw[<-getElem?_toList];exact hy) λh' g sb=>⟨y,rfl,?_⟩
  refine zU g λo' ho' hc' hd'=>?_;obtain⟨r',tk⟩:=hr.one e (zi hd) sb.extBut ho';exact zCB (s:={ s with heap:=h' }) ho' hc' hd' () (h y _ _ (hv.mono tk) r' ⟨tk,rfl,rfl⟩ ⟨o',Bs.aE,hc',hd'⟩ λa oa ea ha=>(Bs.put_ne ha).trans ea)
 stop:=λ{A b G s i Q} hh _ hr hg g hx h=>by
  refine zU g λo e hc hd=>?_;refine wn (zO hr hg) λys k hl ho hs hlen=>?_;refine wpAny_pyNext_list_end hh ⟨o,hr.keep _ _ e,hc,hd⟩ ⟨_,ho,rfl,k,rfl⟩ (by
   rw[Array.getElem?_eq_none_iff];rw[<-hlen];exact List.getElem?_eq_none_iff.mp hx) λh' sb=>?_
  obtain⟨r',tk⟩:=hr.gone e (zi hd) sb;exact h _ _ r' ⟨tk,rfl,rfl⟩ λa oa ea ha=>(Bs.aI ha).trans ea
theorem zG9 (ht:h0.get? t=some ⟨.type "tuple",none,.seq ys.toArray k,#[]⟩)(hv:VRs h0 xs ys) :
  Iter X h0 tgt (.ref I) xs (λ_=>True) (·=I) (λi b=>∃o,b I=some o/\o.cls=.type "tuple_iterator"/\o.data=.fields #[.ref t,.int i 0]) where
 kind:=λg ha ea=>by refine zU g λo e _ hd=>?_;subst ha;rw[e] at ea;cases ea;exact⟨_,hd⟩
 fr:=λg h=>g.elim λo g=>⟨o,h I o rfl g.1,g.2⟩
 self:=λhr g hq=>g.elim λo g=>wpAny_pyIter_tupleiter ⟨o,hr.keep _ _ g.1,g.2.1,g.2.2⟩ hq
 item:=λ{A b G s i x Q} hh tk0 hr hg g hx h=>by
  refine zU g λo e hc hd=>?_;refine zC ((hv.mono tk0).get hx) λy hy hv'=>?_;refine wpAny_pyNext_tuple_item ⟨o,hr.keep _ _ e,hc,hd⟩ ⟨_,tk0 _ _ ht ⟨rfl,_,_,rfl⟩,rfl,_,rfl⟩ (by rw[getElem?_toArray];exact hy) λh' g sb=>⟨y,rfl,?_⟩
  refine zU g λo' ho' hc' hd'=>?_;obtain⟨r',tk⟩:=hr.one e (zi hd) sb.extBut ho';exact zCB (s:={ s with heap:=h' }) ho' hc' hd' () (h y _ _ (hv'.mono tk) r' ⟨tk,rfl,rfl⟩ ⟨o',Bs.aE,hc',hd'⟩ λa oa ea ha=>(Bs.put_ne ha).trans ea)
 stop:=λ{A b G s i Q} hh tk0 hr hg g hx h=>by
  refine zU g λo e hc hd=>?_;refine wpAny_pyNext_tuple_end hh ⟨o,hr.keep _ _ e,hc,hd⟩ ⟨_,tk0 _ _ ht ⟨rfl,_,_,rfl⟩,rfl,_,rfl⟩ (by
   rw[getElem?_toArray];rw[List.getElem?_eq_none_iff];rw[<-hv.length];exact List.getElem?_eq_none_iff.mp hx) λh' sb=>?_
  obtain⟨r',tk⟩:=hr.gone e (zi hd) sb;exact h _ _ r' ⟨tk,rfl,rfl⟩ λa oa ea ha=>(Bs.aI ha).trans ea
theorem zDg {m:Nat} :
  Iter X h0 tgt (.ref I) (uX m) (λ_=>True) (·=I) (λi b=>b I=some { cls:=.type "range_iterator",dict:=none,data:=.fields #[rawInt (i:Nat),rawInt ((m:Int) - (i:Nat)),rawInt 1],slots:=#[] }) where
 kind:=λe ha ea=>by subst ha;rw[e] at ea;cases ea;exact⟨_,rfl⟩
 fr:=λe h=>h I _ rfl e
 self:=λhr e hq=>wpAny_pyIter_rangeiter (hr.keep _ _ e) hq
 item:=λ{A b G s i x Q} hh tk0 hr hg e hx h=>by
  unfold uX at hx;rw[getElem?_map] at hx;have hi:i<m:=by
   rcases Nat.lt_or_ge i m with q | q
   ·exact q
   ·rw[getElem?_eq_none (by rw[length_range];exact q)] at hx;cases hx
  rw[List.getElem?_range hi] at hx;cases hx;refine wpAny_pyNext_range_item (hr.keep _ _ e) (Int.sub_pos_of_lt (Int.ofNat_lt.mpr hi)) λh' ho' sb=>⟨_,rfl,?_⟩
  obtain⟨r',tk⟩:=hr.one e (zi rfl) sb.extBut ho';refine zCB (s:={ s with heap:=h',toks:=s.toks+1 }) ho' rfl rfl () ?_;refine h _ _ _ (.int _ _) r' ⟨tk,rfl,rfl⟩ ?_ λa oa ea ha=>(Bs.put_ne ha).trans ea;rw[show (m:Int) - ((i+1:Nat):Int)=(m:Int) - (i:Int) - 1 from(Int.sub_sub (m:Int) i 1).symm];exact Bs.aE
 stop:=λ{A b G s i Q} hh tk0 hr hg e hx h=>by
  have hi':m<=i:=by have:=List.getElem?_eq_none_iff.mp hx;unfold uX at this;rwa [length_map,length_range] at this
  refine wpAny_pyNext_range_end hh (hr.keep _ _ e) (Int.sub_nonpos_of_le (Int.ofNat_le.mpr hi')) λh' sb=>?_;obtain⟨r',tk⟩:=hr.gone e (zi rfl) sb;exact h _ _ r' ⟨tk,rfl,rfl⟩ λa oa ea ha=>(Bs.aI ha).trans ea
theorem zFU {i:Nat}(h:(zBg xs)[i]?=some x):∃v,xs[i]?=some v/\x=.tup [.int i,v]:=by
 unfold zBg at h;rw[getElem?_map] at h;rw[List.getElem?_zipIdx] at h;cases e:xs[i]? with
 | none=>rw[e] at h;cases h
 | some v=>rw[e] at h;cases h;exact⟨v,rfl,by rw[zero_add]⟩
theorem zFT:(zBg xs).length=xs.length:=by unfold zBg;rw[length_map];rw[List.length_zipIdx]
theorem zEz {es:List Expr}{k:Nat}{xs:List Val}(hne:I≠it) :
  Iter X h0 (.Tuple es k pos) (.ref I) (zBg xs) (λG=>G l=some (.list xs)) (λa=>a=I\/a=it)
   (λi b=>(∃old,b I=some { cls:=.type "enumerate",dict:=none,data:=.fields #[.none,.bool false,.ref it,rawInt i,.none,old],slots:=#[] })/\∃o,b it=some o/\o.cls=.type "list_iterator"/\o.data=.fields #[.ref l,.int i 0]) where
 kind:=λg ha ea=>by
  obtain⟨⟨old,e⟩,o,e',_,hd⟩:=g;rcases ha with rfl | rfl
  ·rw[e] at ea;cases ea;exact⟨_,rfl⟩
  ·rw[e'] at ea;cases ea;exact⟨_,hd⟩
 fr:=λg h=>⟨g.1.elim λold e=>⟨old,h I _ (.inl rfl) e⟩,g.2.elim λo g=>⟨o,h it o (.inr rfl) g.1,g.2⟩⟩
 self:=λhr g hq=>g.1.elim λold e=>wpAny_pyIter_enum (hr.keep _ _ e) hq
 item:=λ{A b G s i x Q} hh tk0 hr hg g hx h=>by
  obtain⟨⟨old,e⟩,o,e',hc,hd⟩:=g;refine zC (zFU hx) λv hv eq2=>?_;subst eq2;refine wn (zO hr hg) λys kk hl ho hs _=>?_;refine zC (hs.get hv) λy hy hvr=>?_;refine wpAny_pyNext_enum_item (hr.keep _ _ e) ⟨o,hr.keep _ _ e',hc,hd⟩ ⟨_,ho,rfl,kk,rfl⟩ (by rw[<-getElem?_toList];exact hy) hne λh' heo g ht hz hk=>⟨_,rfl,?_⟩
  refine zU g λo2 ho2 hc2 hd2=>?_;refine wpAny_letOwnedTupleGo_enum (s:={ s with heap:=h',toks:=s.toks+1 }) heo λh2 he2 hs2=>?_;replace hs2:Heap.SameBut I h' h2:=hs2;have hIs:I≠s.heap.objs.size:=ne_of_lt (lt_size (hr.keep _ _ e));have ho2':h2.get? it=some o2:=(hs2.2 it (Ne.symm hne)).trans ho2;have ht':=(hs2.2 _ (Ne.symm hIs)).trans ht;have hk2:∀a o,¬(a=I\/a=it)->s.heap.get? a=some o->h2.get? a=some o:=λa o ha ea=>(hs2.2 a λq=>ha (.inl q)).trans (hk a o (λq=>ha (.inl q)) (λq=>ha (.inr q)) ea);have cases3:∀{a:Addr} {oa oI:Obj},((b.put it o2).put I oI) a=some oa->(a=I/\oa=oI)\/(a=it/\oa=o2)\/(¬(a=I\/a=it)/\b a=some oa):=λ{a oa oI} ea=>by
   by_cases q:a=I
   ·subst q;rw[Bs.aE] at ea;cases ea;exact .inl qA
   ·rw[Bs.put_ne q] at ea;by_cases q':a=it
    ·subst q';rw[Bs.aE] at ea;cases ea;exact .inr (.inl qA)
    ·rw[Bs.put_ne q'] at ea;exact .inr (.inr ⟨λw=>w.elim q q',ea⟩)
  obtain⟨r',tk⟩:=hr.step (W:=λa=>a=I\/a=it) (b':=(b.put it o2).put I _) (h':=h2) (λa w=>by
   rcases w with rfl | rfl
   ·exact⟨_,e,zi rfl⟩
   ·exact⟨_,e',zi hd⟩) hk2 (λa oa ea=>by
   rcases cases3 ea with ⟨rfl,rfl⟩ | ⟨rfl,rfl⟩ | ⟨w,ea⟩
   ·exact he2
   ·exact ho2'
   ·exact hk2 a oa w (hr.keep _ _ ea)) λa oa ea=>.inl (by
   rcases cases3 ea with ⟨rfl,rfl⟩ | ⟨rfl,rfl⟩ | ⟨w,ea⟩
   ·rw[e];rfl
   ·rw[e'];rfl
   ·rw[ea];rfl)
  exact h _ _ _ (.aU (ys:=[.int i s.toks,y]) ht' (.cons (.int _ _) (.single (hvr.mono tk)))) r' ⟨tk,rfl,rfl⟩ ⟨⟨_,Bs.aE⟩,o2,(Bs.put_ne (Ne.symm hne)).trans Bs.aE,hc2,hd2⟩ λa oa ea ha=>
   (Bs.put_ne λq=>ha (.inl q)).trans ((Bs.put_ne λq=>ha (.inr q)).trans ea)
 stop:=λ{A b G s i Q} hh tk0 hr hg g hx h=>by
  obtain⟨⟨old,e⟩,o,e',hc,hd⟩:=g;refine wn (zO hr hg) λys kk hl ho hs hlen=>?_;refine wpAny_pyNext_enum_end hh (hr.keep _ _ e) ⟨o,hr.keep _ _ e',hc,hd⟩ ⟨_,ho,rfl,kk,rfl⟩ (by
   rw[Array.getElem?_eq_none_iff];rw[<-hlen];rw[<-zFT];exact List.getElem?_eq_none_iff.mp hx) λh' sb=>?_
  obtain⟨r',tk⟩:=hr.gone e' (zi hd) sb;exact h _ _ r' ⟨tk,rfl,rfl⟩ λa oa ea ha=>(Bs.aI λq=>ha (.inr q)).trans ea
end
end
section
section
variable {X:Cx}{n:Nat}{sc:Scope}{env:Env}{A:Around}{b:Bs}{m:M}{G:Gh}{s:Shared}{e:Expr}{loc:Bool}
theorem ua (l:Lay X loc env b)(k:∀a o,b a=some o->(¬∃vs,o.data=.fields vs)->b' a=some o):Lay X loc env b' where
 loc:=by refine wm l.loc λo es ep h1 h2 h3=>?_;exact⟨o,es,ep,k _ _ h1 (λ⟨vs,q⟩=>by rw[h2] at q;cases q),h2,h3⟩
 low:=l.low
 has hh x hx:=by refine vp (l.has hh x hx) λca o v h1 h2 h3 r=>?_;exact⟨ca,o,v,h1,k _ _ h2 (λ⟨vs,q⟩=>by rw[h3] at q;cases q),h3,r⟩
theorem ud (f:Frm env b h m)(t:TK h h')(k:∀a o,b a=some o->(¬∃vs,o.data=.fields vs)->b' a=some o):Frm env b' h' m:=λx v e=>by
 refine zC (f x v e) λy hy hs=>?_;exact⟨y,hy.mono t,hs.imp (λo _ _ e d=>k _ _ e λq=>q.elim λ_ q=>nomatch d.symm.trans q) λ_ o _ _ e d=>k _ _ e λq=>q.elim λ_ q=>nomatch d.symm.trans q⟩
inductive Fl where
 | next
 | brk
 | cont
 | ret (v:Val)
abbrev QS:=Fl->M->Gh->Prop
inductive FlR (h:Heap):Fl->Flow->Prop where
 | next:FlR h .next .next
 | brk:FlR h .brk .brk
 | cont:FlR h .cont .cont
 | ret {v:Val} {y:Value}:VR h v y->FlR h (.ret v) (.ret y)
inductive OutS (X:Cx)(env:Env)(b:Bs)(s:Shared)(Q:QS)(fl:Flow)(s':Shared):Prop where
 | mk (mf:Fl) (m':M) (G':Gh) (b':Bs) (hfl:FlR s'.heap mf fl) (hr:Rep X b' G' s'.heap) (hf:Frm env b' s'.heap m') (hl:Lay X false env b') (ag:Agr false env b b') (f:Fwd s s') (q:Q mf m' G')
theorem OutS.next (o:OutS X env b1 s₁ Q fl s')(a:Agr false env b b1)(f:Fwd s s₁):OutS X env b s Q fl s':=by cases o with | mk mf m' G' b' h1 h2 h3 h4 h5 h6 h7=>exact .mk mf m' G' b' h1 h2 h3 h4 (a.trans h5) (f.trans h6) h7
structure HyS (X:Cx)(n:Nat)(sc:Scope)(env:Env)(A:Around)(b:Bs)(m:M)(G:Gh)(s:Shared):Prop where
 hy:Hy X n sc env A b m G s
 hl:Lay X false env b
theorem HyS.next (h:HyS X n sc env A b m G s)(hr:Rep X b' G' s'.heap)(hf:Frm env b' s'.heap m')(hl:Lay X false env b')(ag:Agr false env b b'):HyS X n sc env A b' m' G' s':=
 ⟨⟨h.hy.he,h.hy.hA,ag.base h.hl h.hy.hb,hr,hf⟩,hl⟩
theorem HyS.here (h:HyS X n sc env A b m G s)(hy:Hy X n sc env A b m G' s'):HyS X n sc env A b m G' s':=⟨hy,h.hl⟩
theorem HyS.out (h:HyS X n sc env A b m G s)(hy:Hy X n sc env A b m G' s')(hfl:FlR s'.heap mf fl)(f:Fwd s s')(q:Q mf m G'):OutS X env b s Q fl s':=.mk mf m G' b hfl hy.hr hy.hf h.hl .refl f q
structure SnS (X:Cx)(n:Nat)(sc:Scope)(st:Stmt)(m:M)(G:Gh)(Q:QS):Prop where
 go:∀{env:Env} {A:Around} {b:Bs} {s:Shared},HyS X n sc env A b m G s->wpAny (model X.prog X.w) A (exec st env) (OutS X env b s Q) NoE s
structure SnB (X:Cx)(n:Nat)(sc:Scope)(sts:List Stmt)(m:M)(G:Gh)(Q:QS):Prop where
 go:∀{env:Env} {A:Around} {b:Bs} {s:Shared},HyS X n sc env A b m G s->wpAny (model X.prog X.w) A (execs sts env) (OutS X env b s Q) NoE s
inductive Then (X:Cx)(n:Nat)(sc:Scope)(sts:List Stmt)(Q:QS):Fl->M->Gh->Prop where
 | next {m:M} {G:Gh} (h:SnB X n sc sts m G Q):Then X n sc sts Q .next m G
 | brk {m:M} {G:Gh} (h:Q .brk m G):Then X n sc sts Q .brk m G
 | cont {m:M} {G:Gh} (h:Q .cont m G):Then X n sc sts Q .cont m G
 | ret {v:Val} {m:M} {G:Gh} (h:Q (.ret v) m G):Then X n sc sts Q (.ret v) m G
theorem SnB.nil (q:Q .next m G):SnB X n sc [] m G Q:=⟨λh=>wpAny_execs_nil (h.out h.hy .next .refl q)⟩
theorem SnB.cons {Q:QS}{st:Stmt}{sts:List Stmt}(h:SnS X n sc st m G (Then X n sc sts Q)):SnB X n sc (st::sts) m G Q:=⟨λhs=>
 wpAny_execs_cons (zA (h.go hs) λfl s₁ o=>by
  cases o with | mk mf m₁ G1 b1 hfl hr1 hf1 hl1 ag f₁ hq=>
  cases hq with
  | next h=>cases hfl;exact zA (h.go (hs.next hr1 hf1 hl1 ag)) λ_ _ q=>q.next ag f₁
  | brk h=>cases hfl;exact .mk _ m₁ G1 b1 .brk hr1 hf1 hl1 ag f₁ h
  | cont h=>cases hfl;exact .mk _ m₁ G1 b1 .cont hr1 hf1 hl1 ag f₁ h
  | ret h=>cases hfl with | ret hv=>exact .mk _ m₁ G1 b1 (.ret hv) hr1 hf1 hl1 ag f₁ h)⟩
theorem SnS.ret (h:Sn X n sc e m G λv G'=>Q (.ret v) m G'):SnS X n sc (.Return (some e) pos) m G Q:=⟨λhs=>
 wpAny_Return_some (h.use hs.hy λy s₁ v G1 hv hy1 f₁ q=>hs.out hy1 (.ret hv) f₁ q)⟩
theorem SnS.brk (q:Q .brk m G):SnS X n sc (.Break pos) m G Q:=⟨λhs=>wpAny_Break (hs.out hs.hy .brk .refl q)⟩
theorem SnS.cont (q:Q .cont m G):SnS X n sc (.Continue pos) m G Q:=⟨λhs=>wpAny_Continue (hs.out hs.hy .cont .refl q)⟩
theorem SnS.ifs (h:SnT X n sc t m G λr G'=>Two (SnB X n sc a m G' Q) (SnB X n sc c m G' Q) r):SnS X n sc (.If t a c pos) m G Q:=⟨λhs=>
 wpAny_If (h.use hs.hy λr s₁ G1 hy1 f₁ q=>by
  cases r
  ·exact zA ((q.2 rfl).go (hs.here hy1)) λ_ _ q=>q.next .refl f₁
  ·exact zA ((q.1 rfl).go (hs.here hy1)) λ_ _ q=>q.next .refl f₁)⟩
theorem zIP (h:Zq X sc env):interactive env=false:=by unfold interactive;rw[h.scope];rw[h.kind];rfl
theorem SnS.expr (h:Sn X n sc e m G λv G'=>Q .next m G')(hsw:∀env,swapsWith e .none pos.line env=pure false:=by intro _;rfl):SnS X n sc (.Expr e pos) m G Q:=⟨λhs=>
 wpAny_Expr_any (h.use hs.hy λy s₁ v G1 hv hy1 f₁ q=>hs.out hy1 .next f₁ q) (zIP hs.hy.he) (hsw _)⟩
theorem St.out (h:St X loc env b G s m s')(hl:loc=false)(q:Q .next m G):OutS X env b s Q .next s':=by subst hl;cases h with | mk b' h1 h2 h3 h4 h5=>exact .mk .next m G b' .next h1 h2 h3 h4 h5 q
inductive PutP (sc:Scope)(id:Str)(m:M)(Q:QS)(v:Val)(G':Gh):Prop where
 | mk (m':M) (h1:Put false sc id v m m') (h2:Q .next m' G')
inductive BndP (X:Cx)(sc:Scope)(tgt:Expr)(m:M)(Q:QS)(v:Val)(G':Gh):Prop where
 | mk (m':M) (h1:Bnd X false sc tgt v m m') (h2:Q .next m' G')
inductive BT (X:Cx)(n:Nat)(sc:Scope)(tgt:Expr)(v:Val)(m:M)(body:List Stmt)(G:Gh)(Q:QS):Prop where
 | mk (m':M) (h1:Bnd X false sc tgt v m m') (h2:SnB X n sc body m' G Q)
theorem SnS.assign {Q:QS}{id:Str}{p pos:Pos}(h:Sn X n sc e m G (PutP sc id m Q))
  (hsw:∀env,swapsWith e (some (.Name id p)) pos.line env=pure false:=by intro _;rfl):SnS X n sc (.Assign [.Name id p] e pos) m G Q:=⟨λhs=>
 wpAny_Assign_Name (h.use hs.hy λy s₁ v G1 hv hy1 f₁ q=>by
  obtain⟨m',hb,q⟩:=q;exact zA (hb.go hy1.he hs.hl hy1.hr hy1.hf hv) λ_ _ o=>(o.next .refl f₁).out rfl q) (hsw _)⟩
theorem SnS.aP (h:Sn X n sc e m G (BndP X sc (.Tuple es k p) m Q))
  (hsw:∀env,swapsWithSole [.Tuple es k p] e pos.line env=pure false:=by intro _;rfl) (hw:∀env,swappedStores [.Tuple es k p] e env=pure .none:=by intro _;rfl) :
  SnS X n sc (.Assign [.Tuple es k p] e pos) m G Q:=⟨λhs=>
 Assign_Tuple (h.use hs.hy λy s₁ v G1 hv hy1 f₁ q=>by
  obtain⟨m',hb,q⟩:=q;exact zA (hb.go hy1.he hy1.hA.hd hs.hl hy1.hr hy1.hf hv) λ_ _ o=>(o.next .refl f₁).out rfl q) (hsw _) (hw _)⟩
def kept (b b':Bs):Prop:=∀a o,b a=some o->b' a=some o
inductive OutI (X:Cx)(tgt:Expr)(b:Bs)(s:Shared)(K:List Val->(Gh->Prop)->Gh->Prop)(I:Value)(s':Shared):Prop where
 | mk (xs:List Val) (gd:Gh->Prop) (G':Gh) (b':Bs) (hid:Addr->Prop) (St:Nat->Bs->Prop) (it:Iter X s'.heap tgt I xs gd hid St) (hn:∀a,hid a->b a=none) (hr:Rep X b' G' s'.heap) (kb:kept b b') (st:St 0 b') (f:Fwd s s') (q:K xs gd G')
structure SnI (X:Cx)(n:Nat)(sc:Scope)(iter tgt:Expr)(m:M)(G:Gh)(K:List Val->(Gh->Prop)->Gh->Prop):Prop where
 go:∀{env:Env} {A:Around} {b:Bs} {s:Shared},Hy X n sc env A b m G s ->
  wpAny (model X.prog X.w) A (eval iter env) (λx s₁=>wpAny (model X.prog X.w) A (pyIter x) (OutI X tgt b s K) NoE s₁) NoE s
theorem Rep.push (r:Rep X b G h)(o:Obj)(hf:o.isFreed=false:=by rfl):Rep X (b.put h.objs.size o) G (h.push o)/\kept b (b.put h.objs.size o)/\(∀a x,h.get? a=some x->(h.push o).get? a=some x):=by have kp:∀a x,h.get? a=some x->(h.push o).get? a=some x:=λa x e=>get?_push_of_some _ e;have hn:=zj (h:=h) (le_refl _);exact⟨r.hide kp hn (get?_push_size _ hf),λa x e=>(Bs.put_ne λq=>by rw[q] at e;rw[r.noB hn] at e;cases e).trans e,kp⟩
inductive Yo (G:Gh):Val->List Val->(Gh->Prop)->Prop where
 | tup (vs:List Val):Yo G (.tup vs) vs λ_=>True
 | list {a:Addr} {xs:List Val}:G a=some (.list xs)->Yo G (.ref a) xs λG=>G a=some (.list xs)
inductive SeqP (K:List Val->(Gh->Prop)->Gh->Prop)(v:Val)(G':Gh):Prop where
 | mk (xs:List Val) (gd:Gh->Prop) (h1:Yo G' v xs gd) (h2:K xs gd G')
theorem SnI.seq {K:List Val->(Gh->Prop)->Gh->Prop}(h:Sn X n sc e m G (SeqP K)):SnI X n sc e tgt m G K:=⟨λhy=>h.use hy λy s₁ v G1 hv hy1 f₁ q=>by
 obtain⟨xs,gd,hS,q⟩:=q;have fr:=hy1.hr.noB (zj (le_refl _));cases hS with
 | tup vs=>
  refine wm hv.aT λt k ys eq3 e hs=>?_;subst eq3;refine wpAny_pyIter_tuple ⟨_,e,rfl,_,rfl⟩ ?_;refine w3 (hy1.hr.push { cls:=.type "tuple_iterator",data:=.fields #[.ref t,.int 0 0] }) λr' kb kp=>?_;exact .mk xs _ G1 _ _ _ (zG9 (kp _ _ e) (hs.mono (.of_keep kp))) (λa q=>by subst q;exact fr) r' kb ⟨_,Bs.aE,rfl,rfl⟩ (f₁.trans ⟨.of_keep kp,rfl,rfl⟩) q
 | list e=>
  rw[hv.aC];refine wn (zO hy1.hr e) λys k hl ho hs _=>?_;refine wpAny_pyIter_list ⟨_,ho,rfl,k,rfl⟩ ?_;obtain⟨r',kb,kp⟩:=hy1.hr.push { cls:=.type "list_iterator",data:=.fields #[.ref _,.int 0 0] };exact .mk xs _ G1 _ _ _ zEy (λa q=>by subst q;exact fr) r' kb ⟨_,Bs.aE,rfl,rfl⟩ (f₁.trans ⟨.of_keep kp,rfl,rfl⟩) q⟩
theorem uK {id:String}{es:List Expr}(hx:Zv X)(h1:id∈(["len","list","sorted","any","all","sum","int","abs","min","set","range","enumerate","zip","isinstance","bool"]:List String))(h2:id∈(["list","int","set","range","enumerate","zip","bool"]:List String))
  (hk:Zf sc (Str.ofString id)) (hn:Zj es) {Q:List Val->Gh->Prop} {R:Value->Shared->Prop} (h:SnEs X n sc es m G Q) (hy:Hy X n sc env A b m G s)
  (k:∀ys s₁ vs G1,VRs s₁.heap vs ys->Hy X n sc env A b m G1 s₁->Fwd s s₁->Q vs G1->wpAny (model X.prog X.w) A (call (.type id) ys) R NoE s₁) :
  wpAny (model X.prog X.w) A (eval (.Call (.Name (Str.ofString id) p) es [] pos) env) R NoE s:=
 PyProof.Rows.Call_ (wpAny_Name (zAK hy.he hy.hb hy.hr hk (hx.mg _ h1) (hx.ty _ h2) (PyProof.Rows.callWith_type (first:=[]) (hn.any _ _) (wh hn h hy k))) (hk.bL hy.he))
theorem SnI.enum {x:Expr}{es:List Expr}{k:Nat}{K:List Val->(Gh->Prop)->Gh->Prop}(hx:Zv X)(hk:Zf sc "enumerate")(hn:Zj [x])
  (h:SnEs X n sc [x] m G λvs G'=>∃a xs,vs=[.ref a]/\G' a=some (.list xs)/\K (zBg xs) (λG=>G a=some (.list xs)) G'):SnI X n sc (.Call (.Name "enumerate" p) [x] [] pos) (.Tuple es k tp) m G K:=⟨λ{env A b s} hy=>
 uK hx () () hk hn h hy λys s₁ vs G1 hv hy1 f₁ q=>by
  obtain⟨a,xs,rfl,e,q⟩:=q;obtain⟨y,rfl,hv'⟩:=hv.af;rw[hv'.aC];have hr1:=hy1.hr;obtain⟨ys,kk,hl,ho,hs,_⟩:=zO hr1 e;refine call_enumerate_1 ho λh' he' hit hz kp=>wpAny_pyIter_enum he' ?_;obtain⟨oi,hoi,hci,hdi⟩:=hit;have n0:=zj (h:=s₁.heap) (le_refl _);have n1:=zj (h:=s₁.heap) (le_succ _);have hne:s₁.heap.objs.size+1≠s₁.heap.objs.size:=Nat.succ_ne_self _;have cases3:∀{a:Addr} {oa oI:Obj},((b.put s₁.heap.objs.size oi).put (s₁.heap.objs.size+1) oI) a=some oa->(a=s₁.heap.objs.size+1/\oa=oI)\/(a=s₁.heap.objs.size/\oa=oi)\/b a=some oa:=λ{a oa oI} ea=>by
   by_cases q:a=s₁.heap.objs.size+1
   ·subst q;rw[Bs.aE] at ea;cases ea;exact .inl qA
   ·rw[Bs.put_ne q] at ea;by_cases q':a=s₁.heap.objs.size
    ·subst q';rw[Bs.aE] at ea;cases ea;exact .inr (.inl qA)
    ·rw[Bs.put_ne q'] at ea;exact .inr (.inr ea)
  obtain⟨r',tk⟩:=hr1.step (W:=λ_=>False) (b':=(b.put s₁.heap.objs.size oi).put (s₁.heap.objs.size+1) _) (h':=h') (λ_ f=>f.elim) (λa o _ ea=>kp a o ea) (λa oa ea=>by
   rcases cases3 ea with ⟨rfl,rfl⟩ | ⟨rfl,rfl⟩ | ea
   ·exact he'
   ·exact hoi
   ·exact kp a oa (hr1.keep _ _ ea)) λa oa ea=>by
   rcases cases3 ea with ⟨rfl,rfl⟩ | ⟨rfl,rfl⟩ | ea
   ·exact .inr (.inl n1)
   ·exact .inr (.inl n0)
   ·exact .inl (by rw[ea];rfl)
  refine .mk (zBg xs) _ G1 _ _ _ (zEz hne) (λa q=>?_) r' (λa o ea=>?_) ⟨⟨_,Bs.aE⟩,oi,(Bs.put_ne (Ne.symm hne)).trans Bs.aE,hci,hdi⟩ (f₁.trans ⟨tk,rfl,rfl⟩) q
  ·rcases q with rfl | rfl
   ·exact hr1.noB n1
   ·exact hr1.noB n0
  ·exact(Bs.put_ne λq=>by rw[q] at ea;rw[hr1.noB n1] at ea;cases ea).trans ((Bs.put_ne λq=>by rw[q] at ea;rw[hr1.noB n0] at ea;cases ea).trans ea)⟩
theorem zCu (h:k<cap):Builtin.Range.rangeFitsLong (k:Int)=true:=Bool.and_eq_true_iff.mpr ⟨decide_eq_true (Int.le_trans () (natCast_nonneg k)),decide_eq_true (lt_trans (Int.ofNat_lt.mpr h) (by unfold cap;decide))⟩
theorem zCi (k:Nat):Builtin.Range.rangeSize 0 k 1=k:=by
 unfold Builtin.Range.rangeSize;rw[if_pos ()];cases k with
 | zero=>rfl
 | succ k=>rw[if_pos (Int.natCast_pos.mpr (succ_pos k))];rw[Int.ediv_one];rw[Int.sub_zero];rw[Int.sub_add_cancel]
theorem zER (h:k<cap):Builtin.Range.small 0 k 1=true:=by unfold Builtin.Range.small;rw[zCi,zCu h,if_pos (),show (k:Int)+(1 - 1)=k from add_zero _,zCu h,Bool.or_true];decide
theorem SnI.range {K:List Val->(Gh->Prop)->Gh->Prop}(hx:Zv X)(hk:Zf sc "range")(hn:Zj es)
  (h:SnEs X n sc es m G λvs G'=>∃k:Nat,vs=[.int k]/\k<cap/\K (uX k) (λ_=>True) G'):SnI X n sc (.Call (.Name "range" p) es [] pos) tgt m G K:=⟨λhy=>
 uK hx () () hk hn h hy λys s₁ vs G1 hv hy1 f₁ q=>by
  obtain⟨k,rfl,hk,q⟩:=q;obtain⟨w,rfl,h1⟩:=hv.af;obtain⟨t,rfl⟩:=h1.int_inv;refine call_range_1 ?_;refine wpAny_pyIter_range (get?_push_size _ rfl) (zER hk) ?_;rw[zCi];dsimp only;have kp:∀a w,s₁.heap.get? a=some w->(s₁.heap.push { cls:=.type "range",data:=.fields #[.int 0 s₁.toks,.int k t,.int 1 (s₁.toks+1)] }).get? a=some w:=λa w e=>get?_push_of_some _ e;have r2:=hy1.hr.mono kp;generalize s₁.heap.push { cls:=.type "range",data:=.fields #[.int 0 s₁.toks,.int k t,.int 1 (s₁.toks+1)] }=H at *;obtain⟨r',kb,kp'⟩:=r2.push { cls:=.type "range_iterator",data:=.fields #[rawInt (0:Nat),rawInt ((k:Int) - (0:Nat)),rawInt 1] };exact .mk (uX k) _ G1 _ _ _ zDg (λa q=>by subst q;exact r2.noB (zj (le_refl _))) r' kb Bs.aE (f₁.trans ⟨.of_keep λa o e=>kp' a o (kp a o e),rfl,rfl⟩) q⟩
end
end
section
section
variable {X:Cx}{n:Nat}{sc:Scope}{env:Env}{A:Around}{b:Bs}{m:M}{G:Gh}{s:Shared}{e:Expr}{loc:Bool}
inductive Turn (J:M->Gh->Prop)(Q:QS):Fl->M->Gh->Prop where
 | next {m:M} {G:Gh} (h:J m G):Turn J Q .next m G
 | cont {m:M} {G:Gh} (h:J m G):Turn J Q .cont m G
 | brk {m:M} {G:Gh} (h:Q .next m G):Turn J Q .brk m G
 | ret {v:Val} {m:M} {G:Gh} (h:Q (.ret v) m G):Turn J Q (.ret v) m G
structure Yg (X:Cx)(n:Nat)(sc:Scope)(tgt:Expr)(body:List Stmt)(gd:Gh->Prop)(Q:QS)(I:List Val->M->Gh->Prop):Prop where
 turn:∀x xs m G,I (x::xs) m G->gd G/\BT X n sc tgt x m body G (Turn (I xs) Q)
 stop:∀m G,I [] m G->gd G/\Q .next m G
theorem yl {α:Type}{xs:List α}{i:Nat}{x:α}(hx:xs[i]?=some x):i<xs.length/\xs.drop i=x::xs.drop (i+1):=by obtain⟨hlt,e⟩:=List.getElem?_eq_some_iff.mp hx;exact⟨hlt,by rw[List.drop_eq_getElem_cons hlt];rw[e]⟩
theorem zDI {α:Type}{xs:List α}{i:Nat}(hx:xs[i]?=none):xs.drop i=[]:=drop_eq_nil_of_le (List.getElem?_eq_none_iff.mp hx)
inductive ForI (X:Cx)(env:Env)(b:Bs)(s s₂:Shared)(xs:List Val)(St:Nat->Bs->Prop)(I:List Val->M->Gh->Prop)(k:Nat)(s':Shared):Prop where
 | mk (i:Nat) (bi:Bs) (mi:M) (Gi:Gh) (hk:k=xs.length+1 - i) (hr:Rep X bi Gi s'.heap) (hf:Frm env bi s'.heap mi) (hl:Lay X false env bi) (st:St i bi) (ag:Agr false env b bi) (tk:TK s₂.heap s'.heap) (f:Fwd s s') (h:I (xs.drop i) mi Gi)
inductive ForP (X:Cx)(n:Nat)(sc:Scope)(tgt:Expr)(body:List Stmt)(m:M)(Q:QS)(xs:List Val)(gd:Gh->Prop)(G':Gh):Prop where
 | mk (I:List Val->M->Gh->Prop) (h1:Yg X n sc tgt body gd Q I) (h2:I xs m G')
theorem SnS.cG (h:SnI X n sc iter tgt m G (ForP X n sc tgt body m Q))
  (hs:∀env x,foldedSetIterable iter env x=pure x:=by intro _ _;rfl):SnS X n sc (.For tgt iter body [] pos) m G Q:=⟨λ{env A b s} hys=>by
 have hA:=hys.hy.hA;have he:=hys.hy.he;refine wpAny_For (zA (h.go hys.hy) λx s₁ h₁=>zA h₁ λI0 s₂ o=>?_) (hs env);cases o with | mk xs gd G2 b2 hid St it hn hr2 kb st f₂ q=>
 obtain⟨I,ok,q⟩:=q;refine codeAny_forLoop_any (ForI X env b s s₂ xs St I) (λk s' hI=>?_) (xs.length+1) (.mk 0 b2 m G2 rfl hr2 (ud hys.hy.hf f₂.tk λa o e _=>kb a o e) (ua hys.hl λa o e _=>kb a o e) st (λa o e _=>kb a o e) (.refl _) f₂ q);cases hI with | mk i bi mi Gi hk hri hfi hli sti agi tki fi hgo=>
 have keepF:∀{b':Bs},(∀a o,bi a=some o->¬hid a->b' a=some o)->(∀a o,bi a=some o->(¬∃vs,o.data=.fields vs)->b' a=some o):=λk a o e nf=>k a o e λq=>nf (it.kind sti q e);have agH:∀{b':Bs},(∀a o,bi a=some o->¬hid a->b' a=some o)->Agr false env b b':=λk a o e no=>k a o (agi a o e no) λq=>by rw[hn a q] at e;cases e
 cases hx:xs[i]? with
 | none=>
  rw[zDI hx] at hgo;obtain⟨g1,g2⟩:=ok.stop _ _ hgo;refine zS (it.stop hA.hd tki hri g1 sti hx (Q:=λr s₁=>r=none/\OutS X env b s Q .next s₁) λs₁ b1 hr1 f₁ k₁=>⟨rfl,.mk .next mi Gi b1 .next hr1 (ud hfi f₁.tk (keepF k₁)) (ua hli (keepF k₁)) (agH k₁) (fi.trans f₁) g2⟩) ?_;rintro r s₁ ⟨rfl,hout⟩;exact wpAny_execs_nil hout
 | some x=>
  obtain⟨hlt,hdrop⟩:=yl hx;rw[hdrop] at hgo;obtain⟨hgd,m',hB,hbody⟩:=ok.turn _ _ _ _ hgo;refine zS (it.item hA.hd tki hri hgd sti hx (Q:=λy s₁=>∃b1,VR s₁.heap x y/\Rep X b1 Gi s₁.heap/\Fwd s' s₁/\St (i+1) b1/\∀a o,bi a=some o->¬hid a->b1 a=some o) λy s₁ b1 h1 h2 h3 h4 h5=>⟨b1,h1,h2,h3,h4,h5⟩) ?_;rintro r s₁ ⟨y,rfl,hy⟩;refine zS hy ?_;rintro _ s2' ⟨b1,hv,hr1,f₁,st1,k₁⟩;refine zS (hB.go he hA.hd (ua hli (keepF k₁)) hr1 (ud hfi f₁.tk (keepF k₁)) hv) λ_ s3 o=>?_;cases o with | mk b₃ hr3 hf3 hl3 ag3 f3=>
  have ag':=(agH k₁).trans ag3;refine zS (hbody.go (hys.next hr3 hf3 hl3 ag')) λfl s4 o=>?_;cases o with | mk mf m4 G4 b4 hfl hr4 hf4 hl4 ag4 f4 hq=>
  have f':=(f₁.trans f3).trans f4;have next:I (xs.drop (i+1)) m4 G4->∃n,n<k/\ForI X env b s s₂ xs St I n s4:=λhI=>
   ⟨xs.length+1 - (i+1),zEv hk hlt,.mk (i+1) b4 m4 G4 rfl hr4 hf4 hl4 (it.fr st1 λa o ha e=>by
    have no:¬Own false env a:=λq=>by obtain⟨_,o',e',_⟩:=q.data hys.hl;rw[hn _ ha] at e';cases e'
    exact ag4 a o (ag3 a o e no) no) (ag'.trans ag4) (tki.trans f'.tk) (fi.trans f') hI⟩
  cases hq with
  | next hI=>cases hfl;exact next hI
  | cont hI=>cases hfl;exact next hI
  | brk hq=>cases hfl;exact .mk .next m4 G4 b4 .next hr4 hf4 hl4 (ag'.trans ag4) (fi.trans f') hq
  | ret hq=>cases hfl with | ret hv4=>exact .mk (.ret _) m4 G4 b4 (.ret hv4) hr4 hf4 hl4 (ag'.trans ag4) (fi.trans f') hq⟩
theorem SnS.d7 (I:Nat->M->Gh->Prop)(k:Nat)(h0:I k m G)
  (h:∀k m G,I k m G->SnT X n sc t m G λr G'=>Two (SnB X n sc body m G' (Turn (λm G=>∃j,j<k/\I j m G) Q)) (Q .next m G') r):SnS X n sc (.While t body [] pos) m G Q:=⟨λ{env A b s} hys=>by
 refine wpAny_While (codeAny_whileLoop (λk s'=>∃bi mi Gi,Rep X bi Gi s'.heap/\Frm env bi s'.heap mi/\Lay X false env bi/\Agr false env b bi/\Fwd s s'/\I k mi Gi) ?_ k ⟨b,m,G,hys.hy.hr,hys.hy.hf,hys.hl,.refl,.refl,h0⟩);rintro k s' ⟨bi,mi,Gi,hri,hfi,hli,agi,fi,hI⟩;have hyi:=hys.next hri hfi hli agi
 refine zS ((h k mi Gi hI).go hyi.hy) λr s₁ o=>o.elim λG1 hr1 f₁ hq1=>?_;have hy1:=hyi.here (hyi.hy.next hr1 f₁);cases r with
 | false=>exact wpAny_execs_nil (.mk .next mi G1 bi .next hr1 hy1.hy.hf hli agi (fi.trans f₁) (hq1.2 rfl))
 | true=>
  refine zS ((hq1.1 rfl).go hy1) λfl s4 o=>?_;cases o with | mk mf m4 G4 b4 hfl hr4 hf4 hl4 ag4 f4 hq=>
  have f':=(fi.trans f₁).trans f4;cases hq with
  | next hJ=>cases hfl;refine zC hJ λj hj hJ=>?_;exact⟨j,hj,b4,m4,G4,hr4,hf4,hl4,agi.trans ag4,f',hJ⟩
  | cont hJ=>cases hfl;refine zC hJ λj hj hJ=>?_;exact⟨j,hj,b4,m4,G4,hr4,hf4,hl4,agi.trans ag4,f',hJ⟩
  | brk hq=>cases hfl;exact .mk .next m4 G4 b4 .next hr4 hf4 hl4 (agi.trans ag4) f' hq
  | ret hq=>cases hfl with | ret hv4=>exact .mk (.ret _) m4 G4 b4 (.ret hv4) hr4 hf4 hl4 (agi.trans ag4) f' hq⟩
theorem SnS.bU (h:Sn X n sc e m G λv G1=>Sn X n sc o m G1 λu G2=>Sn X n sc i m G2 λw G3=>∃a es k,u=.ref a/\w=.int k/\G3 a=some (.dict es)/\es.length<cap/\Q .next m (G3.upd a (.dict (uT es k v))))
  (hsw:∀env,swapsWith e (some (.Subscript o i p)) pos.line env=pure false:=by intro _;rfl):SnS X n sc (.Assign [.Subscript o i p] e pos) m G Q:=⟨λ{env A b s} hs=>
 wpAny_Assign_Subscript (h.use hs.hy λy s₁ v G1 hv hy1 f₁ h1=>h1.use hy1 λov s₂ u G2 hu hy2 f₂ h2=>h2.use hy2 λiv s3 w G3 hw hy3 f3 h3=>by
  refine uJ h3 λa es k eq3 eq4 e hc q=>?_;subst eq3;subst eq4;rw[(hu.mono f3.tk).aC];obtain⟨t,rfl⟩:=hw.int_inv;have hr3:=hy3.hr;obtain⟨hl',kvs,hd,hes⟩:=(hr3.own _ _ e).2;refine wm (id hd) λoo ees eep hoo hxx _=>?_;have hlen:=hes.length;refine wpAny_setItem_pairs (knd:=intKind X.prog X.w) (intKind_is _ _ _ _) hd (λh' hd' hs'=>?_) (by rw[sizeLine_eq];rw[<-hlen];exact zDr hl');have kk:TK s3.heap h':=.aL hs' hoo (notT hxx.1);have hlst:(uT es k v).length<=2 * cap:=by
   have:(uT es k v).length<=es.length+1:=by
    unfold uT;split
    ·rw[length_map];exact le_succ _
    ·rw[length_append];exact le_refl _
   exact le_trans this (ui hc)
  have r':=(hr3.change (g':=.dict (uT es k v)) e rfl rfl hs' ⟨hlst,_,hd',((hes.stored k (hv.mono (f₂.trans f3).tk)).mono kk)⟩).1;have ff:Fwd s { s3 with heap:=h',toks:=s3.toks+1 }:=((f₁.trans f₂).trans f3).trans ⟨kk,rfl,rfl⟩;exact .mk .next m _ b .next r' (hs.hy.hf.mono ff.tk) hs.hl .refl ff q) (hsw _)⟩
theorem SnS.aug (hx:m x v)(h:Sn X n sc e m G λw G1=>Op2 X n (inplaceOp op) v w G1 λu G2=>∃m',Put false sc x u m m'/\Q .next m' G2):SnS X n sc (.AugAssign (.Name x p) op e pos) m G Q:=⟨λhs=>by
 refine zC (hs.hy.hf x v hx) λy hv hsl=>?_;refine wpAny_AugAssign_Name (zAC hs.hy.he hs.hy.hr hsl (h.use hs.hy λz s₁ w G1 hw hy1 f₁ h1=>?_));refine zA (h1.go hy1.hA hy1.hb hy1.hr (hv.mono f₁.tk) hw) λr s₂ o=>o.elim λu G2 hu hr2 f₂ q=>?_;refine zC q λm' hp q=>?_;have hy2:=hy1.next hr2 f₂
 exact zA (hp.go hy2.he hs.hl hy2.hr hy2.hf hu) λ_ _ o=>(o.next .refl (f₁.trans f₂)).out rfl q⟩
theorem Op2.iadd (q:Q (.int (i+j)) G):Op2 X n (inplaceOp .Add) (.int i) (.int j) G Q:=.ints λhr=>P.iadd_int (Out.here hr (.int _ _) q)
theorem vm {k:Int}{y:Value}{Q:Unit->Shared->Prop}(hr:Rep X b G s.heap)(e:G a=some (.list xs))(hk:0<=k/\k<cap)(hn:k.toNat<xs.length)(hv:VR s.heap v y)
  (h:∀s',Rep X b (G.upd a (.list (xs.set k.toNat v))) s'.heap->Fwd s s'->Q Unit.unit s') :
  wpAny (model X.prog X.w) A (setItem (.ref a) (.int k t) y) Q NoE s:=by
 refine wn (zO hr e) λitems nn hl ho hs hlen=>?_;have hL:s.heap.IsList a items:=⟨_,ho,rfl,nn,rfl⟩
 unfold setItem
 try with_reducible refine wpAny_holding ?_
 first | refine wpAny_bind (wpAny_pure ?_) | skip
 refine wpAny_bind (wpAny_sequenceKey hL.typeIs () ?_);refine wpAny_bind (wpAny_callSpecial?_slot (name:=Str.ofString "__setitem__") hL.typeIs slot_list_setitem
  (wpAny_call_entry slot_list_setitem hL.typeIs entry_list_setitem ?_ (args_list_setitem _ _ _)))
 show wpAny _ _ (Builtin.List.listSubscript? (.int k t) >>= _) _ _ s;refine wpAny_bind (wpAny_listSubscript_int (fitsIndex_of hk.1 (zKA hk.2)) ?_);obtain⟨j,rfl⟩:=Int.eq_ofNat_of_zero_le hk.1;rw[toNat_natCast] at hn h;have hj:j<items.size:=hlen▸hn;have hx':items[j]?=some items[j]:=Array.getElem?_eq_getElem hj;show wpAny _ _ ((seqItemAt a j >>= λr=>pure (r.map (j,·))) >>= _) _ _ s;refine wpAny_bind (wpAny_bind (wpAny_seqItemAt ho rfl (wpAny_pure ?_)));rw[hx'];show wpAny _ _ (setSeqItemAt a j y >>= _) _ _ s;have hD:=get?_update_self (Obj.mapSeq (·.setIfInBounds j y)) ho rfl;have sb:Heap.SameBut a s.heap (s.heap.update a (Obj.mapSeq (·.setIfInBounds j y))):=Heap.SameBut.update ..;have kk:TK s.heap (s.heap.update a (Obj.mapSeq (·.setIfInBounds j y))):=.aL sb ho (notT rfl);have fin:Q Unit.unit { s with heap:=s.heap.update a (Obj.mapSeq (·.setIfInBounds j y)) }:=by
  refine h _ (hr.change (g':=.list (xs.set j v)) e rfl rfl sb ⟨by rw[length_set];exact hl,items.setIfInBounds j y,_,hD,?_⟩).1 ⟨kk,rfl,rfl⟩;rw[Array.toList_setIfInBounds];exact(hs.mono kk).set j (hv.mono kk)
 refine wpAny_bind (wpAny_setSeqItemAt ho rfl ?_)
 first
  | exact wpAny_bind (wpAny_pure (wpAny_pure ⟨.none,rfl,wpAny_pure fin⟩))
  | exact wpAny_pure ⟨.none,rfl,wpAny_pure fin⟩
theorem SnS.cy (h:Sn X n sc o m G λu G1=>Sn X n sc i m G1 λw G2=>∃a xs k j,u=.ref a/\w=.int k/\G2 a=some (.list xs)/\(0<=k/\k<cap)/\xs[k.toNat]?=some (.int j) /\
   Sn X n sc e m G2 λv G3=>∃d,v=.int d/\G3 a=some (.list xs)/\Q .next m (G3.upd a (.list (xs.set k.toNat (.int (j+d))))))
  (ha:∀ov iv new,augStore i ov iv new=(do holding [new,ov,iv] (setItem ov iv new);release [new,ov,iv] [];pure .next):=by intro _ _ _;rfl):SnS X n sc (.AugAssign (.Subscript o i p) .Add e pos) m G Q:=⟨λ{env A b s} hs=>
 PySem.wpAny_AugAssign_SubscriptAny (h.use hs.hy λov s₁ u G1 hu hy1 f₁ h1=>h1.use hy1 λiv s₂ w G2 hw hy2 f₂ h2=>by
  obtain⟨a,xs,k,j,rfl,rfl,e1,hk,hj,h2⟩:=h2;rw[(hu.mono f₂.tk).aC];obtain⟨t,rfl⟩:=hw.int_inv;obtain⟨items,nn,hl',hoo,hs',_⟩:=zO hy2.hr e1;obtain⟨y,hy,hvr⟩:=hs'.get hj;refine wpAny_getItem_list ⟨_,hoo,rfl,nn,rfl⟩ hk.1 (zKA hk.2) (by rw[<-getElem?_toList];exact hy) ?_;refine h2.use hy2 λz s3 v G3 hv hy3 f3 h3=>?_;obtain⟨d,rfl,e3,q⟩:=h3;obtain⟨u1,rfl⟩:=hvr.int_inv;obtain⟨u2,rfl⟩:=hv.int_inv;refine P.iadd_int (vm (s:={ s3 with toks:=s3.toks+1 }) hy3.hr e3 hk (List.getElem?_eq_some_iff.mp hj).1 (.int _ _) λs' r' f'=>?_);have ff:Fwd s s':=((f₁.trans f₂).trans f3).trans (Fwd.trans (s₁:={ s3 with toks:=s3.toks+1 }) ⟨.refl _,rfl,rfl⟩ f');exact .mk .next m _ b .next r' (hs.hy.hf.mono ff.tk) hs.hl .refl ff q) ha⟩
theorem Sn.dX (h:∀a,G a=Option.none->Q (.ref a) (G.upd a (.dict []))):Sn X n sc (.Dict [] [] pos) m G Q:=⟨λ{env A b s} hy=>by
 refine wpAny_Dict_empty ?_;have hn:=zj (h:=s.heap) (le_refl _);have kp:∀a o,s.heap.get? a=some o->(s.heap.push { cls:=.type "dict",data:=.dict #[] }).get? a=some o:=λa o e=>get?_push_of_some _ e;exact .mk (.ref _) _ (.ref _) (hy.hr.alloc (g:=.dict []) kp hn (hlow hy.hb hy.hr) ⟨zero_le _,[],Heap.DictOf.new _,.nil⟩ rfl) ⟨.of_keep kp,rfl,rfl⟩ (h _ (hy.hr.dA hn))⟩
theorem zAz {M:Model}{E:Value->Shared->Prop}{o:Obj}{vs:Array Value}{Q:Bool->Shared->Prop}(hc:env.code=.ref a)(ho:s.heap.get? a=some o)(hd:o.data=.fields vs)(h:∀r,Q r s):wpAny M A (inMainModule env) Q E s:=by
 unfold inMainModule;rw[hc];show wpAny M A (fieldsOf (.ref a) >>= _) Q E s;refine wpAny_bind (wpAny_fieldsOf ho hd ?_);split
 ·exact wpAny_bind (wpAny_askSetting (wpAny_pure (h _)))
 ·exact wpAny_pure (h _)
theorem zAy {M:Model}{E:Value->Shared->Prop}{Q:Value->Shared->Prop}(h:∀led:Bool,Q (.ref s.heap.objs.size) { s with heap:=s.heap.push { cls:=.type "set",dict:=Option.none,data:=.set #[] 0 (.fresh 0 0 led) } }):wpAny M A (newSet (.type "set")) Q E s:=by unfold newSet setsByText;refine wpAny_bind (wpAny_bind (wpAny_askSetting (wpAny_pure ?_)));exact wpAny_newObj_type (h _) (by size_fits)
theorem Sn.cV {i:Int}{k:Nat}(hi:0<=i/\i<32)(h:∀a,G a=Option.none->Q (.ref a) (G.upd a (.set (λj=>decide (j=i)) false))):Sn X n sc (.Set [.Constant (.int i) k p] 0 pos) m G Q:=⟨λ{env A b s} hy=>by
 refine wm hy.he.code λca co cvs hc1 hc2 hc3=>?_;rw[arm_eval_Set];refine wpAny_bind (wpAny_standAt (wpAny_bind (zAz hc1 (hy.hb.kin hy.hr _ _ hc2) hc3 λr=>?_)));have e0:displayRoad 0 [Expr.Constant (.int i) k p]=.oneByOne:=rfl;rw[e0];unfold setDisplay;rw[if_neg ()];refine wpAny_bind (zAy λled=>?_);have hO:=uE (Q:=λv G'=>∃a,v=.ref a/\G a=Option.none/\G'=G.upd a (.set (λ_=>false) true)) (led:=led) hy.hb hy.hr λa ha=>⟨a,rfl,ha,rfl⟩
 cases hO with | mk v G1 hv hr1 f₁ q=>
 refine zU q λa eq1 ha eq3=>?_;subst eq1;subst eq3
 have:a=s.heap.objs.size:=by cases hv;rfl
 subst this;have e1:=Gh.aA G s.heap.objs.size (.set (λ_=>false) true);have e3:(starEach [Expr.Constant (.int i) k p] env).map (λ(x:Bool×Sem Value)=>(x.1,do let v <-x.2;standAt pos;pure v))=[(false,do let v <-eval (.Constant (.int i) k p) env;standAt pos;pure v)]:=rfl;dsimp only;rw[e3];generalize ht:(do let v <-eval (Expr.Constant (.int i) k p) env;standAt pos;pure v:Sem Value)=t;simp only [length_cons,length_nil,findIdx?_cons,List.findIdx?_nil,false_eq_true,if_false,Option.map_none,Option.getD_none,zero_add,List.take_succ_cons,List.take_zero,List.drop_succ_cons,List.drop_zero,map_cons,List.map_nil,List.forIn_nil,gt_iff_lt,show ¬(30<1) by decide];refine wpAny_bind (wpAny_holding (wpAny_bind (wpAny_evalAll_cons ?_)));rw[<-ht];refine wpAny_bind (wpAny_Constant_int (wpAny_bind (wpAny_standAt (wpAny_pure (wpAny_evalAll_nil ?_)))));refine wpAny_bind (wpAny_holding (wpAny_bind ?_));rw[forIn_cons];refine wpAny_bind (wpAny_bind ?_);unfold setAdd;refine wpAny_holding (wpAny_bind (wpAny_pyHash_int ?_));refine ww (X:=X) (s:=⟨_,_,_,_,_⟩) (hr1.own _ _ e1).2.1 hi λh' sb i'=>?_;refine wpAny_pure (wpAny_pure ?_);rw[if_neg ()];refine wpAny_pure (wpAny_bind (wpAny_pure (wpAny_pure (wpAny_pure ?_))));obtain⟨r',tk'⟩:=hr1.change (g':=.set _ false) e1 rfl rfl sb ⟨i',λq=>nomatch q⟩;have e2:((G.upd s.heap.objs.size (.set (λ_=>false) true)).upd s.heap.objs.size (.set (λj=>false||decide (j=i)) false))=G.upd s.heap.objs.size (.set (λj=>decide (j=i)) false):=by
  funext z
  unfold Gh.upd;split<;>rfl
 exact .mk (.ref _) _ (.ref _) r' ⟨f₁.tk.trans tk',f₁.g,f₁.o⟩ (by rw[e2];exact h _ ha)⟩
end
end
section
section
variable {X:Cx}{n:Nat}{sc:Scope}
noncomputable def putL (nm:Str)(h:Int)(key v:Value)(l:List DictEntry):List DictEntry:=List.rec [⟨h,key,v⟩] (λe l r=>bif e.key.isStr nm then { e with val:=v }::l else e::r) l
section
variable {nm g:Str}{h:Int}{key v:Value}{e:DictEntry}{l:List DictEntry}{tk:Tok}
theorem zBQ (q:e.key.isStr nm=true):putL nm h key v (e::l)={ e with val:=v }::l:=by show cond _ _ _=_;rw[q];rfl
theorem zBS (q:e.key.isStr nm=false):putL nm h key v (e::l)=e::putL nm h key v l:=by show cond _ _ _=_;rw[q];rfl
noncomputable abbrev fnd (nm:Str)(l:List DictEntry):Option DictEntry:=l.find? λe=>e.key.isStr nm
theorem zFL (q:e.key.isStr nm=true):fnd nm (e::l)=some e:=List.find?_cons_of_pos q
theorem zC1 (q:e.key.isStr nm=false):fnd nm (e::l)=fnd nm l:=List.find?_cons_of_neg (p:=λe:DictEntry=>e.key.isStr nm) (not_eq_true _▸q)
theorem zGN (l:List DictEntry):(putL nm h key v l).length=l.length+(if (fnd nm l).isSome then 0 else 1):=by
 induction l with
 | nil=>rfl
 | cons e l ih=>
  cases q:e.key.isStr nm with
  | true=>rw[zBQ q];rw[zFL q];rfl
  | false=>rw[zBS q];rw[zC1 q];rw[length_cons];rw[ih];rw[length_cons];rw[add_right_comm]
theorem zGM (l:List DictEntry):(putL nm h (.str nm tk) v l).any (·.refKey)=l.any (·.refKey):=by
 induction l with
 | nil=>rfl
 | cons e l ih=>
  cases q:e.key.isStr nm with
  | true=>rw[zBQ q];rfl
  | false=>rw[zBS q];rw[any_cons];rw[ih];rw[any_cons]
theorem zDh:(Value.str nm tk).isStr nm=true:=beq_self_eq_true nm
theorem vj (l:List DictEntry):∃e,fnd nm (putL nm h (.str nm tk) v l)=some e/\e.val=v:=by
 induction l with
 | nil=>exact⟨_,zFL zDh,rfl⟩
 | cons e l ih=>
  cases q:e.key.isStr nm with
  | true=>rw[zBQ q];exact⟨{ e with val:=v },zFL q,rfl⟩
  | false=>rw[zBS q];rw[zC1 q];exact ih
theorem zFB {x:Value}:x.isStr a=true->x.isStr b=true->a=b:=by
 cases x with
 | str s t=>exact λh1 h2=>(eq_of_beq (show (s == a)=true from h1)).symm.trans (eq_of_beq (show (s == b)=true from h2))
 | _=>exact λh=>Bool.noConfusion h
theorem zBR (hne:g≠nm)(l:List DictEntry):fnd g (putL nm h (.str nm tk) v l)=fnd g l:=by
 induction l with
 | nil=>exact zC1 (beq_eq_false_iff_ne.mpr (Ne.symm hne))
 | cons e l ih=>
  cases q:e.key.isStr nm with
  | true=>
   have z:e.key.isStr g=false:=Bool.eq_false_iff.mpr λz=>hne (zFB z q);rw[zBQ q];rw[zC1 z];exact zC1 z
  | false=>
   rw[zBS q];cases z:e.key.isStr g with
   | true=>rw[zFL z];rw[zFL z]
   | false=>rw[zC1 z];rw[zC1 z];rw[ih]
theorem zHz (l:List DictEntry):putL nm h key v l=match l.findIdx? (λe=>e.key.isStr nm) with
   | some i=>l.modify i λe=>{ e with val:=v }
   | none=>l++[⟨h,key,v⟩]:=by
 induction l with
 | nil=>rfl
 | cons e l ih=>
  rw[findIdx?_cons];cases q:e.key.isStr nm with
  | true=>exact zBQ q
  | false=>
   rw[zBS q];rw[ih];cases l.findIdx? (λe=>e.key.isStr nm)<;>rfl
end
theorem zGL {nm:Str}{h:Int}{key v:Value}{cc:Value}{d:Option Addr}{es:Array DictEntry}{k:Nat}{sl:Array (Option Value)}:∃k',Obj.putName nm h key v ⟨cc,d,.dict es k,sl⟩=⟨cc,d,.dict (putL nm h key v es.toList).toArray k',sl⟩:=by
 rw[Obj.putName_eq];obtain⟨l⟩:=es;unfold Obj.putNameByArray;dsimp only;rw[zHz];rw[List.findIdx?_toArray];cases l.findIdx? (λe=>e.key.isStr nm) with
 | some i=>exact⟨k,by simp⟩
 | none=>exact⟨k+1,by simp⟩
theorem zAk {h:Int}{tk:Tok}{v:Value}{es:Array DictEntry}{k:Nat}:lookIn nm ⟨.type "dict",none,.dict (putL nm h (.str nm tk) v es.toList).toArray k,#[]⟩=some (some v):=by refine zC (vj (nm:=nm) (h:=h) (tk:=tk) (v:=v) es.toList) λe h1 h2=>?_;unfold lookIn;dsimp only;rw[show List.find? (λx=>x.key.isStr nm) (putL nm h (Value.str nm tk) v es.toList)=some e from h1];exact congrArg (λx=>some (some x)) h2
theorem zCW (hne:g≠nm):lookIn g ⟨.type "dict",none,.dict (putL nm h (.str nm tk) v es.toList).toArray k,#[]⟩=lookIn g ⟨.type "dict",none,.dict es k',#[]⟩:=by unfold lookIn;dsimp only;rw[show List.find? (λx=>x.key.isStr g) (putL nm h (Value.str nm tk) v es.toList)=List.find? (λx=>x.key.isStr g) es.toList from zBR hne es.toList];rw[zGM]
theorem Rep.bM {b:Bs}{k:Cls}{fs fs':Fld->Option Val}{ox od:Obj}(r:Rep X b G h)(e:G a=some (.inst k fs))(hox:h.get? a=some ox)(hd:ox.dict=some d)(hod:h.get? d=some od)(ht:¬IsT od)(hs:Heap.SameBut d h h')(i':Is X h' a (.inst k fs')) :
  Rep X b (G.upd a (.inst k fs')) h'/\TK h h':=by
 have tk:TK h h':=.aL hs hod ht;refine w3 (r.dsep a k fs ox d e hox hd) λd1 d2 d3=>?_;have nG:∀x g,G x=some g->x≠d:=λx g e' q=>by rw[q] at e';rw[d2] at e';cases e'
 have had:a≠d:=nG a _ e;have key:∀{y c0 f0 o},G.upd a (.inst k fs') y=some (.inst c0 f0)->h'.get? y=some o->∃c1 f1,G y=some (.inst c1 f1)/\h.get? y=some o:=λ{y c0 f0 o} q1 q2=>by
  by_cases q:y=a
  ·subst q;exact⟨k,fs,e,(hs.2 _ had).symm.trans q2⟩
  ·rw[Gh.aD _ _ q] at q1;exact⟨c0,f0,q1,(hs.2 y (nG y _ q1)).symm.trans q2⟩
 refine⟨⟨λx o ex=>(hs.2 x λq=>by rw[q] at ex;rw[d1] at ex;cases ex).trans (r.keep _ _ ex),λx g ex=>?_,λx g ex=>?_,λx c' fs0 o dd ex e1 e2=>?_⟩,tk⟩
 ·by_cases q:x=a
  ·rw[q];exact r.low a _ e
  ·rw[Gh.aD _ _ q] at ex;exact r.low x g ex
 ·by_cases q:x=a
  ·subst q;rw[Gh.aA] at ex;cases ex;exact⟨(r.own _ _ e).1,i'⟩
  ·rw[Gh.aD _ _ q] at ex;refine⟨(r.own x g ex).1,(r.own x g ex).2.move tk (λo eo=>(hs.2 x (nG x g ex)).trans eo) λo dd eo ed od' eod=>(hs.2 dd ?_).trans eod⟩;refine zU ((r.own x g ex).2.obj) λo2 eo2 _ ed2=>?_;rw[eo2] at eo;cases eo;revert ed2;cases g with
   | inst c' fs0=>exact λ_ q'=>q (d3 x _ _ _ ex eo2 (q'▸ed))
   | _=>intro ed2;rw[ed2 rfl] at ed;cases ed
 ·refine vq (key ex e1) λc1 f1 g1 g2=>?_;refine w3 (r.dsep x c1 f1 o dd g1 g2 e2) λp1 p2 p3=>?_;refine⟨p1,(Gh.aD _ _ λq=>by rw[q] at p2;rw[e] at p2;cases p2).trans p2,λy c2 f2 o2 q1 q2 q3=>?_⟩;refine vq (key q1 q2) λc3 f3 g3 g4=>?_;exact p3 y c3 f3 o2 g3 g4 q3
set_option tactic.hygienic true in
theorem zCX (h:∃w,lookIn x ⟨.type "dict",none,.dict es nn,#[]⟩=some w):(!es.any (·.key.isStr x)&&es.any (·.refKey))=false/\(∀w,lookIn x ⟨.type "dict",none,.dict es nn,#[]⟩=some w->(es.toList.find? λe=>e.key.isStr x).isSome=w.isSome):=by
 obtain⟨w,h⟩:=h;unfold lookIn at h ⊢;dsimp only at h ⊢;rw[<-Array.any_toList];rw[<-Array.any_toList];split at h
 ·rename_i en he;rw[List.any_eq_true.mpr ⟨en,List.mem_of_find?_eq_some he,List.find?_some he⟩];exact⟨rfl,λw hw=>by cases hw;rw[he];rfl⟩
 ·rename_i hnone;split at h
  ·cases h
  ·rename_i z;rw[not_eq_true] at z;rw[z];rw[Bool.and_false];exact⟨rfl,λw hw=>by rw[hnone];cases hw;rfl⟩
theorem zID (hc:Z0 X)(hb:Base X b)(hr:Rep X b G s.heap)(e:G a=some (.inst k fs))(hv:VR s.heap v y)
  (h:∀h' tk,Rep X b (G.upd a (.inst k λg=>if g=f then some v else fs g)) h'->TK s.heap h'->R (.ok (.ret .none)) { s with heap:=h',toks:=tk }) :
  codeAny (model X.prog X.w) A (.call (.builtin "object.__setattr__") ⟨[.ref a,.str f.txt tk0,y],[]⟩) R s:=by
 refine vp ((hr.own _ _ e).2) λd es nn h1 h2 h3 h4=>?_;have hk:=hb.kin hr;have I0:InstAt s.heap a ⟨.ref (X.cA k),some d,.plain,#[]⟩ (X.cA k) (some ⟨.type "dict",none,.dict es nn,#[]⟩):=⟨h1,rfl,rfl,h2⟩
 have hz:es.size<=16:=le_trans h3 (zIo fs);have ht:takerIn X.K (X.cA k) f.txt=some none:=by unfold takerIn;rw[hc.no k f];rfl
 have hl:∃w:Option Value,lookIn f.txt ⟨.type "dict",none,.dict es nn,#[]⟩=some w/\w.isSome=(fs f).isSome:=by
  cases q:fs f with
  | none=>exact⟨_,(h4 f).2 q,rfl⟩
  | some w=>refine zC ((h4 f).1 w q) λz hz _=>?_;exact⟨_,hz,rfl⟩
 refine zC hl λw0 hl hw0=>?_;obtain⟨cc,hfind⟩:=zCX ⟨_,hl⟩;have hfind:=(hfind _ hl).trans hw0;refine osa_open hk I0 (hc.over k) ht λbb=>?_;refine zC (any_some (show (clsIn X.K (X.cA k)).any (·.hasDict)=true from hc.has k)) λcd hcd hd'=>?_;refine wpAny_bind (wpAny_pure (wpAny_bind (wpAny_bind (wpAny_loadPart h1 (wpAny_bind ((looks_clsIn hk hcd).here ?_))))));rw[hd'];refine wpAny_pure (a:=some d) (wpAny_bind (wpAny_pure (wpAny_bind ?_)));unfold nsSet;refine wpAny_bind (wpAny_bind (wpAny_askSetting (wpAny_pure (wpAny_bind (wpAny_mkText (wpAny_bind (wpAny_loadPart h2 ?_)))))));dsimp only;rw[aRefKeyMayBeTheName_at];rw[cc];refine wpAny_updatePart h2 ?_;generalize (if f.txt.cps.isEmpty=true then 0 else reduceHash ((model X.prog X.w).w.params.strHash f.txt.cps))=kh;obtain⟨k',hput⟩:=@zGL f.txt kh (.str f.txt s.toks) y (.type "dict") none es nn #[];have hlen:=zGN (nm:=f.txt) (h:=kh) (key:=.str f.txt s.toks) (v:=y) es.toList;rw[show es.toList.length=es.size from length_toList] at hlen;rw[hfind] at hlen;have D':(s.heap.update d (Obj.putName f.txt kh (.str f.txt s.toks) y)).get? d=some ⟨.type "dict",none,.dict (putL f.txt kh (.str f.txt s.toks) y es.toList).toArray k',#[]⟩:=by
  have:=get?_update_self (Obj.putName f.txt kh (.str f.txt s.toks) y) h2 (by rw[hput];rfl);rw[hput] at this;exact this
 have sb:Heap.SameBut d s.heap (s.heap.update d (Obj.putName f.txt kh (.str f.txt s.toks) y)):=wC;show wpAny _ _ _ _ _ { s with heap:=s.heap.update d (Obj.putName f.txt kh (.str f.txt s.toks) y),toks:=s.toks+1 };generalize s.heap.update d (Obj.putName f.txt kh (.str f.txt s.toks) y)=h9 at D' sb ⊢;refine wpAny_bind (wpAny_lookBehind D' (pastItsLine_dict (by rw[size_toArray];rw[sizeLine_eq];split at hlen<;>lia)) ?_);refine wpAny_pure ?_;have tk:TK s.heap h9:=.aL sb h2 (yE rfl);have had:a≠d:=λq=>by
  have:=(hr.dsep a k fs _ d e h1 rfl).2.1;rw[<-q] at this;rw[e] at this;cases this
 have i':Is X h9 a (.inst k λg=>if g=f then some v else fs g):=by
  refine⟨d,_,k',(sb.2 a had).trans h1,D',?_,λg=>?_⟩
  ·rw[size_toArray];rw[hlen];rw[zGq];exact add_le_add_right h3 _
  ·by_cases hg:g=f
   ·subst hg;dsimp only;rw[if_pos rfl];exact⟨λw e=>by cases e;exact⟨y,zAk,hv.mono tk⟩,λq=>nomatch q⟩
   ·dsimp only;rw[if_neg hg];rw[zCW (k':=nn) λq=>hg (Fld.bx _ _ q)];exact⟨λw e=>by refine zC ((h4 g).1 w e) λz hz hw=>?_;exact⟨z,hz,hw.mono tk⟩,(h4 g).2⟩
 obtain⟨r',_⟩:=hr.bM e h1 rfl h2 (yE rfl) sb i';exact h _ _ r' tk
theorem SnS.setAttr (hc:Z0 X)(f:Fld)(ha:attr=f.txt)(h:Sn X n sc e m G λv G1=>Sn X n sc o m G1 λu G2=>∃a k fs,u=.ref a/\G2 a=some (.inst k fs)/\Q .next m (G2.upd a (.inst k λg=>if g=f then some v else fs g)))
  (hsw:∀env,swapsWith e (some (.Attribute o attr p)) pos.line env=pure false:=by intro _;rfl):SnS X n sc (.Assign [.Attribute o attr p] e pos) m G Q:=⟨λ{env A b s} hs=>by
 subst ha;refine plainObj_wpAny_Assign_Attribute (h.two hs.hy λx y s₂ v w G2 hv hw hy2 f₂ h₂=>?_) (hsw env);refine wm h₂ λa k fs eq3 e q=>?_;subst eq3;rw[hw.aC];have hr:=hy2.hr;refine vp ((hr.own _ _ e).2) λd es nn h1 h2 h3 h4=>?_;have I0:InstAt s₂.heap a ⟨.ref (X.cA k),some d,.plain,#[]⟩ (X.cA k) (some ⟨.type "dict",none,.dict es nn,#[]⟩):=⟨h1,rfl,rfl,h2⟩
 refine set_plain (hy2.hb.kin hr) I0 (hc.setA k) (zID (s:={ s₂ with toks:=s₂.toks+1 }) hc hy2.hb hr e hv λh' tk r' t=>?_);have ff:Fwd s { s₂ with heap:=h',toks:=tk }:=f₂.trans ⟨t,rfl,rfl⟩;exact .mk .next m _ b .next r' (hs.hy.hf.mono ff.tk) hs.hl .refl ff q⟩
end
end
section
section
variable {X:Cx}{n:Nat}{sc:Scope}{env:Env}{A:Around}{b:Bs}{m:M}{G:Gh}{s:Shared}{e:Expr}{loc:Bool}
theorem zDn {K:Frag}{R:Value->Prop}(k:∀c o vs,K.lookup c=some o->o.data=.fields vs->R (.ref c)){cd:Value}:codeIn K cd q=true->R cd:=by
 cases cd with
 | ref c=>
  have k:=k c;revert k;generalize R (.ref c)=R';intro k h;unfold codeIn at h;dsimp only at h;revert h k;cases K.lookup c with
  | none=>exact λ_ h=>Bool.noConfusion h
  | some o=>
   cases o with | mk c1 d dt sl=>
   cases dt with
   | fields vs=>exact λk _=>k _ vs rfl rfl
   | _=>exact λ_ h=>Bool.noConfusion h
 | _=>exact λh=>Bool.noConfusion h
structure Yj (X:Cx)(a:Addr)(ps:List Str)(scope:Scope)(body:List Stmt):Prop where
 obj:∃o fd,X.K.lookup a=some o/\o.data=.func fd/\fd.body=.stmts body/\fd.scope=scope/\fd.closure=[]/\fd.globals=mainGlobals/\fd.builtins=builtinsNs/\codeIn X.K fd.code fd.qualname=true /\
  ∀ys:List Value,ys.length=ps.length->bindArgs fd ⟨ys,[]⟩=pure (ps.zip ys)
 co:scope.isCoroutine=false
 gen:scope.isGenerator=false
 kind:scope.kind=.function
 par:∀p∈ps,Z1 false scope p
 nd:ps.Nodup
 ok:scOK scope=true
theorem zF4:∀(names:List (Str×NameKind)) (k:Nat) (acc:List (Str×Addr)),((x,NameKind.cell)∈names\/∃ca,(x,ca)∈acc)->∃ca,(x,ca)∈cellsFrom k names acc:=by
 intro names;induction names with
 | nil=>intro k acc h;exact h.elim (λq=>nomatch q) id
 | cons p names ih=>
  intro k acc h;obtain⟨y,ky⟩:=p;unfold cellsFrom;split
  ·rename_i q;refine ih _ _ ?_;rcases h with h | ⟨ca,h⟩
   ·rcases List.mem_cons.mp h with e | h
    ·cases e;exact .inr ⟨k,.head _⟩
    ·exact .inl h
   ·exact .inr ⟨ca,.tail _ h⟩
  ·rename_i q;refine ih _ _ (h.imp (λh=>?_) id);rcases List.mem_cons.mp h with e | h
   ·cases e;exact absurd rfl q
   ·exact h
theorem zCV {α:Type}{a:α}{l:List (Str×α)}(h:(x,a)∈l):∃b,l.lookup x=some b:=by
 induction l with
 | nil=>cases h
 | cons p l ih=>
  rw[lookup_cons];split
  ·exact⟨p.2,rfl⟩
  ·rename_i q;rcases List.mem_cons.mp h with e | h
   ·subst e;rw[beq_self_eq_true] at q;cases q
   ·exact ih h
theorem u3 {names:List (Str×NameKind)}{k:Nat}(h:names.lookup x=some .cell):∃ca,(cellsFrom k names []).lookup x=some ca:=by obtain⟨ca,hm⟩:=zF4 names k [] (.inl (zZ h));exact zCV hm
theorem zGP {α β:Type}{x y:α}{b:β}{l:List (α×β)}(hp:l.Pairwise (λp q=>p.2≠q.2))(h1:(x,b)∈l)(h2:(y,b)∈l):y=x:=by
 induction l with
 | nil=>cases h1
 | cons p l ih=>
  obtain⟨q1,q2⟩:=List.pairwise_cons.mp hp;rcases List.mem_cons.mp h1 with e1 | h1<;>rcases List.mem_cons.mp h2 with e2 | h2
  ·rw[<-e1] at e2;cases e2;rfl
  ·exact absurd rfl (by have:=q1 _ h2;rw[<-e1] at this;exact this)
  ·exact absurd rfl (by have:=q1 _ h1;rw[<-e2] at this;exact this)
  ·exact ih q2 h1 h2
theorem zGz (hn:(l.map (·.1)).Nodup):∀{mm cm:Str->Option Value},
  ((x,y)∈l\/(x∉l.map (·.1)/\(kd x=some .local->mm x=some y)/\(kd x≠some .local->cm x=some y)))->(kd x=some .local->bindL kd l mm x=some y)/\(kd x≠some .local->bindC kd l cm x=some y):=by
 induction l with
 | nil=>intro mm cm h;exact(h.resolve_left λq=>nomatch q).2
 | cons p l ih=>
  intro mm cm h;obtain⟨n1,n2⟩:=List.nodup_cons.mp hn;obtain⟨z,u⟩:=p;unfold bindL bindC;refine ih n2 ?_;rcases h with h | ⟨h0,h1,h2⟩
  ·rcases List.mem_cons.mp h with e | h
   ·cases e;refine .inr ⟨n1,λhk=>?_,λhk=>?_⟩
    ·rw[if_pos hk];exact if_pos rfl
    ·rw[if_neg hk];exact if_pos rfl
   ·exact .inl h
  ·have hne:x≠z:=λq=>h0 (by rw[q];exact .head _);refine .inr ⟨λq=>h0 (.tail _ q),λhk=>?_,λhk=>?_⟩
   ·split
    ·exact(if_neg hne).trans (h1 hk)
    ·exact h1 hk
   ·split
    ·exact h2 hk
    ·exact(if_neg hne).trans (h2 hk)
theorem zFj {v:Val}{ps:List Str}{vs:List Val}{ys:List Value}(r:VRs h vs ys)(hx:(x,v)∈ps.zip vs):∃y,(x,y)∈ps.zip ys/\VR h v y:=by obtain⟨i,hi⟩:=List.mem_iff_getElem?.mp hx;rw[List.getElem?_zip_eq_some] at hi;refine zC (r.get hi.2) λy e q=>?_;exact⟨y,mem_of_getElem? (i:=i) (List.getElem?_zip_eq_some.mpr ⟨hi.1,e⟩),q⟩
structure AOc (A:Around)(n:Nat):Prop where
 hd:A.handled=none
 dep:A.depth+3 * n+19<=recursionLimit
 uni:A.units+30 * n+290<=cLine
theorem AOk.call (h:AOk A n):AOc A n:=⟨h.hd,le_trans (add_le_add_left () _) h.dep,le_trans (add_le_add_left () _) h.uni⟩
theorem AOc.deeper (h:AOc A (n+1)):AOk (A.deeper env) n:=⟨h.hd,by have:=h.dep;show A.depth+1+3 * n+20<=_;lia,by have:=h.uni;show A.units+3+30 * n+300<=_;lia⟩
theorem AOk.new {C:Addr}{ys:List Value}{kw:List (Str×Value)}(h:AOk A n):AOc (A.under (.builtin "type.__call__" ⟨.ref C::ys,kw⟩)) n:=
 ⟨h.hd,by have:=h.dep;rw[depth_under_kw];lia,by have:=h.uni;have e:(A.under (.builtin "type.__call__" ⟨.ref C::ys,kw⟩)).units<=A.units+10:=(add_le_add_left (by decide +kernel:(Code.builtin "type.__call__" ⟨[],[]⟩).cUnits<=10) A.units);lia⟩
structure Cal (X:Cx)(n:Nat)(f:Addr)(vs:List Val)(G:Gh)(Q:QE):Prop where
 go:∀{A:Around} {b:Bs} {s:Shared} {ys:List Value} {R:Result->Shared->Prop},AOc A n->Base X b->Rep X b G s.heap->VRs s.heap vs ys->(∀v s',Out X b s Q v s'->R (.ok (.ret v)) s') ->
  codeAny (model X.prog X.w) A (.call (.ref f) ⟨ys,[]⟩) R s
inductive Back (Q:QE):Fl->M->Gh->Prop where
 | ret {v:Val} {m:M} {G:Gh} (h:Q v G):Back Q (.ret v) m G
 | next {m:M} {G:Gh} (h:Q .none G):Back Q .next m G
theorem zGi {fd:FuncData}{ps:List Str}{vs:List Val}{ys:List Value}(hb:Base X b)(hr:Rep X b G s.heap)(hv:VRs s.heap vs ys)(hl:ps.length=ys.length)(hnd:ps.Nodup)(hpar:∀p∈ps,Z1 false fd.scope p)
  (he:Zq X fd.scope (callEnvC fd s.heap.objs.size a)) (kp:∀x o,s.heap.get? x=some o->h'.get? x=some o) (hm:∀x v,m x v->(x,v)∈ps.zip vs)
  (hns:h'.Ns s.heap.objs.size (bindL (callEnvC fd s.heap.objs.size a).kindOf (ps.zip ys) λ_=>none))
  (hcell:∀x c,(callEnvC fd s.heap.objs.size a).cells.lookup x=some c->h'.IsCell c (bindC (callEnvC fd s.heap.objs.size a).kindOf (ps.zip ys) (λ_=>none) x))
  (hap:(callEnvC fd s.heap.objs.size a).cells.Pairwise λx y=>x.2≠y.2) (hab:∀x c,(x,c)∈(callEnvC fd s.heap.objs.size a).cells->s.heap.objs.size<c) :
  ∃b1,(∀x o,s.heap.objs.size<=x->h'.get? x=some o->b1 x=some o)/\kept b b1/\Rep X b1 G h'/\TK s.heap h'/\Lay X false (callEnvC fd s.heap.objs.size a) b1/\Frm (callEnvC fd s.heap.objs.size a) b1 h' m:=by
 have hloc:(callEnvC fd s.heap.objs.size a).locals=s.heap.objs.size:=rfl;generalize callEnvC fd s.heap.objs.size a=env at *;generalize hL:s.heap.objs.size=L at *;have gn:∀x,L<=x->s.heap.get? x=none:=λx hx=>zj (by rw[hL];exact hx);have hb1:∀x o,L<=x->h'.get? x=some o->(λx=>if L<=x then h'.get? x else b x) x=some o:=λx o hx e=>(if_pos hx).trans e;have hb0:kept b (λx=>if L<=x then h'.get? x else b x):=λx o e=>(if_neg (λhx=>by rw[hr.noB (gn x hx)] at e;cases e)).trans e;generalize (λx=>if L<=x then h'.get? x else b x)=b1 at hb1 hb0;refine⟨λx=>if L<=x then h'.get? x else b x,λx o hx e=>(if_pos hx).trans e,λx o e=>(if_neg (λhx=>by rw[hr.noB (gn x hx)] at e;cases e)).trans e,?_⟩;have split1:∀x o,(if L<=x then h'.get? x else b x)=some o->(L<=x/\h'.get? x=some o)\/b x=some o:=λx o e=>by
  by_cases hx:L<=x
  ·rw[if_pos hx] at e;exact .inl ⟨hx,e⟩
  ·rw[if_neg hx] at e;exact .inr e
 have up:∀x o,L<=x->h'.get? x=some o->(if L<=x then h'.get? x else b x)=some o:=λx o hx e=>(if_pos hx).trans e;obtain⟨r1,tk1⟩:=hr.step (W:=λ_=>False) (b':=λx=>if L<=x then h'.get? x else b x) (h':=h') (λ_ f=>f.elim) (λx o _ e=>kp x o e)
  (λx o e=>(split1 x o e).elim (λq=>q.2) λq=>kp x o (hr.keep _ _ q)) λx o e=>(split1 x o e).elim (λq=>.inr (.inl (gn x q.1))) λq=>.inl (by rw[q];rfl)
 have H0n:∀x,L<=x->X.H0.get? x=none:=λx hx=>by
  cases q:X.H0.get? x with
  | none=>rfl
  | some o=>rw[<-gn x hx];rw[hb.kp hr _ _ q]
 refine vp hns λoL esL epL hoL hdL hsL hnL=>?_;have lloc:=up _ _ (le_refl L) hoL;refine⟨r1,tk1,⟨⟨oL,esL,epL,by rw[hloc];exact lloc,hdL,hsL⟩,by rw[hloc];exact H0n _ (le_refl _),λ_ x hx=>?_⟩,λx v hx=>?_⟩
 ·obtain⟨ca,hca⟩:=he.cel x ((he.kindOf x).symm.trans hx);refine zC (hcell x ca hca) λo' ho' hd'=>?_;have hlt:=hab x ca (zZ hca);exact⟨ca,o',_,hca,up _ _ (le_of_lt hlt) ho',hd',H0n _ (le_of_lt hlt),by rw[hloc];exact ne_of_gt hlt,λy hy=>zGP hap (zZ hca) (zZ hy)⟩
 ·refine zC (zFj hv (hm x v hx)) λy hy hvy=>?_;have hpx:=(List.of_mem_zip hy).1;have hmap:(ps.zip ys).map (·.1)=ps:=List.map_fst_zip (le_of_eq hl);obtain⟨h2,h3⟩:=zGz (kd:=env.kindOf) (mm:=λ_=>none) (cm:=λ_=>none) (by rw[hmap];exact hnd) (.inl hy);refine⟨y,hvy.mono tk1,?_⟩;rcases hpar x hpx with q | ⟨_,q⟩
  ·have q':=(he.kindOf x).trans (zQ (scOK.nd he.ok) q);exact .inl ⟨q',oL,esL,epL,by rw[hloc];exact lloc,hdL,hsL,(hnL _).trans (h2 q')⟩
  ·have q':=(he.kindOf x).trans (zQ (scOK.nd he.ok) q);obtain⟨ca,hca⟩:=he.cel _ ((he.kindOf x).symm.trans q');refine zC (hcell x ca hca) λo' ho' hd'=>?_;exact .inr ⟨.inl q',ca,o',hca,up _ _ (le_of_lt (hab x ca (zZ hca))) ho',by rw[hd'];rw[h3 (by rw[q'];exact λe=>nomatch e)]⟩
theorem Cal.def_ {ps:List Str}{body:List Stmt}{vs:List Val}(D:Yj X f ps scope body)(hl:ps.length=vs.length)(m:M)(hm:∀x v,m x v->(x,v)∈ps.zip vs)(h:SnB X n scope body m G (Back Q)):Cal X (n+1) f vs G Q:=⟨λ{A b s ys R} hA hb hr hv hR=>by
 obtain⟨o,fd,hK,hdat,hbody,hsc,hclo,hgl,hbl,hcd,hbind⟩:=D.obj;have hk:=hb.kin hr;have hlen:ps.length=ys.length:=hl.trans hv.length;subst hsc;refine codeAny_call_cells (by have:=hA.dep;lia) (hk _ _ hK) hdat (X.lim.keeps (hb.kp hr)) (codeRec_of hk hcd) hbody (hbind ys hlen.symm) hclo (λx hx=>?_) (λs₁ hc=>?_) D.co D.gen D.kind
 ·rcases D.par x.1 (List.of_mem_zip hx).1 with q | ⟨_,q⟩
  ·exact .inl (zQ (scOK.nd D.ok) q)
  ·have q':=zQ (scOK.nd D.ok) q;obtain⟨ca,hca⟩:=u3 (k:=s.heap.objs.size+1) q';exact .inr ⟨q',by rw[hca];rfl⟩
 ·refine vq hc.done λh' tk eq2 kp=>?_;subst eq2;have he:Zq X fd.scope (callEnvC fd s.heap.objs.size f):=by
   refine⟨rfl,D.kind,hgl,hbl,λx hx=>u3 hx,?_,D.ok⟩;exact zDn (R:=λcd=>∃a o vs,cd=Value.ref a/\List.lookup a X.K=some o/\o.data=Data.fields vs) (λc o vs h1 h2=>⟨c,o,vs,rfl,h1,h2⟩) hcd
  obtain⟨b1,up,hb0,r1,tk1,hlay,hfrm⟩:=zGi (a:=f) hb hr hv hlen D.nd D.par he kp hm hc.toInCall.ns (λx c e=>hc.cell x c e) hc.apart λx c e=>hc.above x c e;have hys:HyS X n fd.scope (callEnvC fd s.heap.objs.size f) (A.deeper (callEnvC fd s.heap.objs.size f)) b1 m G { s with heap:=h',toks:=tk }:=⟨⟨he,hA.deeper,λx o e=>hb0 x o (hb x o e),r1,hfrm⟩,hlay⟩
  refine zS (h.go hys) λfl s' o=>?_;cases o with | mk mf m' G' b' hfl hr' hf' hl' ag f' hq=>
  have back:∀x o,b x=some o->b' x=some o:=λx ox ex=>ag x ox (hb0 _ _ ex) λw=>by
   have hx:x<s.heap.objs.size:=lt_size (hr.keep _ _ ex);rcases w with w | ⟨_,z,_,w⟩
   ·rw[w] at hx;exact lt_irrefl _ hx
   ·exact absurd (Nat.lt_trans hx (hc.above z x (zZ w))) (lt_irrefl _)
  have ff:Fwd s s':=Fwd.trans (s₁:={ s with heap:=h',toks:=tk }) ⟨tk1,rfl,rfl⟩ f';cases hq with
  | ret q=>cases hfl with | ret hvy=>exact hR _ _ (.mk _ G' hvy (hr'.less back) ff q)
  | next q=>cases hfl;exact hR _ _ (.mk _ G' .none (hr'.less back) ff q)⟩
structure Z3 (X:Cx)(id:Str)(f:Addr):Prop where
 mg:X.mg id=some (.ref f)
 keep:keepIn X.K (.ref f)=true
theorem Sn.call {Q:QE}{id:Str}{f:Addr}{es:List Expr}{p pos:Pos}(hd:Z3 X id f)(hk:Zf sc id)(hn:Zj es)(h:SnEs X n sc es m G λvs G1=>Cal X n f vs G1 Q):Sn X n sc (.Call (.Name id p) es [] pos) m G Q:=⟨λhy=>by
 refine PyProof.Rows.Call_ (wpAny_Name (vI hy.he hy.hb hy.hr hk hd.mg ?_) (hk.bL hy.he));refine callWith_of (first:=[]) (keywords:=[]) (by rw[hn.any];rfl) (keeps_K hd.keep) (wh hn h hy λys s₁ vs G1 hv hy1 f₁ h1=>?_);exact⟨hy1.hb.kin hy1.hr,wpAny_call (h1.go hy1.hA.call hy1.hb hy1.hr hv λv s' q=>q.next f₁)⟩⟩
structure Zx (X:Cx)(id:Str)(k:Cls)(fi:Addr):Prop where
 mg:X.mg id=some (.ref (X.cA k))
 keep:keepIn X.K (.ref (X.cA k))=true
 init:findIn X.K (.ref (X.cA k)) "__init__" = some (some (.ref fi))
 fn:typeIn X.K (.ref fi)=some (.type "function")
theorem Rep.inst (hb:Base X b)(r:Rep X b G h):G (h.objs.size+1)=none/\Rep X b (G.upd (h.objs.size+1) (.inst k λ_=>none)) ((h.push emptyDict).push (instObj (X.cA k) h.objs.size)) /\
  ∀a o,h.get? a=some o->((h.push emptyDict).push (instObj (X.cA k) h.objs.size)).get? a=some o:=by
 have hz:(h.push emptyDict).objs.size=h.objs.size+1:=size_push ..;have kp:∀a o,h.get? a=some o->((h.push emptyDict).push (instObj (X.cA k) h.objs.size)).get? a=some o:=λa o e=>get?_push_of_some _ (get?_push_of_some _ e);have g1:((h.push emptyDict).push (instObj (X.cA k) h.objs.size)).get? (h.objs.size+1)=some (instObj (X.cA k) h.objs.size):=by
  have:=get?_push_size (h.push emptyDict) (o:=instObj (X.cA k) h.objs.size) rfl;rw[hz] at this;exact this
 have g0:((h.push emptyDict).push (instObj (X.cA k) h.objs.size)).get? h.objs.size=some emptyDict:=get?_push_of_some _ (get?_push_size _ rfl);have n0:h.get? h.objs.size=none:=zj (le_refl _);have n1:h.get? (h.objs.size+1)=none:=zj (le_succ _);generalize (h.push emptyDict).push (instObj (X.cA k) h.objs.size)=h2 at *;have hl:h.objs.size+1≠sysModules:=λq=>by
  refine zC X.lim λmc pq1 _=>?_;obtain⟨o,es,ep,ho,_⟩:=pq1
  have:(2:Nat)<h.objs.size:=lt_size (hb.kp r _ _ ho);have q':h.objs.size+1=1:=q;lia
 have r':=r.mono kp;have dne:∀x c fs o d,G x=some (.inst c fs)->h2.get? x=some o->o.dict=some d->h.get? x=some o/\d≠h.objs.size/\d≠h.objs.size+1:=λx c fs o d e e1 e2=>by
  refine wm ((r.own _ _ e).2) λd0 es0 nn0 f1 f2 _=>?_;rw[kp _ _ f1] at e1;cases e1;cases e2;exact⟨f1,(λq'=>by rw[q'] at f2;rw[n0] at f2;cases f2),(λq'=>by rw[q'] at f2;rw[n1] at f2;cases f2)⟩
 refine⟨r.dA n1,⟨r'.keep,λa g e=>?_,λa g e=>?_,λa c fs o d e e1 e2=>?_⟩,kp⟩
 ·by_cases q:a=h.objs.size+1
  ·rw[q];exact hl
  ·rw[Gh.aD _ _ q] at e;exact r.low a g e
 ·by_cases q:a=h.objs.size+1
  ·subst q;rw[Gh.aA] at e;cases e;exact⟨r.noB n1,h.objs.size,#[],0,g1,g0,zero_le _,λf=>⟨(λv e=>nomatch e),λ_=>rfl⟩⟩
  ·rw[Gh.aD _ _ q] at e;exact r'.own a g e
 ·by_cases q:a=h.objs.size+1
  ·subst q;rw[g1] at e1;cases e1;cases e2;refine⟨r.noB n0,(Gh.aD _ _ (Ne.symm (Nat.succ_ne_self _))).trans (r.dA n0),λa' c' fs' o' e' e1' e2'=>?_⟩;by_cases q:a'=h.objs.size+1
   ·exact q
   ·rw[Gh.aD _ _ q] at e';exact absurd rfl (dne a' _ _ o' _ e' e1' e2').2.1
  ·rw[Gh.aD _ _ q] at e;refine w3 (r'.dsep a c fs o d e e1 e2) λp1 p2 p3=>?_;refine⟨p1,(Gh.aD _ _ (dne a _ _ o _ e e1 e2).2.2).trans p2,λa' c' fs' o' e' e1' e2'=>?_⟩;by_cases q':a'=h.objs.size+1
   ·subst q';rw[g1] at e1';cases e1';cases e2';exact absurd rfl (dne a _ _ o _ e e1 e2).2.1
   ·rw[Gh.aD _ _ q'] at e';exact p3 a' c' fs' o' e' e1' e2'
theorem Sn.new {Q:QE}{k:Cls}{fi:Addr}{id:Str}{es:List Expr}{p pos:Pos}(hc:Zx X id k fi)(hco:Z0 X)(hk:Zf sc id)(hn:Zj es)
  (h:SnEs X n sc es m G λvs G1=>∀a,G1 a=Option.none->Cal X n fi (.ref a::vs) (G1.upd a (.inst k λ_=>Option.none)) λv G2=>v=.none/\Q (.ref a) G2):Sn X n sc (.Call (.Name id p) es [] pos) m G Q:=⟨λhy=>by
 refine PyProof.Rows.Call_ (wpAny_Name (vI hy.he hy.hb hy.hr hk hc.mg ?_) (hk.bL hy.he));refine callWith_of (first:=[]) (keywords:=[]) (by rw[hn.any];rfl) (keeps_K hc.keep) (wh hn h hy λys s₁ vs G1 hv hy1 f₁ h1=>?_);obtain⟨hh,gg,dd,tt,oo⟩:=s₁;have hkk:=hy1.hb.kin hy1.hr;refine w3 (Rep.inst (k:=k) hy1.hb hy1.hr) λhG r' kp=>?_;refine⟨hkk,wpAny_call (make_core (makes_of hkk (hco.makes k)) (looks_findIn hkk hc.init) (λself=>bind_fn hkk self hc.fn) (.inl rfl) ?_)⟩;refine(h1 _ hG).go hy1.hA.new hy1.hb r' (.cons (.ref _) (hv.mono (.of_keep kp))) ?_;intro v s' o;cases o with | mk u G' hu hr' f' q=>
 obtain⟨rfl,q⟩:=q;rw[hu.none_inv];exact⟨rfl,.mk (.ref _) G' (.ref _) hr' (f₁.trans (Fwd.trans (s₁:=⟨(hh.push emptyDict).push (instObj (X.cA k) hh.objs.size),gg,dd,tt,oo⟩) ⟨.of_keep kp,rfl,rfl⟩ f')) q⟩⟩
end
end
section
section
variable {X:Cx}{n:Nat}{sc:Scope}{env:Env}{A:Around}{b:Bs}{m:M}{G:Gh}{s:Shared}{e:Expr}{loc:Bool}
inductive Puts (sc:Scope):List Str->List Val->M->M->Prop where
 | nil {m:M}:Puts sc [] [] m m
 | cons {x:Str} {v:Val} {xs:List Str} {vs:List Val} {m m₁ m':M}:Put false sc x v m m₁->Puts sc xs vs m₁ m'->Puts sc (x::xs) (v::vs) m m'
set_option tactic.hygienic true in
theorem zAH (h:Puts sc xs vs m m'):∀{b:Bs} {s:Shared} {ys:List Value},Zq X sc env->Lay X false env b->Rep X b G s.heap->Frm env b s.heap m->VRs s.heap vs ys ->
  xs.length=vs.length/\wpAny (model X.prog X.w) A (assignInOrder (xs.map λx=>bindName env x) ys) (λ_ s'=>St X false env b G s m' s') NoE s:=by
 induction h with
 | nil=>intro b s ys he hl hr hf hv;rw[hv.nil_inv];exact⟨rfl,wpAny_pure (.mk b hr hf hl .refl .refl)⟩
 | cons hp _ ih=>
  intro b s ys he hl hr hf hv;refine wF hv.cons_inv λy zs eq2 hv1 hv2=>?_;subst eq2;refine⟨?_,wpAny_bind (wpAny_holding (bindName_ (zA (hp.go he hl hr hf hv1) λ_ s₁ q=>?_)))⟩
  ·rename_i hpp _ _ _ _ _;clear ih
   have:∀{xs:List Str} {vs:List Val} {m m':M},Puts sc xs vs m m'->xs.length=vs.length:=λh=>by
    induction h with
    | nil=>rfl
    | cons _ _ ih=>exact congrArg (· + 1) ih
   exact congrArg (· + 1) (this (by assumption))
  ·cases q with | mk b1 hr1 hf1 hl1 ag f₁=>exact zA (ih he hl1 hr1 hf1 (hv2.mono f₁.tk)).2 λ_ _ q=>q.next ag f₁
noncomputable def zC7 (sc:Scope):Env:=newEnv sc 0 0 [] "" none .none none 0
theorem zEE (he:env.scope=sc):swappedStores ts v env=swappedStores ts v (zC7 sc):=by
 have h1:env.kindOf=(zC7 sc).kindOf:=by funext x;unfold Env.kindOf;rw[he];rfl
 have h2:env.blockKind=(zC7 sc).blockKind:=by unfold Env.blockKind;rw[he];rfl
 unfold swappedStores;rw[h1];rw[h2]
theorem SnS.br (xs:List Str)(h:Sn X n sc e m G λv G'=>∃vs m',v=.tup vs/\Puts sc xs.reverse vs.reverse m m'/\Q .next m' G')
  (hw:swappedStores [.Tuple es k p] e (zC7 sc)=pure (some xs)) (hsw:∀env,swapsWithSole [.Tuple es k p] e pos.line env=pure false:=by intro _;rfl) :
  SnS X n sc (.Assign [.Tuple es k p] e pos) m G Q:=⟨λ{env A b s} hs=>
 Assign_Tuple_swapped (h.use hs.hy λy s₁ v G1 hv hy1 f₁ q=>by
  obtain⟨vs,m',rfl,hP,q⟩:=q;obtain⟨t,kk,ys,rfl,e1,hvs⟩:=hv.aT;have hlen:xs.length=ys.toArray.size:=by
   have:=(zAH (X:=X) (env:=env) (A:=A) hP hy1.he hs.hl hy1.hr hy1.hf hvs.reverse).1;rw[length_reverse] at this;rw[length_reverse] at this;rw[size_toArray];rw[this];rw[hvs.length]
  rw[hlen];refine PySem.wpAny_unpackItems_tuple hy1.hA.hd ⟨_,e1,rfl,_,rfl⟩ λh' eb=>?_;have kp:∀b o,s₁.heap.get? b=some o->h'.get? b=some o:=λb o e=>eb b o (ne_of_lt (lt_size e)) e;exact zA (zAH (X:=X) (A:=A) (s:={ s₁ with heap:=h' }) hP hy1.he hs.hl (hy1.hr.mono kp) (hy1.hf.mono (.of_keep kp)) ((hvs.mono (.of_keep kp)).reverse)).2 λ_ s3 o=>(o.next .refl (f₁.trans ⟨.of_keep kp,rfl,rfl⟩)).out rfl q) (hsw _) ((zEE hs.hy.he.scope).trans hw)⟩
noncomputable def relS (sc scope:Scope):Scope:={ scope with names:=scope.names.map λ(x,k)=>if (k == .free&&sc.kind == .function&&sc.names.lookup x == some .cell) then(x,.cell) else(x,k) }
theorem zAG (h:env.scope=sc):relabel scope env=relS sc scope:=by subst h;rfl
noncomputable def yZ (sc scope:Scope):Bool:=
 decide (scope.kind=.function)&&scope.names.all (λx=>!(decide (x.2=.cell))&&(!(decide (x.2=.free))||decide (sc.names.lookup x.1=some .cell)))&&scOK (relS sc scope)
structure Z8 (sc scope:Scope):Prop where
 kind:scope.kind=.function
 nocell:∀x∈scope.names,x.2≠.cell
 free:∀x∈scope.names,x.2=.free->sc.names.lookup x.1=some .cell
 ok:scOK (relS sc scope)=true
theorem yZ.ok (h:yZ sc scope=true):Z8 sc scope:=by
 unfold yZ at h;obtain⟨h,h3⟩:=Bool.and_eq_true_iff.mp h;obtain⟨h1,h2⟩:=Bool.and_eq_true_iff.mp h;rw[all_eq_true] at h2;refine⟨of_decide_eq_true h1,λx hx q=>?_,λx hx q=>?_,h3⟩
 ·have:=(Bool.and_eq_true_iff.mp (h2 x hx)).1;rw[q] at this;cases this
 ·have:=(Bool.and_eq_true_iff.mp (h2 x hx)).2;rw[q] at this;exact of_decide_eq_true this
theorem Z8.nd (h:Z8 sc scope):(scope.names.map (·.1)).Nodup:=by have h1:=scOK.nd h.ok;unfold relS at h1;dsimp only at h1;rw[map_map] at h1;refine(congrArg List.Nodup (List.map_congr_left λp _=>?_)).mp h1;obtain⟨x,k⟩:=p;show (if _ then _ else _:Str×NameKind).1=x;split<;>rfl
theorem zDo (names:List (Str×NameKind)):(names.map (·.1)).Nodup->(∀p∈names,p.2=.free->∃a,env.cells.lookup p.1=some a)->∀cs:List (Str×Addr),(∀p∈names,cs.lookup p.1=none) ->
  ∃cl,(forIn names cs λ(p:Str×NameKind) r=>(if (p.2 == NameKind.free)=true then do let a <-cellOf env p.1;pure (ForInStep.yield ((p.1,a)::r)) else pure (ForInStep.yield r):Sem (ForInStep (List (Str×Addr)))))=pure cl /\
   (∀x,(x,NameKind.free)∈names->cl.lookup x=env.cells.lookup x)/\∀x a,cs.lookup x=some a->cl.lookup x=some a:=by
 induction names with
 | nil=>intro _ _ cs _;exact⟨cs,rfl,(λx h=>nomatch h),λx a e=>e⟩
 | cons p names ih=>
  intro hn h cs hc;obtain⟨m,k⟩:=p;obtain⟨n1,n2⟩:=List.nodup_cons.mp hn;have h':∀p∈names,p.2=.free->∃a,env.cells.lookup p.1=some a:=λp hp=>h p (.tail _ hp);rw[forIn_cons];by_cases hk:k=.free
  ·subst hk;obtain⟨a,ha⟩:=h _ (.head _) rfl;obtain⟨cl,e1,e2,e3⟩:=ih n2 h' ((m,a)::cs) λp hp=>by
    have:(p.1 == m)=false:=beq_eq_false_iff_ne.mpr λq=>n1 (q▸mem_map_of_mem (f:=(·.1)) hp);rw[lookup_cons];rw[this];exact hc p (.tail _ hp)
   have hce:cellOf env m=pure a:=by unfold cellOf;dsimp only at ha;rw[ha]
   refine⟨cl,?_,λx hx=>?_,λx b e=>e3 x b ?_⟩
   ·simp only [beq_self_eq_true,if_true];rw[hce];simp only [pure_bind];exact e1
   ·rcases List.mem_cons.mp hx with e | hx
    ·cases e;rw[e3 m a (List.lookup_cons_self ..)];exact ha.symm
    ·exact e2 x hx
   ·have:(x == m)=false:=beq_eq_false_iff_ne.mpr λq=>by
     have:=hc _ (.head _);rw[q] at e;rw[e] at this;cases this
    rw[lookup_cons];rw[this];exact e
  ·refine zU (ih n2 h' cs λp hp=>hc p (.tail _ hp)) λcl e1 e2 e3=>?_;have hb:(k == NameKind.free)=false:=beq_eq_false_iff_ne.mpr hk;refine⟨cl,?_,λx hx=>?_,e3⟩
   ·dsimp only;rw[hb];simp only [false_eq_true,if_false,pure_bind];exact e1
   ·rcases List.mem_cons.mp hx with e | hx
    ·cases e;exact absurd rfl hk
    ·exact e2 x hx
theorem ji (hn:(scope.names.map (·.1)).Nodup)(h:∀p∈scope.names,p.2=.free->∃a,env.cells.lookup p.1=some a) :
  ∃cl,closureFor scope env=pure cl/\∀x,(x,NameKind.free)∈scope.names->cl.lookup x=env.cells.lookup x:=by
 refine zU (zDo (env:=env) scope.names hn h [] λ_ _=>rfl) λcl e1 e2 _=>?_;refine⟨cl,?_,e2⟩
 have:closureFor scope env=(forIn scope.names [] λ(p:Str×NameKind) r=>(if (p.2 == NameKind.free)=true then do let a <-cellOf env p.1;pure (ForInStep.yield ((p.1,a)::r)) else pure (ForInStep.yield r):Sem (ForInStep (List (Str×Addr))))) >>= pure:=rfl;rw[this];rw[e1];rfl
structure SnC (X:Cx)(n:Nat)(sc:Scope)(ifs:List Expr)(m:M)(G:Gh)(Q:Bool->Gh->Prop):Prop where
 go:∀{env:Env} {A:Around} {b:Bs} {s:Shared},Hy X n sc env A b m G s->wpAny (model X.prog X.w) A (forIn ifs true λc r=>if r=true then do let ok <-isTrue c env (eval c env);pure (ForInStep.yield ok) else pure (ForInStep.yield r)) (OutT X b s Q) NoE s
theorem SnC.nil (q:Q true G):SnC X n sc [] m G Q:=⟨λhy=>wpAny_pure (.mk G hy.hr .refl q)⟩
theorem zBp (h:Q false s)(ifs:List Expr):wpAny (model X.prog X.w) A (forIn ifs false λc r=>if r=true then do let ok <-isTrue c env (eval c env);pure (ForInStep.yield ok) else pure (ForInStep.yield r)) Q NoE s:=by
 induction ifs with
 | nil=>exact wpAny_pure h
 | cons e es ih=>rw[forIn_cons];exact wpAny_bind (wpAny_pure ih)
theorem SnC.cons {Q:Bool->Gh->Prop}{es:List Expr}(h:SnT X n sc e m G λt G'=>Two (SnC X n sc es m G' Q) (Q false G') t):SnC X n sc (e::es) m G Q:=⟨λhy=>by
 rw[forIn_cons];refine wpAny_bind (wpAny_bind (h.use hy λt s₁ G1 hy1 f₁ q=>wpAny_pure ?_));cases t with
 | false=>exact zBp (.mk G1 hy1.hr f₁ (q.2 rfl)) es
 | true=>exact zA ((q.1 rfl).go hy1) λ_ _ q=>q.next f₁⟩
theorem wo (I:Nat->Shared->Prop)
  (turn:∀n s,I n s->wpAny (model X.prog X.w) A (pyNext it) (λr s₁=>match r with
   | none=>R (.ok .next) s₁
   | some v=>wpAny (model X.prog X.w) A (letOwnedTupleGo target it v) (λ_ s1'=>wpAny (model X.prog X.w) A (assign target env v) (λ_ s₂=>
     wpAny (model X.prog X.w) A (forIn ifs true λc r=>if r=true then do let ok <-isTrue c env (eval c env);pure (ForInStep.yield ok) else pure (ForInStep.yield r)) (λok s3=>
      if ok=true then wpAny (model X.prog X.w) A (eval elt env) (λx s4=>
       wpAny (model X.prog X.w) A (call (.builtin "list.append") [acc,x]) (λ_ s5=>∃m,m<n/\I m s5) NoE s4) NoE s3
      else ∃m,m<n/\I m s3) NoE s₂) NoE s1') NoE s₁) NoE s)
  (n:Nat) (h:I n s) :
  codeAny (model X.prog X.w) A (.compLoop (.ListComp elt [⟨target,iter,ifs,0⟩] scope pos) 0 it acc env) R s:=by
 refine codeAny_loop rfl I (λn s hI=>?_) n h;show wpAny _ A ((compTurn (.ListComp elt [⟨target,iter,ifs,0⟩] scope pos) 0 it acc env).onRaise (λx=>do noteFrame x env;theTreesLotGoes x)) _ _ s;refine wpAny_noted ?_;rw[compTurn_list];refine wpAny_bind (wpAny_standAt (wpAny_bind (zS (turn n s hI) (λr s₁ h1=>?_))));cases r with
 | none=>exact wpAny_pure h1
 | some v=>
  refine wpAny_bind (zS h1 λ_ s1' h1'=>?_);refine wpAny_bind (zS h1' (λ_ s₂ h2=>wpAny_bind (zS h2 (λok s3 h3=>?_))));cases ok with
  | false=>exact wpAny_pure ⟨rfl,h3⟩
  | true=>
   exact wpAny_bind (wpAny_bind (zS h3 (λx s4 h4=>wpAny_bind (zS h4 (λ_ s5 h5=>wpAny_pure (wpAny_pure ⟨rfl,h5⟩))))))
theorem Rep.give (r:Rep X b G h)(hb:b D=some ⟨.type "list",none,.seq ys k,#[]⟩)(hl:D≠sysModules)(hn:xs.length<=2 * cap)(hv:VRs h xs ys.toList) :
  G D=none/\Rep X (b.del D) (G.upd D (.list xs)) h:=by
 have hG:G D=none:=by
  cases q:G D with
  | none=>rfl
  | some g=>have:=(r.own _ _ q).1;rw[hb] at this;cases this
 have hD:=r.keep _ _ hb;have r':Rep X (b.del D) G h:=r.less λa o e=>by
  by_cases q:a=D
  ·rw[q] at e;unfold Bs.del at e;rw[if_pos rfl] at e;cases e
  ·rw[Bs.aI q] at e;exact e
 refine⟨hG,r'.a6 (g:=.list xs) rfl hl (by unfold Bs.del;exact if_pos rfl) (λx c fs ox e e1=>⟨λq=>?_,λq=>by rw[q] at e;rw[hG] at e;cases e⟩) (.refl _) (λx o _ e=>e) ⟨hn,ys,k,hD,hv⟩⟩
 have:=(r.dsep x c fs ox D e e1 q).1;rw[hb] at this;cases this
structure Z5 (X:Cx)(n:Nat)(sc:Scope)(tgt elt:Expr)(ifs:List Expr)(m0:M)(gd:Gh->Prop)(Q:QE)(I:List Val->List Val->Gh->Prop):Prop where
 turn:∀x xs acc G,I (x::xs) acc G->gd G/\∃m',Bnd X true sc tgt x m0 m'/\SnC X n sc ifs m' G λt G₁=>Two (Sn X n sc elt m' G₁ λv G₂=>I xs (acc++[v]) G₂) (I xs acc G₁) t
 stop:∀acc G,I [] acc G->gd G/\newList acc G Q
inductive Yz (X:Cx)(D C:Addr)(b:Bs)(s s₂:Shared)(xs:List Val)(St:Nat->Bs->Prop)(I:List Val->List Val->Gh->Prop)(k:Nat)(s':Shared):Prop where
 | mk (i:Nat) (bi:Bs) (Gi:Gh) (acc:List Val) (ys:Array Value) (nn:Nat) (hk:k=xs.length+1 - i) (hr:Rep X bi Gi s'.heap) (ki:kept b bi) (st:St i bi) (hD:bi D=some ⟨.type "list",none,.seq ys nn,#[]⟩) (hv:VRs s'.heap acc ys.toList) (hal:acc.length<=i) (hi:i<=xs.length)
   (hC:∃o es ep,bi C=some o/\o.data=.dict es ep/\StrKeys es) (tk:TK s₂.heap s'.heap) (f:Fwd s s') (h:I (xs.drop i) acc Gi)
theorem zF0 {Iv:Value}{gd:Gh->Prop}{hid:Addr->Prop}{St:Nat->Bs->Prop}{I:List Val->List Val->Gh->Prop}{R:Result->Shared->Prop}
  (it:Iter X s₂.heap tgt Iv xs gd hid St) (hn:∀a,hid a->b a=none) (hc:xs.length<cap) (ok:Z5 X n sc tgt elt ifs m0 gd Q I) (hbD:b D=none) (hbC:b C=none) (hDC:D≠C) (hDs:D≠sysModules) (hb:Base X b) (hA:AOk A n) (he:Zq X sc env)
  (hlay:∀{bi:Bs},(∃o es ep,bi C=some o/\o.data=.dict es ep/\StrKeys es)->Lay X true env bi) (hel:env.locals=C) (hfrm:∀{bi:Bs} {s':Shared},Fwd s s'->kept b bi->Frm env bi s'.heap m0)
  (hR:∀acc G' bC s',kept b bC->(∃oC es ep,bC C=some oC/\oC.data=.dict es ep/\StrKeys es)->Rep X bC (G'.upd D (.list acc)) s'.heap->Fwd s s'->G' D=none->newList acc G' Q->R (.ok .next) s')
  (h0:Yz X D C b s s₂ xs St I (xs.length+1) s3):codeAny (model X.prog X.w) A (.compLoop (.ListComp elt [⟨tgt,iter,ifs,0⟩] scope cpos) 0 Iv (.ref D) env) R s3:=by
 refine wo (Yz X D C b s s₂ xs St I) (λk s' hI=>?_) (xs.length+1) h0;cases hI with | mk i bi Gi acc ys nn hk hri ki sti hDi hacc hal hi hCi tki fi hgo=>
 have nohidF:∀{a:Addr} {o:Obj},bi a=some o->(¬∃vs,o.data=.fields vs)->¬hid a:=λe nf q=>nf (it.kind sti q e);have hDh:¬hid D:=nohidF hDi λ⟨vs,q⟩=>nomatch q
 refine wm hCi λoC esC epC c1 c2 c3=>?_;have hCh:¬hid C:=nohidF c1 λ⟨vs,q⟩=>by rw[c2] at q;cases q
 have kH:∀{b':Bs},(∀a o,bi a=some o->¬hid a->b' a=some o)->kept b b':=λk a o e=>k a o (ki a o e) λq=>by rw[hn a q] at e;cases e
 cases hx:xs[i]? with
 | none=>
  rw[zDI hx] at hgo;obtain⟨g1,g2⟩:=ok.stop _ _ hgo;refine zA (it.stop hA.hd tki hri g1 sti hx (Q:=λr s₁=>r=none/\R (.ok .next) s₁) λs₁ b1 hr1 f₁ k₁=>⟨rfl,?_⟩) λr s₁ q=>by obtain⟨rfl,hout⟩:=q;exact hout
  obtain⟨hGD,hg⟩:=hr1.give (xs:=acc) (k₁ D _ hDi hDh) hDs (yA (lt_of_le_of_lt (le_trans hal hi) hc)) (hacc.mono f₁.tk);refine hR acc _ (b1.del D) s₁ (λa o e=>?_) ⟨oC,esC,epC,(Bs.aI (Ne.symm hDC)).trans (k₁ C oC c1 hCh),c2,c3⟩ hg (fi.trans f₁) hGD g2;exact(Bs.aI λq=>by rw[q] at e;rw[hbD] at e;cases e).trans (kH k₁ a o e)
 | some x=>
  obtain⟨hlt,hdrop⟩:=yl hx;rw[hdrop] at hgo;obtain⟨hgd,m',hB,hT⟩:=ok.turn _ _ _ _ hgo;refine zA (it.item hA.hd tki hri hgd sti hx (Q:=λy s₁=>∃b1,VR s₁.heap x y/\Rep X b1 Gi s₁.heap/\Fwd s' s₁/\St (i+1) b1/\∀a o,bi a=some o->¬hid a->b1 a=some o) λy s₁ b1 h1 h2 h3 h4 h5=>⟨b1,h1,h2,h3,h4,h5⟩) λr s₁ q=>?_;refine zC q λy eq1 hy=>?_;subst eq1;refine zA hy λ_ s2' q=>?_;obtain⟨b1,hv,hr1,f₁,st1,k₁⟩:=q;have kb1:=kH k₁;have f01:=fi.trans f₁;refine zA (hB.go he hA.hd (hlay ⟨oC,esC,epC,k₁ C oC c1 hCh,c2,c3⟩) hr1 (hfrm f01 kb1) hv) λ_ s3 q=>?_;cases q with | mk b4 hr4 hf4 hl4 ag4 f4=>
  have own4:∀a o,b1 a=some o->a≠C->b4 a=some o:=λa o e ne=>ag4 a o e λq=>by rcases q with q | q;exact ne (q.trans hel);cases q.1
  have kb4:kept b b4:=λa o e=>own4 a o (kb1 a o e) λq=>by rw[q] at e;rw[hbC] at e;cases e
  have hD4:=own4 D _ (k₁ D _ hDi hDh) hDC;have hst4:St (i+1) b4:=it.fr st1 λa o ha e=>own4 a o e λq=>by
   rw[q] at ha;exact hCh ha
  have hy4:Hy X n sc env A b4 m' Gi s3:=⟨he,hA,λa o e=>kb4 a o (hb a o e),hr4,hf4⟩
  refine wm hl4.loc λoC' esC' epC' c1' c2' c3'=>?_;rw[hel] at c1';refine zA (hT.go hy4) λok s4 o=>o.elim λG5 hr5 f5 q5=>?_;have f':=(f₁.trans f4).trans f5;have kk:xs.length+1 - (i+1)<k:=zEv hk hlt;cases ok with
  | false=>
   rw[if_neg ()];exact⟨_,kk,.mk (i+1) b4 G5 acc ys nn rfl hr5 kb4 hst4 hD4 (hacc.mono f'.tk) (le_succ_of_le hal) hlt ⟨oC',esC',epC',c1',c2',c3'⟩ (tki.trans f'.tk) (fi.trans f') (q5.2 rfl)⟩
  | true=>
   rw[if_pos rfl];refine(q5.1 rfl).use (hy4.next hr5 f5) λz s5 v G6 hv6 hy6 f6 q6=>?_;have hoD:=hy6.hr.keep _ _ hD4;have hsz:ys.size<=sizeLine:=by
    have hl:acc.length=ys.size:=by rw[hacc.length];rw[length_toList]
    rw[<-hl];exact zk (by first | exact lt_of_le_of_lt hal (Nat.lt_trans hlt hc) | (rw[<-hl];exact lt_of_le_of_lt hal (Nat.lt_trans hlt hc)))
   refine call_meets PySem.F.slot_list_append ⟨_,hoD,rfl⟩ PySem.F.entry_list_append (PySem.F.args_list_append_2 _ _) (list_append D ys nn z hsz) ⟨hoD,?_⟩;have hnew:=get?_update_self (Obj.mapSeq λx_1=>x_1.push z) hoD rfl;obtain⟨r7,tk7⟩:=hy6.hr.one hD4 (notT rfl) wC.extBut hnew;have f'':Fwd s' { s5 with heap:=s5.heap.update D (Obj.mapSeq λx_1=>x_1.push z) }:=(f'.trans f6).trans ⟨tk7,rfl,rfl⟩;refine⟨_,kk,.mk (i+1) _ G6 (acc++[v]) (ys.push z) _ rfl r7 (λa o e=>(Bs.put_ne λq=>by rw[q] at e;rw[hbD] at e;cases e).trans (kb4 a o e)) (it.fr hst4 λa o ha e=>(Bs.put_ne λq=>by rw[q] at ha;exact hDh ha).trans e) Bs.aE ?_ (by rw[length_append];rw[length_singleton];exact succ_le_succ hal) hlt
    ⟨oC',esC',epC',(Bs.put_ne (Ne.symm hDC)).trans c1',c2',c3'⟩ (tki.trans f''.tk) (fi.trans f'') q6⟩
   rw[toList_push];exact(hacc.mono f''.tk).append (.single (hv6.mono tk7))
end
end
section
section
variable {X:Cx}{n:Nat}{sc:Scope}{env:Env}{A:Around}{b:Bs}{m:M}{G:Gh}{s:Shared}{e:Expr}{loc:Bool}
def capM (sc scope:Scope)(m:M):M:=λx v=>(x,NameKind.free)∈scope.names/\(x,NameKind.cell)∈sc.names/\m x v
theorem zGI (h:(x,k)∈(relS sc scope).names):∃k',(x,k')∈scope.names/\k=if (k' == .free&&sc.kind == .function&&sc.names.lookup x == some .cell) then .cell else k':=by
 refine zC (List.mem_map.mp h) λpq0 h1 h2=>?_;obtain⟨y,k'⟩:=pq0;dsimp only at h2;split at h2
 ·rename_i q;obtain⟨rfl,rfl⟩:=Prod.mk.inj h2;exact⟨_,h1,(if_pos q).symm⟩
 ·rename_i q;obtain⟨rfl,rfl⟩:=Prod.mk.inj h2;exact⟨_,h1,(if_neg q).symm⟩
theorem zE3 (hk:sc.kind=.function)(h1:(x,NameKind.free)∈scope.names)(h2:sc.names.lookup x=some .cell):(x,NameKind.cell)∈(relS sc scope).names:=by refine List.mem_map.mpr ⟨_,h1,?_⟩;dsimp only;rw[if_pos (by rw[hk];rw[h2];rfl)]
theorem zDm (he:Zq X sc env)(hok:Z8 sc scope)(hclk:∀x,(x,NameKind.free)∈scope.names->cl.lookup x=env.cells.lookup x) :
  Zq X (relS sc scope) (compEnvC scope cl C env)/\∀{b bi:Bs} {h h':Heap},Frm env b h m->TK h h'->kept b bi->Frm (compEnvC scope cl C env) bi h' (capM sc scope m):=by
 have hrel:relabel scope env=relS sc scope:=zAG he.scope;have e1:Zq X (relS sc scope) (compEnvC scope cl C env):=by
  refine⟨hrel,hok.kind,he.glob,he.blt,λx hx=>?_,he.code,hok.ok⟩;refine zC (zGI (zZ hx)) λk' h1 h2=>?_;have hk':k'=.free:=by
   by_cases q:k'=.free
   ·exact q
   ·exfalso
    have:(k' == NameKind.free)=false:=beq_eq_false_iff_ne.mpr q;rw[this] at h2;exact hok.nocell _ h1 h2.symm
  subst hk';obtain⟨a,ha⟩:=he.cel x (hok.free _ h1 rfl);exact⟨a,(hclk x h1).trans ha⟩
 refine⟨e1,λ{b bi h h'} hf tk k x v e=>?_⟩;refine w3 e λc1 c2 hm=>?_;refine zC (hf x v hm) λy hy hsl=>?_;have c2':=zQ (scOK.nd he.ok) c2;have ek:=(he.kindOf x).trans c2';refine⟨y,hy.mono tk,?_⟩;rcases hsl with ⟨q,_⟩ | ⟨_,ca,o,q3,q4,q5⟩
 ·rw[ek] at q;cases q
 ·exact .inr ⟨.inl ((e1.kindOf x).trans (zQ (scOK.nd hok.ok) (zE3 he.kind c1 c2'))),ca,o,(hclk _ c1).trans q3,k _ _ q4,q5⟩
inductive Yt (X:Cx)(n:Nat)(sc:Scope)(tgt elt:Expr)(ifs:List Expr)(m0:M)(Q:QE)(xs:List Val)(gd:Gh->Prop)(G':Gh):Prop where
 | mk (h0:xs.length<cap) (I:List Val->List Val->Gh->Prop) (h1:Z5 X n sc tgt elt ifs m0 gd Q I) (h2:I xs [] G')
theorem zBi (hok:Z8 sc scope)
  (h:SnI X n sc iter tgt m G (Yt X n (relS sc scope) tgt elt ifs (capM sc scope m) Q))
  (hs:∀env x,foldedSetIterable iter env x=pure x) (hy:Hy X n sc env A b m G s)
  (hR:∀v G' bC C s' y,kept b bC->b C=none->(∃oC es ep,bC C=some oC/\oC.data=.dict es ep/\StrKeys es)->Rep X bC G' s'.heap->Fwd s s'->VR s'.heap v y->Q v G' ->
   compPost (model X.prog X.w) A NoE use R y C (.ok .next) s') :
  wpAny (model X.prog X.w) A (comprehension (.ListComp elt [⟨tgt,iter,ifs,0⟩] scope cpos) scope env pos (PySem.newList []) false (eval iter env) use) R NoE s:=by
 have he:=hy.he;refine zC (ji (scope:=scope) (env:=env) hok.nd λx hx hl=>he.cel _ (hok.free x hx hl)) λcl hcl hclk=>?_;refine wpAny_comprehension_free (cl:=cl) rfl (hs env) hcl hok.kind (λx hx hl=>zQ hok.nd (by rw[<-hl];exact hx)) ?_;refine zA (h.go hy) λx s₁ h₁=>zA h₁ λI0 s₂ o=>?_;cases o with | mk xs gd G2 b2 hid St it hn hr2 kb st f₂ q=>
 obtain⟨hlen,I,ok,q⟩:=q;refine wpAny_newObj_type (wpAny_newFunctionEnv hok.nocell (by intro y hy;cases hy) (λh₁ hns1 hsb1=>?_) hok.kind);dsimp only at hns1 hsb1 ⊢;have hlow2:s₂.heap.objs.size≠sysModules:=hlow (X:=X) (λa o e=>kb a o (hy.hb a o e)) hr2;refine w3 (hr2.push { cls:=.type "list",dict:=none,data:=.seq ([]:List Value).toArray }) λrD kD kpD=>?_;have b2D:b2 s₂.heap.objs.size=none:=hr2.noB (zj (le_refl _));have hsz:(s₂.heap.push { cls:=.type "list",dict:=none,data:=.seq ([]:List Value).toArray }).objs.size=s₂.heap.objs.size+1:=size_push ..;have b2C:b2 (s₂.heap.objs.size+1)=none:=hr2.noB (zj (le_succ _));generalize s₂.heap.push { cls:=.type "list",dict:=none,data:=.seq ([]:List Value).toArray }=H2 at *;rw[hsz] at hns1 ⊢;generalize s₂.heap.objs.size=D at *;have hDC:D≠D+1:=Ne.symm (Nat.succ_ne_self D);refine w3 (rD.push { cls:=.type "dict",data:=.dict #[] }) λrC kC kpC=>?_;rw[hsz] at rC kC hsb1;refine vp hns1 λoC esC epC hoC hdC hkC hnsC=>?_;obtain⟨r3,tk3⟩:=rC.one (a:=D+1) Bs.aE (yE rfl) hsb1.extBut hoC;generalize hb3:((b2.put D _).put (D+1) _).put (D+1) oC=b₃ at r3;have b3k:kept b2 b₃:=λa o e=>by
  have h1:a≠D+1:=λq=>by rw[q] at e;rw[b2C] at e;cases e
  have h2:a≠D:=λq=>by rw[q] at e;rw[b2D] at e;cases e
  rw[<-hb3];rw[Bs.put_ne h1];rw[Bs.put_ne h1];rw[Bs.put_ne h2];exact e
 have b3C:b₃ (D+1)=some oC:=by rw[<-hb3];exact Bs.aE
 have b3D:b₃ D=some { cls:=.type "list",dict:=none,data:=.seq ([]:List Value).toArray }:=by rw[<-hb3];rw[Bs.put_ne hDC];rw[Bs.put_ne hDC];exact Bs.aE
 have tkA:TK s₂.heap h₁:=(TK.of_keep λa o e=>kpC a o (kpD a o e)).trans tk3;clear hb3;have bn:∀{a:Addr},b2 a=none->b a=none:=λ{a} e=>by cases q:b a with | none=>rfl | some o=>(rw[kb _ _ q] at e;cases e)
 obtain⟨hce,hfr⟩:=zDm (m:=m) (C:=D+1) he hok hclk;have f3:Fwd s { s₂ with heap:=h₁,toks:=s₂.toks+([]:List (Str×Value)).length }:=f₂.trans ⟨tkA,rfl,rfl⟩;have loop:=zF0 (R:=compPost (model X.prog X.w) A NoE use R (.ref D) (D+1)) (iter:=iter) (scope:=scope) (cpos:=cpos) it hn hlen ok (bn b2D) (bn b2C) hDC hlow2 hy.hb hy.hA hce (λ{bi} h=>⟨h,(by
  cases q:X.H0.get? (D+1) with
  | none=>exact q
  | some o=>(have:=hy.hb _ _ q;rw[bn b2C] at this;cases this)),λq=>nomatch q⟩) rfl (λ{bi s'} f k=>hfr hy.hf f.tk k)
  (λacc G' bC s' k1 k2 k3 k4 k5 k6=>hR (.ref D) _ bC (D+1) s' (.ref D) k1 (bn b2C) k2 k3 k4 (.ref _) (k6 D k5))
  (.mk 0 b₃ G2 [] #[] 0 rfl r3 (λa o e=>b3k _ _ (kb _ _ e)) (it.fr st λa o _ e=>b3k _ _ e) b3D .nil (zero_le _) (zero_le _) ⟨oC,esC,epC,b3C,hdC,hkC⟩ tkA f3 q)
 exact codeAny_compStart_list loop (zS (it.self r3 (it.fr st λa o _ e=>b3k _ _ e) (Q:=λI' s'=>I'=I0/\s'={ s₂ with heap:=h₁,toks:=s₂.toks+([]:List (Str×Value)).length }) qA) λI' s' q=>by
  obtain⟨rfl,rfl⟩:=q;exact loop)
theorem Sn.comp (hok:yZ sc scope=true)
  (h:SnI X n sc iter tgt m G (Yt X n (relS sc scope) tgt elt ifs (capM sc scope m) Q))
  (hs:∀env x,foldedSetIterable iter env x=pure x:=by intro _ _;rfl):Sn X n sc (.ListComp elt [⟨tgt,iter,ifs,0⟩] scope cpos) m G Q:=⟨λ{env A b s} hy=>by
 rw[eval_ListComp];refine zBi (use:=Option.none) (R:=Out X b s Q) (yZ.ok hok) h hs hy λv G' bC C s' y kb hC hd hr' f hv q=>?_;refine wm hd λoC es ep h1 h2 h3=>?_;refine⟨λx=>nsFind es x,⟨oC,es,ep,hr'.keep _ _ h1,h2,h3,λ_=>rfl⟩,λh' sb=>?_⟩;obtain⟨r2,tk2⟩:=hr'.gone h1 (yE h2) sb.extBut;exact .mk v G' (hv.mono tk2) (r2.less λa o e=>(Bs.aI λq=>by rw[q] at e;rw[hC] at e;cases e).trans (kb _ _ e)) (f.trans ⟨tk2,rfl,rfl⟩) q⟩
theorem zDS {elt:Expr}{gens:List Comprehension}{scope:Scope}{cpos p:Pos}{id:Str}{line:Nat}:∃r,swapsWith (.ListComp elt gens scope cpos) (some (.Name id p)) line env=pure r:=⟨_,rfl⟩
theorem zIm (hf:Frm env b h m)(hl:Lay X false env b)(h1:b C=some oC)(h2:oC.data=.dict es ep)(hC:¬Own false env C):Frm env (b.del C) h m/\Lay X false env (b.del C):=by
 have hCl:env.locals≠C:=λq=>hC (.inl q.symm);have ncell:∀{ca:Addr} {o:Obj} {v:Option Value},b ca=some o->o.data=.cell v->ca≠C:=λe ed q=>by rw[q] at e;rw[h1] at e;cases e;rw[h2] at ed;cases ed
 refine⟨λz u ez=>?_,⟨?_,hl.low,λhh z hz=>?_⟩⟩
 ·refine zC (hf z u ez) λw hw hsl=>?_;exact⟨w,hw,hsl.imp (λ_ _ _ e _=>(Bs.aI hCl).trans e) λ_ _ _ _ e d=>(Bs.aI (ncell e d)).trans e⟩
 ·refine wm hl.loc λoo es' ep' q2 q3 q4=>?_;exact⟨oo,es',ep',(Bs.aI hCl).trans q2,q3,q4⟩
 ·refine vp (hl.has hh z hz) λca oo u q1 q2 q3 q4=>?_;exact⟨ca,oo,u,q1,(Bs.aI (ncell q2 q3)).trans q2,q3,q4⟩
theorem SnS.aQ {Q:QS}{elt iter tgt:Expr}{ifs:List Expr}{scope:Scope}{cpos:Pos}{id:Str}{np pos:Pos}(hok:yZ sc scope=true)
  (h:SnI X n sc iter tgt m G (Yt X n (relS sc scope) tgt elt ifs (capM sc scope m) (PutP sc id m Q)))
  (hs:∀env x,foldedSetIterable iter env x=pure x:=by intro _ _;rfl):SnS X n sc (.Assign [.Name id np] (.ListComp elt [⟨tgt,iter,ifs,0⟩] scope cpos) pos) m G Q:=⟨λ{env A b s} hys=>by
 obtain⟨r,hr⟩:=@zDS env elt [⟨tgt,iter,ifs,0⟩] scope cpos np id pos.line;cases r with
 | false=>
  exact wpAny_Assign_Name ((Sn.comp hok h hs).use hys.hy λy s₁ v G1 hv hy1 f₁ q=>by
   obtain⟨m',hp,q⟩:=q;exact zA (hp.go hy1.he hys.hl hy1.hr hy1.hf hv) λ_ _ o=>(o.next .refl f₁).out rfl q) hr
 | true=>
  rw[exec_Assign_Name_used _ _ _ _ hr];refine wpAny_bind (wpAny_standAt ?_);refine wpAny_bind (zA (P:=λ_ s'=>OutS X env b s Q .next s') ?_ λ_ s' q=>wpAny_pure q);rw[arm_evalThenUse_ListComp];refine wpAny_bind (zA (P:=λ_ s'=>OutS X env b s Q .next s') ?_ λ_ s' q=>wpAny_pure q);refine zBi (R:=λ_ s'=>OutS X env b s Q .next s') (yZ.ok hok) h hs hys.hy λv G' bC C s' y kb hC hd hr' f hv q=>?_;refine wm hd λoC es ep h1 h2 h3=>?_;obtain⟨m',hp,q⟩:=q;show wpAny _ _ (PySem.assign (Expr.Name id np) env y) _ _ _;refine assign_Name (zA (hp.go hys.hy.he (ua hys.hl λa o e _=>kb a o e) hr' (ud hys.hy.hf f.tk λa o e _=>kb a o e) hv) λ_ s₂ o=>?_);cases o with | mk b2 hr2 hf2 hl2 ag f₂=>
  have nC:¬Own false env C:=λq=>by obtain⟨_,o',e',_⟩:=q.data hys.hl;rw[hC] at e';cases e'
  have h1':=ag C oC h1 nC;refine⟨λx=>nsFind es x,⟨oC,es,ep,hr2.keep _ _ h1',h2,h3,λ_=>rfl⟩,λh' sb=>?_⟩;obtain⟨r3,tk3⟩:=hr2.gone h1' (yE h2) sb.extBut;obtain⟨a1,a2⟩:=zIm (hf2.mono tk3) hl2 h1' h2 nC;exact .mk .next m' G' (b2.del C) .next r3 a1 a2 (λa o e no=>(Bs.aI λq=>by rw[q] at e;rw[hC] at e;cases e).trans (ag a o (kb a o e) no)) ((f.trans f₂).trans ⟨tk3,rfl,rfl⟩) q⟩
end
end
section
section
variable {X:Cx}{n:Nat}{sc:Scope}{env:Env}{A:Around}{b:Bs}{m:M}{G:Gh}{s:Shared}{e:Expr}{loc:Bool}
noncomputable def nd (xs ys:List Addr)(i:Nat):Bool:=!decide (xs[i]?=ys[i]?)
theorem zJ8 (xs:List Addr):∀ys:List Addr,(List.range (min xs.length ys.length)).any (nd xs ys)=(xs.zip ys).any λp=>!decide (p.1=p.2):=by
 induction xs with
 | nil=>intro ys;rw[length_nil];rw[Nat.zero_min];rfl
 | cons a xs ih=>
  intro ys;cases ys with
  | nil=>rfl
  | cons c ys=>
   rw[length_cons];rw[length_cons];rw[Nat.succ_min_succ];rw[List.range_succ_eq_map];rw[any_cons];rw[any_map];rw[List.zip_cons_cons];rw[any_cons];rw[<-ih ys];have e0:nd (a::xs) (c::ys) 0=!decide (a=c):=by
    unfold nd;rw[List.getElem?_cons_zero];rw[List.getElem?_cons_zero];by_cases q:a=c
    ·rw[decide_eq_true q];rw[decide_eq_true (congrArg some q)]
    ·rw[decide_eq_false q];rw[decide_eq_false λe=>q (Option.some.inj e)]
   rw[e0];rfl
theorem zF1 (n:(T == "tuple")=false):Value.type T≠.type "tuple":=λe=>by cases e;cases n
abbrev ZSt (N p q:Addr)(us ws:Array Value)(i:Nat)(h:Heap):Prop:=IsZip h (N+4) (N+2) (N+3) .none/\IsPair h (N+2) (.ref N) (.ref (N+1))/\(∃a b,IsPair h (N+3) a b)/\h.IsListIter N p i/\h.IsListIter (N+1) q i/\h.IsList p us/\h.IsList q ws
inductive ZI (s₁:Shared)(N p q:Addr)(us ws:Array Value)(f:Nat->Bool)(k:Nat)(s':Shared):Prop where
 | mk (i:Nat) (h':Heap) (tk:Nat) (m':Str->Option Value) (zs:Array Value) (hk:k=min us.size ws.size+1 - i) (hi:i<=min us.size ws.size) (hs:s'={ s₁ with heap:=h',toks:=tk }) (st:ZSt N p q us ws i h')
   (hpl:h'.PlainList (N+5) zs) (hz:zs.size=i) (hb:∀j,j<i->zs[j]?=some (.bool (f j))) (hns:h'.Ns (N+6) m') (kp:∀a o,s₁.heap.get? a=some o->h'.get? a=some o)
structure ZA (N p q:Addr):Prop where
 p:∀k:Nat,k<7->p≠N+k
 q:∀k:Nat,k<7->q≠N+k
theorem ZA.ne (h:u≠v):@Ne Addr (N+u) (N+v):=λe=>h (Nat.add_left_cancel e)
theorem ZA.apart {N p q:Addr}(z:ZA N p q):ZipApart (N+4) (N+2) (N+3) N (N+1) p q:=
 ⟨ZA.ne (),ZA.ne (),ZA.ne (u:=0) (),ZA.ne (),ZA.ne (),ZA.ne (v:=0) (),ZA.ne (),ZA.ne (v:=0) (),ZA.ne (),ZA.ne (u:=0) (),z.p 4 (),z.p 3 (),z.p 0 (),z.p 1 (),z.q 4 (),z.q 3 (),z.q 0 (),z.q 1 ()⟩
theorem zEe (h:∀k:Nat,k<5->a≠N+k):a∉[N+4,N+3,N,N+1]:=λq=>by
 simp only [mem_cons,not_mem_nil,or_false] at q;rcases q with q | q | q | q
 ·exact h 4 () q
 ·exact h 3 () q
 ·exact h 0 () q
 ·exact h 1 () q
theorem in7 (z:ZA N p q)(ha:a∈[N+4,N+2,N+3,N,N+1,p,q]):a≠N+6/\a≠N+5:=by
 simp only [mem_cons,not_mem_nil,or_false] at ha;rcases ha with rfl | rfl | rfl | rfl | rfl | rfl | rfl
 ·exact⟨ZA.ne (),ZA.ne ()⟩
 ·exact⟨ZA.ne (),ZA.ne ()⟩
 ·exact⟨ZA.ne (),ZA.ne ()⟩
 ·exact⟨ZA.ne (u:=0) (),ZA.ne (u:=0) ()⟩
 ·exact⟨ZA.ne (),ZA.ne ()⟩
 ·exact⟨z.p 6 (),z.p 5 ()⟩
 ·exact⟨z.q 6 (),z.q 5 ()⟩
theorem zH5 (z:ZA N p q)(W:WalksT X.prog X.w A (N+4) [N+4,N+2,N+3,N,N+1,p,q] [N+4,N+3,N,N+1] (min us.size ws.size) (λi vals=>∃x y,us[i]?=some x/\ws[i]?=some y/\vals=#[x,y]) (ZSt N p q us ws)
  (λi T h=>IsZip h (N+4) (N+2) (N+3) (rawInt T)/\IsPair h (N+2) (.ref N) (.ref (N+1))/\(∃a b,IsPair h (N+3) a b)/\h.IsListIter N p (i+1)/\h.IsListIter (N+1) q (i+1)/\h.IsList p us/\h.IsList q ws/\T≠N+4/\T≠N+3/\T≠N/\T≠N+1))
  (hk:k=min us.size ws.size+1 - i) (hlt:i<min us.size ws.size) (hus:us.size<cap) (hst:ZSt N p q us ws (i+1) h6) (hpl:h6.PlainList (N+5) zs) (hz:zs.size=i) (hb:∀j,j<i->zs[j]?=some (.bool (f j))) (hns:h6.Ns (N+6) m') (kp:∀a o,s₁.heap.get? a=some o->h6.get? a=some o)
  (old:∀(a:Addr) (o:Obj),s₁.heap.get? a=some o->a≠N+5) :
  wpAny (model X.prog X.w) A (PySem.call (.builtin "list.append") [.ref (N+5),.bool (f i)]) (λ_ s5=>∃m,m<k/\ZI s₁ N p q us ws f m s5) NoE { s₁ with heap:=h6,toks:=tk }:=by
 obtain⟨nn,hD6⟩:=hpl;refine call_meets (s:={ s₁ with heap:=h6,toks:=tk }) F.slot_list_append ⟨_,hD6,rfl⟩ F.entry_list_append (F.args_list_append_2 _ _) (list_append (N+5) zs nn _ (zk (hz▸Nat.lt_trans (lt_of_lt_of_le hlt (Nat.min_le_left ..)) hus))) ⟨hD6,?_⟩;have hnew:=get?_update_self (Obj.mapSeq λx_1=>x_1.push (Value.bool (f i))) hD6 rfl;have kp9:∀a o,a≠N+5->h6.get? a=some o->(h6.update (N+5) (Obj.mapSeq λx_1=>x_1.push (Value.bool (f i)))).get? a=some o:=λa o ha e=>(Heap.get?_update_other _ _ (Ne.symm ha)).trans e;refine⟨_,zEv hk hlt,.mk (i+1) _ _ _ _ rfl hlt rfl (W.frame _ _ _ hst λa ha o e=>kp9 a o (in7 z ha).2 e) ⟨_,hnew⟩ (by rw[Array.size_push];rw[hz]) (λj hj=>?_) (hns.at' λo e=>kp9 _ _ (ZA.ne ()) e) λa o e=>kp9 a o (old a o e) (kp a o e)⟩;rw[Array.getElem?_push];by_cases hji:j=zs.size
 ·rw[if_pos hji];rw[hji];rw[hz]
 ·rw[if_neg hji];exact hb j (zJg hj hji hz)
theorem zKZ {xs ys:List Addr}{i:Nat}{a b:Addr}(ha:xs[i]?=some a)(hb:ys[i]?=some b):nd xs ys i=!decide (a=b):=by
 unfold nd;rw[ha];rw[hb];by_cases q:a=b
 ·rw[decide_eq_true q];rw[decide_eq_true (congrArg some q)]
 ·rw[decide_eq_false q];rw[decide_eq_false λe=>q (Option.some.inj e)]
noncomputable def NT (h:Heap)(a:Addr):Prop:=∃o,h.get? a=some o/\o.cls≠.type "tuple"
theorem Rep.nt (hr:Rep X b G h)(hz:(G z).isSome=true):NT h z:=by
 obtain⟨g,hg⟩:=Option.isSome_iff_exists.mp hz;obtain⟨_,hI⟩:=hr.own _ _ hg;clear hr hz hg;cases g with
 | list xs=>obtain⟨_,_,_,e',_⟩:=hI;exact⟨_,e',zF1 rfl⟩
 | dict es=>obtain⟨_,_,⟨_,_,_,e',x',_⟩,_⟩:=hI;exact⟨_,e',x'.1▸zF1 rfl⟩
 | set S fr=>obtain⟨⟨_,_,_,e',_⟩,_⟩:=hI;exact⟨_,e',zF1 rfl⟩
 | inst c fs=>refine zBd hI λ_ _ _ e' _=>?_;exact⟨_,e',λq=>by cases q⟩
inductive ZR (h:Heap)(f:Nat->Bool)(i:Nat)(u w:Value):Prop where
 | mk (a b:Addr) (hu:u=.ref a) (hw:w=.ref b) (hf:f i=!decide (a=b)) (ha:NT h a) (hb:NT h b)
theorem VRs.cM {xs:List Addr}{us:Array Value}{i:Nat}{u:Value}(hv:VRs h (xs.map .ref) us.toList)(hu:us[i]?=some u)(hl:xs.length=us.size):∃a,xs[i]?=some a/\u=.ref a/\a∈xs:=by have hix:i<xs.length:=hl▸(Array.getElem?_eq_some_iff.mp hu).1;have gx:=getElem?_eq_getElem hix;exact⟨_,gx,(hv.at_ i (.ref xs[i]) u (by rw[getElem?_map];rw[gx];rfl) (by rw[getElem?_toList];exact hu)).aC,List.getElem_mem hix⟩
theorem zH4 {b:Bs}{xs ys:List Addr}{us ws:Array Value}(hr:Rep X b G h)(hx:VRs h (xs.map .ref) us.toList)(hy:VRs h (ys.map .ref) ws.toList)(lx:xs.length=us.size)(ly:ys.length=ws.size)(c3:∀z∈xs,(G z).isSome=true)(c4:∀z∈ys,(G z).isSome=true)
  (i:Nat) (u w:Value) (hu:us[i]?=some u) (hw:ws[i]?=some w):ZR h (nd xs ys) i u w:=by refine zU (hx.cM hu lx) λa ga ea ma=>?_;refine zU (hy.cM hw ly) λb gb eb mb=>?_;exact⟨a,b,ea,eb,zKZ ga gb,hr.nt (c3 a ma),hr.nt (c4 b mb)⟩
inductive ZE (E:Env)(x y:Str):Prop where
 | mk (kx:E.kindOf x=some .local) (ky:E.kindOf y=some .local) (dx:(x == Str.ofString "__debug__")=false) (dy:(y == Str.ofString "__debug__")=false) (hk:E.scope.kind=.function) (hC:(E.scope.kind == .class||(E.scope.kind == .module&&E.locals != E.globals))=false) (hne:x≠y)
theorem zHD {E:Env}{x y:Str}{kk:Nat}{p1 p2 p3 p4 p5 p6:Pos}{T a b:Addr}{m':Str->Option Value}{F:Expr->Bool->Sem (ForInStep Bool)}{P1:Value->Shared->Prop}{P2:Shared->Prop}(zE:ZE E x y)(hd:A.handled=none)(hm:behindInMarks .IsNot (.Name y p2)=false)
  (hT:s.heap.IsTuple T #[.ref a,.ref b]) (hns:s.heap.Ns E.locals m') (ha:NT s.heap a) (hb:NT s.heap b) (na:a≠E.locals) (nb:b≠E.locals)
  (k:∀h' tk m',(∀a o,a≠E.locals->s.heap.get? a=some o->h'.get? a=some o)->h'.Ns E.locals m'->P1 (.bool (!decide (a=b))) { s with heap:=h',toks:=tk }) :
  wpAny (model X.prog X.w) A (assign (.Tuple [.Name x p4,.Name y p5] kk p6) E (.ref T)) (λ_ s₂=>wpAny (model X.prog X.w) A (forIn [] true F) (λok s3=>if ok=true then wpAny (model X.prog X.w) A (eval (.Compare (.Name x p1) [.IsNot] [.Name y p2] p3) E) P1 NoE s3 else P2 s3) NoE s₂) NoE s:=by
 obtain⟨kx,ky,dx,dy,hk,hC,hne⟩:=zE;refine wpAny_bind (wpAny_standAt (wpAny_unpack_tuple hd hT rfl rfl λh4 eb4=>?_));have kp7:∀a o,s.heap.get? a=some o->h4.get? a=some o:=λa o e=>eb4 a o (ne_of_lt (lt_size e)) e;have hns4:h4.Ns E.locals m':=hns.at' λo e=>kp7 _ _ e;refine wpAny_bind (wpAny_holding (assign_Name (wpAny_storeName_local kx hns4 (λh5 hns5 sb5=>?_) hC)));refine wpAny_bind (wpAny_holding (assign_Name (wpAny_storeName_local ky hns5 (λh6 hns6 sb6=>?_) hC)));refine wpAny_pure (wpAny_pure ?_);rw[if_pos rfl];have kp8:∀a o,a≠E.locals->s.heap.get? a=some o->h6.get? a=some o:=λa o ha e=>(sb6.2 a ha).trans ((sb5.2 a ha).trans (kp7 a o e));have kz:=k h6 (s.toks+1+1) _ kp8 hns6;refine zC ha λoa hoa hca=>?_;refine zC hb λob hob _=>?_;have ga:=kp8 _ _ na hoa;have gb:=kp8 _ _ nb hob;clear hT hns eb4 kp7 hns4 hns5 sb5 sb6 kp8 hoa hob hd k;refine wpAny_Compare1 (wpAny_Name (wpAny_loadName_local hk kx hns6 ((if_neg hne).trans (if_pos rfl)) ?_) dx) hm;refine wpAny_Name (wpAny_loadName_local hk ky hns6 (if_pos rfl) ?_) dy;by_cases hrr:a=b
 ·rw[decide_eq_true hrr] at kz;subst hrr;exact wpAny_isNot_ref_self kz
 ·rw[decide_eq_false hrr] at kz;exact wpAny_isNot_ref_other hrr ga gb hca kz
theorem zHF {tk K:Nat}{f:Nat->Bool}(hr1:Rep X b G1 s₁.heap)(hd:A.handled=none)(hpl:h3.PlainList c zs)(hz:zs.size=K)(hb:∀j,j<K->zs[j]?=some (.bool (f j)))(kp:∀a o,s₁.heap.get? a=some o->h3.get? a=some o)(f₁:Fwd s s₁)(hq:Q (.bool ((List.range K).any f)) G1) :
  wpAny (model X.prog X.w) A (PySem.call (.builtin "any") [.ref c]) (Out X b s Q) NoE { s₁ with heap:=h3,toks:=tk }:=by
 refine call_any_walk (wpAny_pyIter_list hpl.isList ?_);refine⟨h3.objs.size,_,_,_,_,_,f,rfl,Walks.list (A:=A.in1) hd _ c ?_ zs,⟨⟨_,get?_push_size _ rfl,rfl,rfl⟩,hpl.isList.push _⟩,λi v s' Q' E' hP hQ'=>?_,λh4 tk4 kp6=>?_⟩
 ·obtain⟨nn,ho⟩:=hpl;exact ne_of_lt (lt_size ho)
 ·have:=hb i (hz▸(Array.getElem?_eq_some_iff.mp hP).1);rw[hP] at this;cases this;exact wpAny_truthy_bool hQ'
 ·have kp7:∀a o,s₁.heap.get? a=some o->h4.get? a=some o:=λa o e=>by
   have e3:=kp a o e;exact kp6 a o (by rw[mem_singleton];exact ne_of_lt (lt_size e3)) (get?_push_of_some _ e3)
  rw[hz];exact(Out.grow (s:=s₁) (tk:=tk4) hr1 (.bool _) kp7 hq).next f₁
theorem nm5:N+5∉[N+4,N+3,N,N+1]:=zEe λk hk=>ZA.ne (ne_of_gt hk)
theorem nm6:N+6∉[N+4,N+3,N,N+1]:=zEe λk hk=>ZA.ne (ne_of_gt (lt_succ_of_lt hk))
theorem zHE {E:Env}{kk:Nat}{it:Expr}{s₁:Shared}{us ws:Array Value}{f:Nat->Bool}{tk:Nat}{m1:Str->Option Value}{R:Value->Shared->Prop}(zE:ZE E x y)(hE:E.locals=N+6)(hd:A.handled=none)(hm:behindInMarks .IsNot (.Name y p2)=false)
  (za:ZA N p q) (old:∀a o,s₁.heap.get? a=some o->∀k:Nat,a≠N+k) (hus:us.size<cap) (hst0:ZSt N p q us ws 0 h1) (hl0:h1.PlainList (N+5) #[]) (hns1:h1.Ns (N+6) m1) (kp0:∀a o,s₁.heap.get? a=some o->h1.get? a=some o)
  (own:∀(i:Nat) u w,us[i]?=some u->ws[i]?=some w->ZR s₁.heap f i u w)
  (fin:∀h3 tk zs,h3.PlainList (N+5) zs->zs.size=min us.size ws.size->(∀j,j<min us.size ws.size->zs[j]?=some (.bool (f j)))->(∀a o,s₁.heap.get? a=some o->h3.get? a=some o)->R (.ref (N+5)) { s₁ with heap:=h3,toks:=tk }) :
  codeAny (model X.prog X.w) A (.compLoop (.ListComp (.Compare (.Name x p1) [.IsNot] [.Name y p2] p3) [⟨.Tuple [.Name x p4,.Name y p5] kk p6,it,[],0⟩] scope cpos) 0 (.ref (N+4)) (.ref (N+5)) E) (compPost (model X.prog X.w) A NoE none R (.ref (N+5)) (N+6)) { s₁ with heap:=h1,toks:=tk }:=by
 have oldin:∀(a:Addr) (o:Obj),s₁.heap.get? a=some o->a∉[N+4,N+3,N,N+1]:=λa o e=>zEe λk _=>old a o e k;have W:=WalksT.zip2 (prog:=X.prog) (w:=X.w) (A:=A) hd (N+4) (N+2) (N+3) N (N+1) p q za.apart us ws;refine wo (ZI s₁ N p q us ws f) (λk s' hI=>?_) (min us.size ws.size+1) (.mk 0 h1 _ _ #[] rfl (zero_le _) rfl hst0 hl0 rfl (λj hj=>absurd hj (not_lt_zero _)) hns1 kp0);clear hst0 hl0 hns1 kp0;cases hI with | mk i h' tk m' zs hkk hi hs' hst hpl' hzs hbs hns kpo=>
 subst hs';by_cases hlt:i<min us.size ws.size
 ·clear fin hi;refine W.item i _ _ _ hlt hst λT vals h2 tk2 hvals hT hTt hmid kp5=>?_;clear hT;refine wF hvals λu w hu hw eq4=>?_;subst eq4;refine W.go _ _ _ i T _ _ _ hmid λh3 hst3 kp6=>?_;have kpA:∀a o,a∉[N+4,N+3,N,N+1]->h'.get? a=some o->h3.get? a=some o:=λa o hna e=>kp6 a o hna (kp5 a o hna e);have hT3:h3.IsTuple T #[u,w]:=by refine zC hTt λo ho r=>?_;exact⟨o,kp6 T o (W.apart _ _ _ hmid) ho,r⟩
  obtain⟨a,b,rfl,rfl,hf,ha,hb⟩:=own i u w hu hw;clear kp5 kp6 hTt hmid hu hw own;have hl3:h3.PlainList (N+5) zs:=by obtain⟨nn,ho⟩:=hpl';exact⟨nn,kpA _ _ nm5 ho⟩
  have hns3:h3.Ns E.locals m':=hE▸hns.at' λo e=>kpA _ _ nm6 e;have kp3:∀a o,s₁.heap.get? a=some o->h3.get? a=some o:=λa o e=>kpA a o (oldin a o e) (kpo a o e);clear kpA hpl' hns kpo hst oldin;have up:∀{a},NT s₁.heap a->NT h3 a:=λh=>by refine zC h λo e r=>?_;exact⟨o,kp3 _ _ e,r⟩
  have ne:∀{a},NT s₁.heap a->a≠E.locals:=λh=>by refine zC h λo e _=>?_;exact hE▸old _ _ e 6
  refine zHD zE hd hm hT3 hns3 (up ha) (up hb) (ne ha) (ne hb) λh6 tk' m6 kp8 hns6=>?_;rw[hE] at kp8 hns6;rw[<-hf];exact zH5 (X:=X) za W hkk hlt hus (W.frame _ _ _ hst3 λa ha o e=>kp8 a o (in7 za ha).1 e) (by obtain⟨nn,ho⟩:=hl3;exact⟨nn,kp8 _ _ (ZA.ne ()) ho⟩) hzs hbs hns6 (λa o e=>kp8 a o (old a o e 6) (kp3 a o e)) λa o e=>old a o e 5
 ·clear own;have hie:i=min us.size ws.size:=le_antisymm hi (Nat.not_lt.mp hlt);refine W.done _ _ _ (hie▸hst) λh2 tk2 kp5=>?_;refine⟨m',hns.at' λo e=>kp5 _ _ nm6 e,λh3 sb3=>fin h3 _ zs ?_ (hzs.trans hie) (hie▸hbs) λa o e=>(sb3.2 a (old a o e 6)).trans (kp5 a o (oldin a o e) (kpo a o e))⟩;obtain⟨nn,ho⟩:=hpl';exact⟨nn,(sb3.2 _ (ZA.ne ())).trans (kp5 _ _ nm5 ho)⟩
theorem Sn.cz {Q:QE}{ea eb:Expr}{scope:Scope}{x y:Str}{kk:Nat}{p1 p2 p3 p4 p5 p6 p7 p8 p9 cpos pos:Pos}(hx:Zv X)(hka:Zf sc "any")(hkz:Zf sc "zip")(hn:Zj [ea,eb])
  (hok:yZ sc scope=true) (hfree:∀p∈scope.names,p.2≠.free) (hmx:(x,NameKind.local)∈(relS sc scope).names) (hmy:(y,NameKind.local)∈(relS sc scope).names) (hxy:(x == y)=false)
  (h:SnEs X n sc [ea,eb] m G λvs G'=>∃(p q:Addr) (xs ys:List Addr),vs=[.ref p,.ref q]/\G' p=some (.list (xs.map .ref))/\G' q=some (.list (ys.map .ref))/\xs.length<cap/\ys.length<cap/\(∀z∈xs,(G' z).isSome=true)/\(∀z∈ys,(G' z).isSome=true)/\Q (.bool ((xs.zip ys).any λp=>!decide (p.1=p.2))) G')
  (hm:behindInMarks .IsNot (.Name y p2)=false:=by with_unfolding_all rfl) :
  Sn X n sc (.Call (.Name "any" p7) [.ListComp (.Compare (.Name x p1) [.IsNot] [.Name y p2] p3) [⟨.Tuple [.Name x p4,.Name y p5] kk p6,.Call (.Name "zip" p8) [ea,eb] [] p9,[],0⟩] scope cpos] [] pos) m G Q:=⟨λ{env A bb s} hy=>by
 have he:=hy.he;have ok:=yZ.ok hok;obtain⟨cl,hcl,_⟩:=ji (scope:=scope) (env:=env) ok.nd λx hx hl=>absurd hl (hfree x hx);refine PyProof.Rows.Call_ (wpAny_Name (zAK he hy.hb hy.hr hka (hx.mg "any" ()) (hx.fn "any" ()) ?_) (hka.bL he));refine PyProof.Rows.callWith_builtin1 (args_cons ?_);rw[eval_ListComp];refine wpAny_comprehension_free (cl:=cl) rfl (λ_=>rfl) hcl ok.kind (λx hx hl=>zQ ok.nd (by rw[<-hl];exact hx)) ?_;refine uK hx () () hkz hn h hy λvs0 s₁ vs G1 hvs hy1 f₁ hq=>?_;obtain⟨p,q,xs,ys,rfl,e1,e2,c1,c2,c3,c4,hq⟩:=hq;obtain⟨y1,y2,rfl,hv1,hv2⟩:=hvs.ae;rw[hv1.aC];rw[hv2.aC];have hr1:=hy1.hr;obtain⟨us,k1,_,hp1,hvx,lx⟩:=zO hr1 e1;obtain⟨ws,k2,_,hp2,hvy,ly⟩:=zO hr1 e2;rw[length_map] at lx ly;have hL1:s₁.heap.IsList p us:=⟨_,hp1,rfl,k1,rfl⟩
 have hL2:s₁.heap.IsList q ws:=⟨_,hp2,rfl,k2,rfl⟩
 refine call_zip_2 hL1 hL2 λhz hZ hTI hTO hi1 hi2 hsz kp=>?_;refine wpAny_pyIter_zip hZ ?_;have oldlt:∀a o,s₁.heap.get? a=some o->∀k:Nat,a≠s₁.heap.objs.size+k:=λa o e k q=>by
  have:=lt_size e;rw[q] at this;exact absurd this (Nat.not_lt.mpr (le_add_right _ _))
 generalize s₁.heap.objs.size=N at *;refine wpAny_newObj_type (wpAny_newFunctionEnv ok.nocell (by intro y hy;cases hy) (λh1 hns1 hsb1=>?_) ok.kind);dsimp only at hns1 hsb1 ⊢;have hC:(hz.push { cls:=.type "list",dict:=none,data:=.seq ([]:List Value).toArray }).objs.size=N+6:=by rw[size_push];rw[hsz]
 have kp2:∀a o,hz.get? a=some o->(hz.push { cls:=.type "list",dict:=none,data:=.seq ([]:List Value).toArray }).get? a=some o:=λa o e=>get?_push_of_some _ e;have hD2:(hz.push { cls:=.type "list",dict:=none,data:=.seq ([]:List Value).toArray }).get? hz.objs.size=some { cls:=.type "list",dict:=none,data:=.seq ([]:List Value).toArray }:=get?_push_size _ rfl;generalize hz.push { cls:=.type "list",dict:=none,data:=.seq ([]:List Value).toArray }=H2 at *;have kp3:∀a o,H2.get? a=some o->h1.get? a=some o:=λa o e=>hsb1.extBut a o (ne_of_lt (lt_size e)) (get?_push_of_some _ e);rw[hsz] at hD2 ⊢;rw[hC] at hns1 ⊢;have kp4:∀a o,hz.get? a=some o->h1.get? a=some o:=λa o e=>kp3 a o (kp2 a o e);have za:ZA N p q:=⟨λk _=>oldlt _ _ hp1 k,λk _=>oldlt _ _ hp2 k⟩
 have hst0:ZSt N p q us ws 0 h1:=⟨kp4 _ _ hZ,kp4 _ _ hTI,⟨_,_,kp4 _ _ hTO⟩,hi1.at λo e=>kp4 _ o e,hi2.at λo e=>kp4 _ o e,hL1.at λo e=>kp4 _ o (kp _ o e),hL2.at λo e=>kp4 _ o (kp _ o e)⟩
 have rl:relabel scope env=relS sc scope:=zAG he.scope;have zE:ZE (compEnvC scope cl (N+6) env) x y:=⟨by show (relabel scope env).names.lookup _=_;rw[rl];exact zQ (scOK.nd ok.ok) hmx,by show (relabel scope env).names.lookup _=_;rw[rl];exact zQ (scOK.nd ok.ok) hmy,(scOK.no ok.ok hmx).2,(scOK.no ok.ok hmy).2,ok.kind,by rw[show (compEnvC scope cl (N+6) env).scope.kind=.function from ok.kind];rfl,beq_eq_false_iff_ne.mp hxy⟩
 have loop:=λtk=>zHE (X:=X) (A:=A) (R:=λv s₁=>wpAny (model X.prog X.w) A (spliced (backTo pos (starEach [] env))) (λvs s₂=>wpAny (model X.prog X.w) A (PySem.call (.builtin "any") (v::vs)) (Out X bb s Q) NoE s₂) NoE s₁) (kk:=kk) (p1:=p1) (p3:=p3) (p4:=p4) (p5:=p5) (p6:=p6) (cpos:=cpos) (scope:=scope) (it:=.Call (.Name "zip" p8) [ea,eb] [] p9) (tk:=tk) zE rfl hy.hA.hd hm za oldlt (lx▸c1) hst0 ⟨0,kp3 _ _ hD2⟩ hns1 (λa o e=>kp4 a o (kp a o e)) (zH4 hr1 hvx hvy lx ly c3 c4) λh3 tk zs l1 l2 l3 l4=>args_nil (zHF hr1 hy.hA.hd l1 l2 l3 l4 f₁ (by rw[<-lx];rw[<-ly];rw[zJ8 xs ys];exact hq));exact codeAny_compStart_list (loop _) (zS (wpAny_pyIter_zip (E:=NoE) (s:={ s₁ with heap:=h1,toks:=s₁.toks+([]:List (Str×Value)).length }) (Q:=λI' s'=>I'=.ref (N+4)/\s'={ s₁ with heap:=h1,toks:=s₁.toks+([]:List (Str×Value)).length }) hst0.1 qA) λI' s' q=>by
  obtain⟨rfl,rfl⟩:=q;exact loop _)⟩
end
end
section
noncomputable def nth {α:Type}(l:List α):Nat->Option α:=List.rec (λ_=>none) (λa _ ih k=>Nat.rec (some a) (λk _=>ih k) k) l
noncomputable def vl (os:List (Option Val))(k:Nat):Option Val:=(nth os k).elim none λo=>o
noncomputable def okNm (loc:Bool)(ns:List (Str×NameKind))(k:Nat):Option Str:=(nth ns k).elim none λp=>p.2.casesOn (some p.1) (cond loc none (some p.1)) none none none
noncomputable def put (k:Nat)(v:Val)(os:List (Option Val)):List (Option Val):=List.rec (λ_=>[]) (λo l ih k=>Nat.rec (some v::l) (λk _=>o::ih k) k) os k
theorem vC {α:Type}{l:List α}{k:Nat}{a:α}(h:some a=nth l k):a∈l:=by
 induction l generalizing k with
 | nil=>cases h
 | cons b l ih=>cases k with
  | zero=>cases h;exact .head _
  | succ k=>exact .tail _ (ih h)
theorem zGJ {os:List (Option Val)}{k:Nat}{v w:Val}(h:some w=vl (put k v os) k):w=v:=by
 induction os generalizing k with
 | nil=>cases h
 | cons o l ih=>cases k with
  | zero=>cases h;rfl
  | succ k=>exact ih h
theorem put_ne {os:List (Option Val)}{k j:Nat}{v:Val}(h:j≠k):vl (put k v os) j=vl os j:=by
 induction os generalizing k j with
 | nil=>rfl
 | cons o l ih=>cases k with
  | zero=>cases j with
   | zero=>exact absurd rfl h
   | succ j=>rfl
  | succ k=>cases j with
   | zero=>rfl
   | succ j=>exact ih λe=>h (congrArg (· + 1) e)
theorem zIN {ns:List (Str×NameKind)}{k j:Nat}{p q:Str×NameKind}(hn:(ns.map (·.1)).Nodup)(h1:some p=nth ns k)(h2:some q=nth ns j)(e:p.1=q.1):j=k:=by
 induction ns generalizing k j with
 | nil=>cases h1
 | cons b l ih=>
  have hb:=(List.nodup_cons.mp hn).1;cases k with
  | zero=>cases j with
   | zero=>rfl
   | succ j=>cases h1;exact absurd (mem_map_of_mem (f:=(·.1)) (vC (l:=l) h2)) (e▸hb)
  | succ k=>cases j with
   | zero=>cases h2;exact absurd (mem_map_of_mem (f:=(·.1)) (vC (l:=l) h1)) (e▸hb)
   | succ j=>exact congrArg (· + 1) (ih (List.nodup_cons.mp hn).2 h1 h2)
def Loc (ns:List (Str×NameKind))(os:List (Option Val))(x:Str)(v:Val):Prop:=∃k,(∃kd,some (x,kd)=nth ns k)/\some v=vl os k
theorem Loc.at {ns:List (Str×NameKind)}(k:Nat){kd:NameKind}(e:some (x,kd)=nth ns k){os:List (Option Val)}{v:Val}(h:some v=vl os k):Loc ns os x v:=⟨k,⟨kd,e⟩,h⟩
abbrev L (sc:Scope)(os:List (Option Val)):M:=λx v=>Loc sc.names os x v
theorem Loc.mem {ns:List (Str×NameKind)}{os:List (Option Val)}{v:Val}(h:Loc ns os x v):x∈ns.map (·.1):=by refine zC h λ_ pq1 _=>?_;obtain⟨_,e⟩:=pq1;exact mem_map_of_mem (f:=(·.1)) (vC e)
def Upd (loc:Bool)(ns:List (Str×NameKind))(os:List (Option Val))(x:Str)(v:Val)(os':List (Option Val)):Prop:=∃k,some x=okNm loc ns k/\os'=put k v os
theorem Upd.at {loc:Bool}{ns:List (Str×NameKind)}(k:Nat)(e:some x=okNm loc ns k){os:List (Option Val)}{v:Val}:Upd loc ns os x v (put k v os):=⟨k,e,rfl⟩
theorem zCr {loc:Bool}{k:Nat}(e:some x=okNm loc ns k):∃kd,some (x,kd)=nth ns k/\(kd=.local\/(loc=false/\kd=.cell)):=by
 unfold okNm at e;cases h:nth ns k with
 | none=>rw[h] at e;cases e
 | some p=>
  rw[h] at e;obtain⟨y,kd⟩:=p;cases kd with
  | «local»=>cases e;exact⟨_,rfl,.inl rfl⟩
  | cell=>cases loc with
   | false=>cases e;exact⟨_,rfl,.inr qA⟩
   | true=>cases e
  | free | globalExplicit | globalImplicit=>cases e
theorem Upd.store {loc:Bool}{ns:List (Str×NameKind)}{os os':List (Option Val)}{x:Str}{v:Val}(h:Upd loc ns os x v os'):(x,NameKind.local)∈ns\/(loc=false/\(x,NameKind.cell)∈ns):=by
 refine zC h λk e _=>?_;refine zC (zCr e) λkd e q=>?_
 have:=vC e;rcases q with rfl | ⟨h,rfl⟩
 ·exact .inl this
 ·exact .inr ⟨h,this⟩
theorem Upd.up {loc:Bool}{ns:List (Str×NameKind)}{os os':List (Option Val)}{x:Str}{v:Val}(h:Upd loc ns os x v os')(hn:(ns.map (·.1)).Nodup)(y:Str)(w:Val)(q:Loc ns os' y w):(y=x/\w=v)\/(y≠x/\Loc ns os y w):=by
 refine zC h λk e eq2=>?_;subst eq2;refine zC (zCr e) λkd e _=>?_;refine zC q λj pq1 h=>?_;obtain⟨kd',e'⟩:=pq1;by_cases hj:j=k
 ·subst hj;exact .inl ⟨by cases e'.trans e.symm;rfl,zGJ h⟩
 ·exact .inr ⟨λq=>hj (zIN hn e e' q.symm),j,⟨kd',e'⟩,by rw[put_ne hj] at h;exact h⟩
section
variable {X:Cx}{n:Nat}{sc:Scope}{m:M}{G:Gh}{e:Expr}{loc:Bool}{os os' os'':List (Option Val)}{v w:Val}
theorem Upd.put (h:Upd loc sc.names os x v os'):Put loc sc x v (L sc os) (L sc os'):=⟨h.store,λok=>h.up (scOK.nd ok)⟩
theorem Upd.aM (h:Upd loc sc.names os x v os'):Bnd X loc sc (.Name x pos) v (L sc os) (L sc os'):=.name h.put
abbrev One (v:Val)(G:Gh):QE:=λv' G'=>v'=v/\G'=G
abbrev Rd (X:Cx)(n:Nat)(sc:Scope)(e:Expr)(m:M)(G:Gh)(v:Val):Prop:=Sn X n sc e m G (One v G)
abbrev RdT (X:Cx)(n:Nat)(sc:Scope)(e:Expr)(m:M)(G:Gh)(t:Bool):Prop:=SnT X n sc e m G λt' G'=>t'=t/\G'=G
theorem Rd.to (h:Rd X n sc e m G v)(q:Q v G):Sn X n sc e m G Q:=h.mono λv' G' ⟨a,b⟩=>by rw[a];rw[b];exact q
theorem RdT.to {Q:Bool->Gh->Prop}{t:Bool}(h:RdT X n sc e m G t)(q:Q t G):SnT X n sc e m G Q:=h.mono λv' G' ⟨a,b⟩=>by rw[a];rw[b];exact q
abbrev O2 (X:Cx)(n:Nat)(f:Value->Value->Sem Value)(v w:Val)(G:Gh)(u:Val):Prop:=Op2 X n f v w G (One u G)
theorem O2.to {f:Value->Value->Sem Value}(h:O2 X n f v w G u)(q:Q u G):Op2 X n f v w G Q:=⟨λa b c d e=>zA (Op2.go h a b c d e) λx s o=>o.elim λv' G' hv hr f h=>by obtain⟨rfl,rfl⟩:=h;exact .mk _ _ hv hr f q⟩
theorem Rd.var (h:Loc sc.names os x v):Rd X n sc (.Name x pos) (L sc os) G v:=Sn.var h qA
theorem Rd.int {i:Int}{k:Nat}:Rd X n sc (.Constant (.int i) k pos) m G (.int i):=Sn.int qA
theorem Rd.str {k:Nat}:Rd X n sc (.Constant (.str x) k pos) m G (.str x):=Sn.str qA
theorem Rd.av {t:Bool}{k:Nat}:Rd X n sc (.Constant (.bool t) k pos) m G (.bool t):=Sn.av qA
theorem Rd.ai {k:Nat}:Rd X n sc (.Constant .none k pos) m G .none:=Sn.ai qA
theorem Rd.neg {i:Int}(h:Rd X n sc l m G (.int i)):Rd X n sc (.UnaryOp .USub l pos) m G (.int (-i)):=Sn.neg (h.to ⟨_,rfl,rfl,rfl⟩)
theorem Rd.glob (hg:Z7 X x v)(hk:Zf sc x):Rd X n sc (.Name x pos) m G v:=Sn.glob hg hk qA
inductive Zr:Str->Fld->Prop where
 | op:Zr "op" .op
 | dst:Zr "dst" .dst
 | args:Zr "args" .args
 | more:Zr "more" .more
 | is_volatile:Zr "is_volatile" .is_volatile
 | line:Zr "line" .line
 | number:Zr "number" .number
 | steps:Zr "steps" .steps
 | end_:Zr "end" .end_
 | name:Zr "name" .name
 | params:Zr "params" .params
 | is_static:Zr "is_static" .is_static
 | slots:Zr "slots" .slots
 | blocks:Zr "blocks" .blocks
 | registers:Zr "registers" .registers
 | has_value:Zr "has_value" .has_value
theorem Zr.eq (h:Zr x f):x=f.txt:=by cases h<;>rfl
theorem Rd.attr {o:Expr}{attr:Str}{f:Fld}{a:Addr}{k:Cls}{fs:Fld->Option Val}{pos:Pos}(hc:Z0 X)(ha:Zr attr f)(h:Rd X n sc o m G (.ref a))(e:G a=some (.inst k fs))(ef:fs f=some w)
  (hs:∀env whole,attributeBase o attr env whole=whole:=by intro _ _;rfl):Rd X n sc (.Attribute o attr pos) m G w:=Sn.attr hc f ha.eq (h.to ⟨a,k,fs,w,rfl,e,ef,rfl,rfl⟩) hs
theorem Rd.aW {j:Int}(h1:Rd X n sc o m G (.tup vs))(h2:Rd X n sc i m G (.int j))(hj:j.natAbs<cap)(hx:zy vs j=some u)(hs:∀x y,subscripted i false x y=operate [x,y] (getItem x y):=by intro _ _;rfl):Rd X n sc (.Subscript o i pos) m G u:=
 Sn.idx (h1.to (h2.to (.tup hj hx qA))) hs
theorem Rd.aF {j:Int}(h1:Rd X n sc o m G (.ref a))(e:G a=some (.list vs))(h2:Rd X n sc i m G (.int j))(hj:j.natAbs<cap)(hx:zy vs j=some u)(hs:∀x y,subscripted i false x y=operate [x,y] (getItem x y):=by intro _ _;rfl):Rd X n sc (.Subscript o i pos) m G u:=
 Sn.idx (h1.to (h2.to (.list e hj hx qA))) hs
theorem Rd.ax {j:Int}(h1:Rd X n sc o m G (.ref a))(e:G a=some (.dict es))(h2:Rd X n sc i m G (.int j))(hx:zm es j=some u)(hs:∀x y,subscripted i false x y=operate [x,y] (getItem x y):=by intro _ _;rfl):Rd X n sc (.Subscript o i pos) m G u:=
 Sn.idx (h1.to (h2.to (.dict e hx qA))) hs
theorem Rd.bin (h1:Rd X n sc l m G v)(h2:Rd X n sc r m G w)(h:O2 X n (binaryOp op) v w G u):Rd X n sc (.BinOp l op r pos) m G u:=Sn.bin (h1.to (h2.to h))
theorem Rd.cmp (h1:Rd X n sc l m G v)(h2:Rd X n sc r m G w)(h:O2 X n (compareOp op) v w G u)(hm:behindInMarks op r=false:=by with_unfolding_all rfl):Rd X n sc (.Compare l [op] [r] pos) m G u:=Sn.cmp (h1.to (h2.to h)) hm
theorem RdT.cmp {t:Bool}(h1:Rd X n sc l m G v)(h2:Rd X n sc r m G w)(h:O2 X n (compareOp op) v w G (.bool t))(hm:behindInMarks op r=false:=by with_unfolding_all rfl):RdT X n sc (.Compare l [op] [r] pos) m G t:=SnT.cmp (h1.to (h2.to (h.to ⟨t,.bool t,rfl,rfl⟩))) hm
theorem Rd.cj (hg:Zw X x ks)(hk:Zf sc x)(h:Rd X n sc l m G (.str z)):Rd X n sc (.Compare l [.In] [.Name x p] pos) m G (.bool (ks.contains z)):=Sn.cj hg hk (h.to ⟨z,rfl,rfl,rfl⟩)
theorem RdT.cj (hg:Zw X x ks)(hk:Zf sc x)(h:Rd X n sc l m G (.str z)):RdT X n sc (.Compare l [.In] [.Name x p] pos) m G (ks.contains z):=SnT.cj hg hk (h.to ⟨z,rfl,rfl,rfl⟩)
theorem RdT.bA (hg:Zw X x ks)(hk:Zf sc x)(h:Rd X n sc l m G (.str z)):RdT X n sc (.Compare l [.NotIn] [.Name x p] pos) m G (!ks.contains z):=SnT.bA hg hk (h.to ⟨z,rfl,rfl,rfl⟩)
theorem RdT.val {t:Bool}(h:Rd X n sc e m G v)(ht:Tru G v t)(hp:∀env whole,isTrue e env whole=(do let v <-whole;standAt e.pos;holding [v] (truthy v)):=by intro _ _;rfl):RdT X n sc e m G t:=SnT.val (h.to ⟨t,ht,rfl,rfl⟩) hp
theorem Rd.not {t:Bool}(h:Rd X n sc l m G v)(ht:Tru G v t):Rd X n sc (.UnaryOp .Not l pos) m G (.bool (!t)):=Sn.not (h.to ⟨t,ht,rfl,rfl⟩)
theorem RdT.not {t:Bool}(h:RdT X n sc l m G t):RdT X n sc (.UnaryOp .Not l pos) m G (!t):=SnT.not (h.to qA)
theorem Rd.aX (h:Rd X n sc a m G v):Rd X n sc (.BoolOp .And [a] pos) m G v:=Sn.aX h
theorem Rd.bG (h:Rd X n sc a m G v):Rd X n sc (.BoolOp .Or [a] pos) m G v:=Sn.bG h
theorem Rd.and {p q:Bool}(h:Rd X n sc a m G (.bool p))(k:p=true->Rd X n sc (.BoolOp .And (c::rest) pos) m G (.bool q)):Rd X n sc (.BoolOp .And (a::c::rest) pos) m G (.bool (p&&q)):=
 Sn.and (h.to ⟨p,.bool p,λe=>by rw[e];exact k e,λe=>by rw[e];exact⟨rfl,rfl⟩⟩)
theorem Rd.or {p q:Bool}(h:Rd X n sc a m G (.bool p))(k:p=false->Rd X n sc (.BoolOp .Or (c::rest) pos) m G (.bool q)):Rd X n sc (.BoolOp .Or (a::c::rest) pos) m G (.bool (p||q)):=
 Sn.or (h.to ⟨p,.bool p,λe=>by rw[e];exact⟨rfl,rfl⟩,λe=>by rw[e];exact k e⟩)
theorem RdT.aX {t:Bool}(h:RdT X n sc a m G t):RdT X n sc (.BoolOp .And [a] pos) m G t:=SnT.aX h
theorem RdT.bG {t:Bool}(h:RdT X n sc a m G t):RdT X n sc (.BoolOp .Or [a] pos) m G t:=SnT.bG h
theorem RdT.and {p q:Bool}(h:RdT X n sc a m G p)(k:p=true->RdT X n sc (.BoolOp .And (c::rest) pos) m G q):RdT X n sc (.BoolOp .And (a::c::rest) pos) m G (p&&q):=
 SnT.and (h.to ⟨λe=>by rw[e];exact k e,λe=>by rw[e];exact⟨rfl,rfl⟩⟩)
theorem RdT.or {p q:Bool}(h:RdT X n sc a m G p)(k:p=false->RdT X n sc (.BoolOp .Or (c::rest) pos) m G q):RdT X n sc (.BoolOp .Or (a::c::rest) pos) m G (p||q):=
 SnT.or (h.to ⟨λe=>by rw[e];exact⟨rfl,rfl⟩,λe=>by rw[e];exact k e⟩)
theorem Rd.ite {r:Bool}(h:RdT X n sc t m G r)(ha:r=true->Rd X n sc a m G v)(hb:r=false->Rd X n sc c m G w):Rd X n sc (.IfExp t a c pos) m G (if r then v else w):=
 Sn.ite (h.to ⟨λe=>by rw[if_pos e];exact ha e,λe=>by rw[if_neg (by rw[e];decide)];exact hb e⟩)
abbrev Rds (X:Cx)(n:Nat)(sc:Scope)(es:List Expr)(m:M)(G:Gh)(vs:List Val):Prop:=SnEs X n sc es m G λvs' G'=>vs'=vs/\G'=G
theorem Rds.to {Q:List Val->Gh->Prop}(h:Rds X n sc es m G vs)(q:Q vs G):SnEs X n sc es m G Q:=⟨λhy=>h.use hy λys s₁ vs' G1 hv hy1 f₁ h1=>by obtain⟨rfl,rfl⟩:=h1;exact .mk _ _ hv hy1.hr f₁ q⟩
theorem Rds.nil:Rds X n sc [] m G []:=SnEs.nil qA
theorem Rds.cons {es:List Expr}{vs:List Val}(h:Rd X n sc e m G v)(k:Rds X n sc es m G vs)(hp:∀env,starEach (e::es) env=(false,eval e env)::starEach es env:=by intro _;rfl):Rds X n sc (e::es) m G (v::vs):=SnEs.cons (h.to (k.to qA)) hp
theorem zEn {k:Nat}(h:Nat.ble k 1000=true):k<cap:=by have:=Nat.le_of_ble_eq_true h;unfold cap;omega
theorem Rd.tup {es:List Expr}{vs:List Val}{k:Nat}{pos:Pos}(h:Rds X n sc es m G vs)(hl:Nat.ble vs.length 1000=true:=by rfl):Rd X n sc (.Tuple es k pos) m G (.tup vs):=Sn.tup (h.to ⟨zEn hl,rfl,rfl⟩)
theorem Sn.aj (h:Rds X n sc es m G vs)(q:newList vs G Q)(hl:Nat.ble vs.length 1000=true:=by rfl):Sn X n sc (.List es pos) m G Q:=Sn.list (h.to ⟨zEn hl,q⟩)
theorem Rd.fn {id:String}{es:List Expr}{vs:List Val}(hx:Zv X)(h1:id∈(["len","list","sorted","any","all","sum","int","abs","min","set","range","enumerate","zip","isinstance","bool"]:List String))(h2:id∈(["len","sorted","any","all","sum","abs","min","isinstance"]:List String))
  (hk:Zf sc (Str.ofString id)) (hn:Zj es) (h:Rds X n sc es m G vs) (k:Blt X n (.builtin id) vs G (One v G)):Rd X n sc (.Call (.Name (Str.ofString id) p) es [] pos) m G v:=Sn.fn hx h1 h2 hk hn (h.to k)
theorem SnB.assign {Q:QS}{id:Str}{p pos:Pos}{sts:List Stmt}(h:Rd X n sc e (L sc os) G v)(u:Upd false sc.names os id v os')(k:SnB X n sc sts (L sc os') G Q)(hsw:∀env,swapsWith e (some (.Name id p)) pos.line env=pure false:=by intro _;rfl):SnB X n sc (.Assign [.Name id p] e pos::sts) (L sc os) G Q:=
 .cons (.assign (h.to ⟨_,u.put,.next k⟩) hsw)
inductive AssP (X:Cx)(n:Nat)(sc:Scope)(os:List (Option Val))(x:Str)(sts:List Stmt)(Q:QS)(v:Val)(G':Gh):Prop where
 | mk (os':List (Option Val)) (h1:Upd false sc.names os x v os') (h2:SnB X n sc sts (L sc os') G' Q)
theorem SnB.aB {Q:QS}{id:Str}{p pos:Pos}{sts:List Stmt}(h:Sn X n sc e (L sc os) G (AssP X n sc os id sts Q))(hsw:∀env,swapsWith e (some (.Name id p)) pos.line env=pure false:=by intro _;rfl):SnB X n sc (.Assign [.Name id p] e pos::sts) (L sc os) G Q:=
 .cons (.assign (h.mono λv G' q=>by cases q with | mk os' u k=>exact⟨_,u.put,.next k⟩) hsw)
theorem SnB.ret (h:Sn X n sc e m G λv G'=>Q (.ret v) m G'):SnB X n sc (.Return (some e) pos::sts) m G Q:=.cons (.ret (h.mono λ_ _ q=>.ret q))
theorem SnB.aH (h:Sn X n sc e m G Q):SnB X n sc (.Return (some e) pos::sts) m G (Back Q):=SnB.ret (h.mono λ_ _ q=>.ret q)
theorem SnB.expr (h:Sn X n sc e m G λv G'=>SnB X n sc sts m G' Q)(hsw:∀env,swapsWith e .none pos.line env=pure false:=by intro _;rfl):SnB X n sc (.Expr e pos::sts) m G Q:=.cons (.expr (h.mono λ_ _ q=>.next q) hsw)
theorem SnB.ifs {r:Bool}(h:RdT X n sc t m G r)(ha:r=true->SnB X n sc a m G (Then X n sc sts Q))(hb:r=false->SnB X n sc c m G (Then X n sc sts Q)):SnB X n sc (.If t a c pos::sts) m G Q:=.cons (.ifs (h.to ⟨ha,hb⟩))
theorem SnB.aK (h:SnB X n sc sts m G Q):SnB X n sc [] m G (Then X n sc sts Q):=.nil (.next h)
theorem SnB.aR (h:Sn X n sc e m G Q):SnB X n sc (.Return (some e) pos::rest) m G (Then X n sc sts (Back Q)):=SnB.ret (h.mono λ_ _ q=>.ret (.ret q))
theorem SnB.cont (q:Q .cont m G):SnB X n sc (.Continue pos::sts) m G Q:=.cons (.cont (.cont q))
theorem Bnds.two (u1:Upd loc sc.names os x v os')(u2:Upd loc sc.names os' y w os''):Bnds X loc sc [.Name x p1,.Name y p2] [v,w] (L sc os) (L sc os''):=.cons u1.aM (.cons u2.aM .nil)
theorem SnB.bB {k:Nat}(h:Rd X n sc e (L sc os) G (.tup [v,w]))(u1:Upd false sc.names os x v os')(u2:Upd false sc.names os' y w os'')(kk:SnB X n sc sts (L sc os'') G Q)
  (hsw:∀env,swapsWithSole [.Tuple [.Name x p1,.Name y p2] k p] e pos.line env=pure false:=by intro _;rfl) (hw:∀env,swappedStores [.Tuple [.Name x p1,.Name y p2] k p] e env=pure .none:=by intro _;rfl):SnB X n sc (.Assign [.Tuple [.Name x p1,.Name y p2] k p] e pos::sts) (L sc os) G Q:=
 .cons (.aP (h.to ⟨_,.tup (.two u1 u2),.next kk⟩) hsw hw)
theorem Sn.ref {f:Addr}{Q:QE}{id:Str}{es:List Expr}{vs:List Val}{p pos:Pos}(hd:Z3 X id f)(hk:Zf sc id)(hn:Zj es)(h:Rds X n sc es m G vs)(k:Cal X n f vs G Q):Sn X n sc (.Call (.Name id p) es [] pos) m G Q:=Sn.call hd hk hn (h.to k)
end
end
section
set_option maxRecDepth 100000
set_option maxHeartbeats 0
noncomputable def pst (i:Nat):Stmt:=(PySem.Challenge.pw_nm0021_02.main.body[i]?).getD (.Pass ⟨0,0,0,0⟩)
noncomputable def cst (s:Stmt):Stmt:=if h:s.ctorIdx=2 then Stmt.ClassDef.elim (motive_2:=λ_=>Stmt) s h (λ_ _ _ b _ _ _ _ _ _ _=>b.headD s) else s
noncomputable def fdX {α:Type}(d:α)(f:Arguments->List Stmt->Scope->α)(s:Stmt):α:=if h:s.ctorIdx=0 then Stmt.FunctionDef.elim (motive_2:=λ_=>α) s h (λ_ a b _ _ _ s _ _ _=>f a b s) else d
noncomputable def fdA:Stmt->Arguments:=fdX ⟨[],[],none,[],[],none,[]⟩ λa _ _=>a
noncomputable def fdB:Stmt->List Stmt:=fdX [] λ_ b _=>b
noncomputable def fdS:Stmt->Scope:=fdX default λ_ _ s=>s
noncomputable def dE (P:Params)(s:Str)(t:Tok)(v:Value):DictEntry:={ hash:=PyData.keyHash P s,key:=.str s t,val:=v }
noncomputable def fO (nm qn:Str)(s:Stmt)(md:Str)(t:Tok)(c:Addr):Obj:={ cls:=.type "function",data:=.func { name:=nm,qualname:=qn,params:=fdA s,body:=.stmts (fdB s),scope:=fdS s,globals:=3,closure:=[],defaults:=.none,kwdefaults:=.none,pyModule:=.str md t,code:=.ref c } }
noncomputable def cO (nm qn:Str)(t:Nat)(ln n f:Int)(r:Nat)(x y:Value)(z m:Nat):Obj:={ cls:=.type "code",data:=.fields #[.str nm t,.str qn (t+1),.str "/claim/cut.py" (t+2),.int ln 0,.int n 0,.int 0 0,.int 0 0,.int f 0,.ref r,.bool true,.int 181 0,.ref (r+1),.none,x,y,.ref z,.int m 0,.int ln 0,.str "/claim/cut.py" (m+1)] }
noncomputable def ko2 (P:Params):Obj:={ cls:=.none,data:=.dict #[] }
noncomputable def ko3 (P:Params):Obj:={ cls:=.type "dict",data:=.dict #[dE P "__name__" 165 (.str "law_nm0021_02" 588),dE P "__doc__" 166 .none,dE P "__package__" 167 .none,dE P "__loader__" 168 (.builtin "__main__.__loader__#opaque"),dE P "__spec__" 169 .none,dE P "__annotations__" 170 (.ref 6),dE P "__builtins__" 171 (.ref 4),dE P "__file__" 173 (.str "/claim/cut.py" 172),dE P "__cached__" 174 .none,dE P "Step" 225 (.ref 31),dE P "Block" 256 (.ref 52),dE P "Func" 291 (.ref 73),dE P "followers" 299 (.ref 84),dE P "ROUND" 305 (.int 4294967296 304),dE P "EFFECTS" 318 (.ref 85),dE P "DIVISIONS" 331 (.ref 86),dE P "has_effect" 338 (.ref 93),dE P "can_fault" 347 (.ref 100),dE P "is_plain" 354 (.ref 107),dE P "preds" 360 (.ref 112),dE P "postorder" 372 (.ref 119),dE P "in_place_of" 384 (.ref 126),dE P "CALLS" 393 (.ref 127),dE P "SELDOM_FREE" 421 (.ref 128),dE P "slot_steps" 431 (.ref 135),dE P "times_set" 443 (.ref 142),dE P "slot_registers" 455 (.ref 149),dE P "is_free" 466 (.ref 156),dE P "need_ahead" 479 (.ref 163),dE P "need_behind" 489 (.ref 170),dE P "needs_ahead" 506 (.ref 177),dE P "without_register" 513 (.ref 184),dE P "swept_steps" 527 (.ref 191),dE P "sweep_steps" 533 (.ref 196),dE P "is_plain_store" 543 (.ref 203),dE P "taken_slots" 560 (.ref 210),dE P "is_store_to" 571 (.ref 217),dE P "sweep_stores" 577 (.ref 222),dE P "sweep_func" 587 (.ref 229),dE P "_law_ALL" 591 (.int 4294967296 590),dE P "_law_SEE" 593 (.int 20000 592),dE P "_law_OBJECT" 595 (.int 8192 594),dE P "_law_REST" 605 (.ref 230),dE P "_law_SIZES" 614 (.ref 235),dE P "_law_numbers" 620 (.ref 240),dE P "_law_rows" 638 (.ref 247),dE P "_law_program" 644 (.ref 252),dE P "_law_made" 663 (.ref 259),dE P "_law_listing" 669 (.ref 264),dE P "_law_ends" 675 (.ref 269),dE P "_law_home" 682 (.ref 276),dE P "_law_is_there" 688 (.ref 281),dE P "_law_get" 694 (.ref 286),dE P "_law_see" 707 (.ref 293),dE P "_law_access" 721 (.ref 300),dE P "_law_value" 733 (.ref 307),dE P "_law_run" 739 (.ref 312),dE P "_law_is_less" 754 (.ref 319),dE P "_law_is_wanted" 760 (.ref 324),dE P "_law_is_swept" 766 (.ref 329),dE P "law" 772 (.ref 334)] 61 }
noncomputable def ko27 (P:Params):Obj:=cO "__init__" "Step.__init__" 201 4 5 3 22 (.ref 24) (.ref 25) 26 209
noncomputable def ko28 (P:Params):Obj:=fO "__init__" "Step.__init__" (cst (pst 1)) "corecc.code" 187 27
noncomputable def ko30 (P:Params):Obj:={ cls:=.type "dict",data:=.dict #[dE P "__module__" 196 (.str "corecc.code" 187),dE P "__firstlineno__" 200 (.int 2 199),dE P "__init__" 211 (.ref 28),dE P "__static_attributes__" 218 (.ref 29),dE P "__dict__" 220 (.ref 32),dE P "__weakref__" 222 (.ref 33),dE P "__doc__" 223 .none] 4 }
noncomputable def ko31 (P:Params):Obj:={ cls:=.type "type",data:=.cls { name:="Step",bases:=[.type "object"],mro:=[.ref 31,.type "object"],ns:=30,qualname:="Step" },slots:=#[none,none,some (.str "Step" 189),some (.str "Step" 197),some (.builtin "object.__new__"),some (.bool true)] }
noncomputable def ko48 (P:Params):Obj:=cO "__init__" "Block.__init__" 238 13 2 3 43 (.ref 45) (.ref 46) 47 243
noncomputable def ko49 (P:Params):Obj:=fO "__init__" "Block.__init__" (cst (pst 2)) "corecc.code" 187 48
noncomputable def ko51 (P:Params):Obj:={ cls:=.type "dict",data:=.dict #[dE P "__module__" 233 (.str "corecc.code" 187),dE P "__firstlineno__" 237 (.int 11 236),dE P "__init__" 245 (.ref 49),dE P "__static_attributes__" 249 (.ref 50),dE P "__dict__" 251 (.ref 53),dE P "__weakref__" 253 (.ref 54),dE P "__doc__" 254 .none] 4 }
noncomputable def ko52 (P:Params):Obj:={ cls:=.type "type",data:=.cls { name:="Block",bases:=[.type "object"],mro:=[.ref 52,.type "object"],ns:=51,qualname:="Block" },slots:=#[none,none,some (.str "Block" 226),some (.str "Block" 234),some (.builtin "object.__new__"),some (.bool true)] }
noncomputable def ko69 (P:Params):Obj:=cO "__init__" "Func.__init__" 269 19 2 3 64 (.ref 66) (.ref 67) 68 274
noncomputable def ko70 (P:Params):Obj:=fO "__init__" "Func.__init__" (cst (pst 3)) "corecc.code" 187 69
noncomputable def ko72 (P:Params):Obj:={ cls:=.type "dict",data:=.dict #[dE P "__module__" 264 (.str "corecc.code" 187),dE P "__firstlineno__" 268 (.int 17 267),dE P "__init__" 276 (.ref 70),dE P "__static_attributes__" 284 (.ref 71),dE P "__dict__" 286 (.ref 74),dE P "__weakref__" 288 (.ref 75),dE P "__doc__" 289 .none] 4 }
noncomputable def ko73 (P:Params):Obj:={ cls:=.type "type",data:=.cls { name:="Func",bases:=[.type "object"],mro:=[.ref 73,.type "object"],ns:=72,qualname:="Func" },slots:=#[none,none,some (.str "Func" 257),some (.str "Func" 265),some (.builtin "object.__new__"),some (.bool true)] }
noncomputable def ko83 (P:Params):Obj:=cO "followers" "followers" 292 27 1 3 78 (.ref 80) (.ref 81) 82 297
noncomputable def ko84 (P:Params):Obj:=fO "followers" "followers" (pst 4) "corecc.code" 187 83
noncomputable def ko85 (P:Params):Obj:={ cls:=.type "dict",data:=.dict #[dE P "store" 306 (.int 1 307),dE P "move" 308 (.int 1 309),dE P "call" 310 (.int 1 311),dE P "callreg" 312 (.int 1 313)] 4 }
noncomputable def ko86 (P:Params):Obj:={ cls:=.type "dict",data:=.dict #[dE P "div" 319 (.int 1 320),dE P "divu" 321 (.int 1 322),dE P "rem" 323 (.int 1 324),dE P "remu" 325 (.int 1 326)] 4 }
noncomputable def ko92 (P:Params):Obj:=cO "has_effect" "has_effect" 332 40 1 3 87 (.ref 89) (.ref 90) 91 336
noncomputable def ko93 (P:Params):Obj:=fO "has_effect" "has_effect" (pst 9) "corecc.flow" 300 92
noncomputable def ko99 (P:Params):Obj:=cO "can_fault" "can_fault" 339 42 1 3 94 (.ref 96) (.ref 97) 98 345
noncomputable def ko100 (P:Params):Obj:=fO "can_fault" "can_fault" (pst 10) "corecc.flow" 300 99
noncomputable def ko106 (P:Params):Obj:=cO "is_plain" "is_plain" 348 49 1 3 101 (.ref 103) (.ref 104) 105 352
noncomputable def ko107 (P:Params):Obj:=fO "is_plain" "is_plain" (pst 11) "corecc.flow" 300 106
noncomputable def ko111 (P:Params):Obj:=cO "preds" "preds" 355 51 1 3 108 .none .none 110 358
noncomputable def ko112 (P:Params):Obj:=fO "preds" "preds" (pst 12) "corecc.flow" 300 111
noncomputable def ko118 (P:Params):Obj:=cO "postorder" "postorder" 361 58 1 3 113 (.ref 115) (.ref 116) 117 370
noncomputable def ko119 (P:Params):Obj:=fO "postorder" "postorder" (pst 13) "corecc.flow" 300 118
noncomputable def ko125 (P:Params):Obj:=cO "in_place_of" "in_place_of" 373 74 5 3 120 (.ref 122) (.ref 123) 124 382
noncomputable def ko126 (P:Params):Obj:=fO "in_place_of" "in_place_of" (pst 14) "corecc.flow" 300 125
noncomputable def ko127 (P:Params):Obj:={ cls:=.type "dict",data:=.dict #[dE P "call" 387 (.int 1 388),dE P "callreg" 389 (.int 1 390)] 2 }
noncomputable def ko128 (P:Params):Obj:={ cls:=.type "dict",data:=.dict #[dE P "load" 394 (.int 1 395),dE P "store" 396 (.int 1 397),dE P "move" 398 (.int 1 399),dE P "call" 400 (.int 1 401),dE P "callreg" 402 (.int 1 403),dE P "div" 404 (.int 1 405),dE P "divu" 406 (.int 1 407),dE P "rem" 408 (.int 1 409),dE P "remu" 410 (.int 1 411)] 9 }
noncomputable def ko134 (P:Params):Obj:=cO "slot_steps" "slot_steps" 422 81 1 3 129 (.ref 131) (.ref 132) 133 429
noncomputable def ko135 (P:Params):Obj:=fO "slot_steps" "slot_steps" (pst 18) "corecc.dead" 385 134
noncomputable def ko141 (P:Params):Obj:=cO "times_set" "times_set" 432 88 2 3 136 (.ref 138) (.ref 139) 140 441
noncomputable def ko142 (P:Params):Obj:=fO "times_set" "times_set" (pst 19) "corecc.dead" 385 141
noncomputable def ko148 (P:Params):Obj:=cO "slot_registers" "slot_registers" 444 97 1 3 143 (.ref 145) (.ref 146) 147 453
noncomputable def ko149 (P:Params):Obj:=fO "slot_registers" "slot_registers" (pst 20) "corecc.dead" 385 148
noncomputable def ko155 (P:Params):Obj:=cO "is_free" "is_free" 456 109 3 3 150 (.ref 152) (.ref 153) 154 464
noncomputable def ko156 (P:Params):Obj:=fO "is_free" "is_free" (pst 21) "corecc.dead" 385 155
noncomputable def ko162 (P:Params):Obj:=cO "need_ahead" "need_ahead" 467 116 4 3 157 (.ref 159) (.ref 160) 161 477
noncomputable def ko163 (P:Params):Obj:=fO "need_ahead" "need_ahead" (pst 22) "corecc.dead" 385 162
noncomputable def ko169 (P:Params):Obj:=cO "need_behind" "need_behind" 480 129 2 3 164 (.ref 166) (.ref 167) 168 487
noncomputable def ko170 (P:Params):Obj:=fO "need_behind" "need_behind" (pst 23) "corecc.dead" 385 169
noncomputable def ko176 (P:Params):Obj:=cO "needs_ahead" "needs_ahead" 490 134 2 3 171 (.ref 173) (.ref 174) 175 504
noncomputable def ko177 (P:Params):Obj:=fO "needs_ahead" "needs_ahead" (pst 24) "corecc.dead" 385 176
noncomputable def ko183 (P:Params):Obj:=cO "without_register" "without_register" 507 156 1 3 178 (.ref 180) (.ref 181) 182 511
noncomputable def ko184 (P:Params):Obj:=fO "without_register" "without_register" (pst 25) "corecc.dead" 385 183
noncomputable def ko190 (P:Params):Obj:=cO "swept_steps" "swept_steps" 514 158 4 3 185 (.ref 187) (.ref 188) 189 525
noncomputable def ko191 (P:Params):Obj:=fO "swept_steps" "swept_steps" (pst 26) "corecc.dead" 385 190
noncomputable def ko195 (P:Params):Obj:=cO "sweep_steps" "sweep_steps" 528 177 2 3 192 .none .none 194 531
noncomputable def ko196 (P:Params):Obj:=fO "sweep_steps" "sweep_steps" (pst 27) "corecc.dead" 385 195
noncomputable def ko202 (P:Params):Obj:=cO "is_plain_store" "is_plain_store" 534 187 4 3 197 (.ref 199) (.ref 200) 201 541
noncomputable def ko203 (P:Params):Obj:=fO "is_plain_store" "is_plain_store" (pst 28) "corecc.dead" 385 202
noncomputable def ko209 (P:Params):Obj:=cO "taken_slots" "taken_slots" 544 191 3 3 204 (.ref 206) (.ref 207) 208 558
noncomputable def ko210 (P:Params):Obj:=fO "taken_slots" "taken_slots" (pst 29) "corecc.dead" 385 209
noncomputable def ko216 (P:Params):Obj:=cO "is_store_to" "is_store_to" 561 204 3 3 211 (.ref 213) (.ref 214) 215 569
noncomputable def ko217 (P:Params):Obj:=fO "is_store_to" "is_store_to" (pst 30) "corecc.dead" 385 216
noncomputable def ko221 (P:Params):Obj:=cO "sweep_stores" "sweep_stores" 572 209 3 3 218 .none .none 220 575
noncomputable def ko222 (P:Params):Obj:=fO "sweep_stores" "sweep_stores" (pst 31) "corecc.dead" 385 221
noncomputable def ko228 (P:Params):Obj:=cO "sweep_func" "sweep_func" 578 220 1 3 223 (.ref 225) (.ref 226) 227 585
noncomputable def ko229 (P:Params):Obj:=fO "sweep_func" "sweep_func" (pst 32) "corecc.dead" 385 228
noncomputable def ko230 (P:Params):Obj:={ cls:=.type "tuple",data:=.seq #[.int 27 596,.int 9 597,.int 5 598,.int 812 599,.int 10 600,.int 834 601,.int 5 602,.int 32 603,.int 271 604] }
noncomputable def ko231 (P:Params):Obj:={ cls:=.type "tuple",data:=.seq #[.int 1 606,.int 1 607] }
noncomputable def ko232 (P:Params):Obj:={ cls:=.type "tuple",data:=.seq #[.int 2 608,.int 2 609] }
noncomputable def ko233 (P:Params):Obj:={ cls:=.type "tuple",data:=.seq #[.int 4 610,.int 4 611] }
noncomputable def ko234 (P:Params):Obj:={ cls:=.type "tuple",data:=.seq #[.int 8 612,.int 4 613] }
noncomputable def ko235 (P:Params):Obj:={ cls:=.type "tuple",data:=.seq #[.ref 231,.ref 232,.ref 233,.ref 234] }
noncomputable def ko239 (P:Params):Obj:=cO "_law_numbers" "_law_numbers" 615 232 1 3 236 .none .none 238 618
noncomputable def ko240 (P:Params):Obj:=fO "_law_numbers" "_law_numbers" (pst 39) "law_nm0021_02" 588 239
noncomputable def ko246 (P:Params):Obj:=cO "_law_rows" "_law_rows" 621 235 2 3 241 (.ref 243) (.ref 244) 245 636
noncomputable def ko247 (P:Params):Obj:=fO "_law_rows" "_law_rows" (pst 40) "law_nm0021_02" 588 246
noncomputable def ko251 (P:Params):Obj:=cO "_law_program" "_law_program" 639 264 1 3 248 .none .none 250 642
noncomputable def ko252 (P:Params):Obj:=fO "_law_program" "_law_program" (pst 41) "law_nm0021_02" 588 251
noncomputable def ko258 (P:Params):Obj:=cO "_law_made" "_law_made" 645 273 3 3 253 (.ref 255) (.ref 256) 257 661
noncomputable def ko259 (P:Params):Obj:=fO "_law_made" "_law_made" (pst 42) "law_nm0021_02" 588 258
noncomputable def ko263 (P:Params):Obj:=cO "_law_listing" "_law_listing" 664 289 1 3 260 .none .none 262 667
noncomputable def ko264 (P:Params):Obj:=fO "_law_listing" "_law_listing" (pst 43) "law_nm0021_02" 588 263
noncomputable def ko268 (P:Params):Obj:=cO "_law_ends" "_law_ends" 670 291 1 3 265 .none .none 267 673
noncomputable def ko269 (P:Params):Obj:=fO "_law_ends" "_law_ends" (pst 44) "law_nm0021_02" 588 268
noncomputable def ko275 (P:Params):Obj:=cO "_law_home" "_law_home" 676 293 1 3 270 (.ref 272) (.ref 273) 274 680
noncomputable def ko276 (P:Params):Obj:=fO "_law_home" "_law_home" (pst 45) "law_nm0021_02" 588 275
noncomputable def ko280 (P:Params):Obj:=cO "_law_is_there" "_law_is_there" 683 295 3 3 277 .none .none 279 686
noncomputable def ko281 (P:Params):Obj:=fO "_law_is_there" "_law_is_there" (pst 46) "law_nm0021_02" 588 280
noncomputable def ko285 (P:Params):Obj:=cO "_law_get" "_law_get" 689 298 3 3 282 .none .none 284 692
noncomputable def ko286 (P:Params):Obj:=fO "_law_get" "_law_get" (pst 47) "law_nm0021_02" 588 285
noncomputable def ko292 (P:Params):Obj:=cO "_law_see" "_law_see" 695 300 4 3 287 (.ref 289) (.ref 290) 291 705
noncomputable def ko293 (P:Params):Obj:=fO "_law_see" "_law_see" (pst 48) "law_nm0021_02" 588 292
noncomputable def ko299 (P:Params):Obj:=cO "_law_access" "_law_access" 708 306 5 3 294 (.ref 296) (.ref 297) 298 719
noncomputable def ko300 (P:Params):Obj:=fO "_law_access" "_law_access" (pst 49) "law_nm0021_02" 588 299
noncomputable def ko306 (P:Params):Obj:=cO "_law_value" "_law_value" 722 316 6 3 301 (.ref 303) (.ref 304) 305 731
noncomputable def ko307 (P:Params):Obj:=fO "_law_value" "_law_value" (pst 50) "law_nm0021_02" 588 306
noncomputable def ko311 (P:Params):Obj:=cO "_law_run" "_law_run" 734 330 4 3 308 .none .none 310 737
noncomputable def ko312 (P:Params):Obj:=fO "_law_run" "_law_run" (pst 51) "law_nm0021_02" 588 311
noncomputable def ko318 (P:Params):Obj:=cO "_law_is_less" "_law_is_less" 740 352 2 3 313 (.ref 315) (.ref 316) 317 752
noncomputable def ko319 (P:Params):Obj:=fO "_law_is_less" "_law_is_less" (pst 52) "law_nm0021_02" 588 318
noncomputable def ko323 (P:Params):Obj:=cO "_law_is_wanted" "_law_is_wanted" 755 360 5 3 320 .none .none 322 758
noncomputable def ko324 (P:Params):Obj:=fO "_law_is_wanted" "_law_is_wanted" (pst 53) "law_nm0021_02" 588 323
noncomputable def ko328 (P:Params):Obj:=cO "_law_is_swept" "_law_is_swept" 761 380 3 3 325 .none .none 327 764
noncomputable def ko329 (P:Params):Obj:=fO "_law_is_swept" "_law_is_swept" (pst 54) "law_nm0021_02" 588 328
noncomputable def ko333 (P:Params):Obj:=cO "law" "law" 767 392 1 3 330 .none .none 332 770
noncomputable def ko334 (P:Params):Obj:=fO "law" "law" (pst 55) "law_nm0021_02" 588 333
noncomputable def as0:List Nat:=[2,3,27,28,30,31,48,49,51,52,69,70,72,73,83,84,85,86,92,93,99,100,106,107,111,112,118,119,125,126,127,128,134,135,141,142,148,149,155,156,162,163,169,170,176,177,183,184,190,191,195,196,202,203,209,210,216,217,221,222,228,229,230,231,232,233,234,235,239,240,246,247,251,252,258,259,263,264,268,269,275,276,280,281,285,286,292,293,299,300,306,307,311,312,318,319,323,324,328,329,333,334]
noncomputable def K0 (P:Params):Frag:=[(2,ko2 P),(3,ko3 P),(27,ko27 P),(28,ko28 P),(30,ko30 P),(31,ko31 P),(48,ko48 P),(49,ko49 P),(51,ko51 P),(52,ko52 P),(69,ko69 P),(70,ko70 P),(72,ko72 P),(73,ko73 P),(83,ko83 P),(84,ko84 P),(85,ko85 P),(86,ko86 P),(92,ko92 P),(93,ko93 P),(99,ko99 P),(100,ko100 P),(106,ko106 P),(107,ko107 P),(111,ko111 P),(112,ko112 P),(118,ko118 P),(119,ko119 P),(125,ko125 P),(126,ko126 P),(127,ko127 P),(128,ko128 P),(134,ko134 P),(135,ko135 P),(141,ko141 P),(142,ko142 P),(148,ko148 P),(149,ko149 P),(155,ko155 P),(156,ko156 P),(162,ko162 P),(163,ko163 P),(169,ko169 P),(170,ko170 P),(176,ko176 P),(177,ko177 P),(183,ko183 P),(184,ko184 P),(190,ko190 P),(191,ko191 P),(195,ko195 P),(196,ko196 P),(202,ko202 P),(203,ko203 P),(209,ko209 P),(210,ko210 P),(216,ko216 P),(217,ko217 P),(221,ko221 P),(222,ko222 P),(228,ko228 P),(229,ko229 P),(230,ko230 P),(231,ko231 P),(232,ko232 P),(233,ko233 P),(234,ko234 P),(235,ko235 P),(239,ko239 P),(240,ko240 P),(246,ko246 P),(247,ko247 P),(251,ko251 P),(252,ko252 P),(258,ko258 P),(259,ko259 P),(263,ko263 P),(264,ko264 P),(268,ko268 P),(269,ko269 P),(275,ko275 P),(276,ko276 P),(280,ko280 P),(281,ko281 P),(285,ko285 P),(286,ko286 P),(292,ko292 P),(293,ko293 P),(299,ko299 P),(300,ko300 P),(306,ko306 P),(307,ko307 P),(311,ko311 P),(312,ko312 P),(318,ko318 P),(319,ko319 P),(323,ko323 P),(324,ko324 P),(328,ko328 P),(329,ko329 P),(333,ko333 P),(334,ko334 P)]
theorem K0e:∀P,as0=(K0 P).map (·.1):=λP=>by kernel_rfl
noncomputable abbrev pw:=PySem.Challenge.pw_nm0021_02
noncomputable abbrev rw0:=PySem.Challenge.rw_nm0021_02
noncomputable def q0:Program:={ pw with main:={ pw.main with body:=pw.main.body.drop 55 } }
noncomputable def zB1:List Str:=[Str.ofString "__name__",Str.ofString "Step",Str.ofString "Block",Str.ofString "Func",Str.ofString "followers",Str.ofString "ROUND",Str.ofString "EFFECTS",Str.ofString "DIVISIONS",Str.ofString "has_effect",Str.ofString "can_fault",Str.ofString "is_plain",Str.ofString "preds",Str.ofString "postorder",Str.ofString "in_place_of",Str.ofString "CALLS",Str.ofString "SELDOM_FREE",Str.ofString "slot_steps",Str.ofString "times_set",Str.ofString "slot_registers",Str.ofString "is_free",Str.ofString "need_ahead",Str.ofString "need_behind",Str.ofString "needs_ahead",Str.ofString "without_register",Str.ofString "swept_steps",Str.ofString "sweep_steps",Str.ofString "is_plain_store",Str.ofString "taken_slots",Str.ofString "is_store_to",Str.ofString "sweep_stores",Str.ofString "sweep_func",Str.ofString "_law_ALL",Str.ofString "_law_SEE",Str.ofString "_law_OBJECT",Str.ofString "_law_REST",Str.ofString "_law_SIZES",Str.ofString "_law_numbers",Str.ofString "_law_rows",Str.ofString "_law_program",Str.ofString "_law_made",Str.ofString "_law_listing",Str.ofString "_law_ends",Str.ofString "_law_home",Str.ofString "_law_is_there",Str.ofString "_law_get",Str.ofString "_law_see",Str.ofString "_law_access",Str.ofString "_law_value",Str.ofString "_law_run",Str.ofString "_law_is_less",Str.ofString "_law_is_wanted",Str.ofString "_law_is_swept"]
def zEq (w:World):Prop:=(openEnds treeTable rw0.row.prog w 4250).map (λs=>(openSeen q0 zB1 (importedModules rw0.row.prog.main.body) (λs=>xlAt q0 [] s&&recOk (RowW.records rw0.row.toRowW) s) true s,(kHook K0 as0 K0e).obs s))=some (openGood q0 zB1,(kHook K0 as0 K0e).val w)
theorem zJd:∀w:World,zEq (w.withFollow "special-get-raises" false):=λw=>by unfold zEq;kernel_rfl
theorem zJc:∀w:World,zEq (w.withFollow "special-get-raises" true):=λw=>by unfold zEq;kernel_rfl
theorem zK4:LeftO rw0.row.prog q0 zB1 (λs=>xlAt q0 [] s&&recOk (RowW.records rw0.row.toRowW) s) (kHook K0 as0 K0e).obs (kHook K0 as0 K0e).val 4250:=λw=>by
 have e:=World.withFollow_self w "special-get-raises";show zEq w;rw[<-e];cases w.params.followText "special-get-raises"
 ·exact zJd w
 ·exact zJc w
end
section
noncomputable abbrev zHn:Scope:=⟨.function,[("self",.local),("op",.local),("dst",.local),("args",.local),("more",.local)],false,false,[]⟩
abbrev zBn:Addr:=28
noncomputable abbrev zGC:Scope:=⟨.function,[("self",.local),("number",.local)],false,false,[]⟩
abbrev zAx:Addr:=49
noncomputable abbrev zHo:Scope:=⟨.function,[("self",.local),("name",.local)],false,false,[]⟩
abbrev zDP:Addr:=70
noncomputable abbrev zBN:Scope:=⟨.function,[("block",.local),("end",.local),("list",.globalImplicit)],false,false,[]⟩
abbrev jS:Addr:=84
noncomputable abbrev zAc:Scope:=⟨.function,[("step",.local),("EFFECTS",.globalImplicit)],false,false,[]⟩
abbrev yt:Addr:=93
noncomputable abbrev zBO:Scope:=⟨.function,[("step",.local),("kind",.local),("value",.local),("DIVISIONS",.globalImplicit),("ROUND",.globalImplicit)],false,false,[]⟩
abbrev jT:Addr:=100
noncomputable abbrev zCI:Scope:=⟨.function,[("step",.local),("has_effect",.globalImplicit),("can_fault",.globalImplicit)],false,false,[]⟩
abbrev uQ:Addr:=107
noncomputable abbrev zCk:Scope:=⟨.function,[("func",.local),("block",.local),("found",.local),("number",.local),("followers",.globalImplicit)],false,false,[("fast",.str "func"),("fast",.str "block"),("fast",.str "found"),("fast",.str "number")]⟩
noncomputable abbrev zCF:Scope:=⟨.function,[(".0",.local),("block",.local)],false,false,[]⟩
abbrev zCd:Addr:=112
noncomputable abbrev uW:Scope:=⟨.function,[("func",.local),("found",.local),("seen",.local),("stack",.local),("top",.local),("number",.local),("followers",.globalImplicit),("len",.globalImplicit)],false,false,[]⟩
abbrev jQ:Addr:=119
noncomputable abbrev vg:Scope:=⟨.function,[("step",.local),("op",.local),("dst",.local),("args",.local),("more",.local),("found",.local),("Step",.globalImplicit)],false,false,[]⟩
abbrev yX:Addr:=126
noncomputable abbrev zA9:Scope:=⟨.function,[("func",.local),("found",.local),("block",.local),("step",.local)],false,false,[]⟩
abbrev yp:Addr:=135
noncomputable abbrev uV:Scope:=⟨.function,[("func",.local),("registers",.local),("found",.local),("register",.local),("block",.local),("step",.local)],false,false,[]⟩
abbrev jP:Addr:=142
noncomputable abbrev jy:Scope:=⟨.function,[("func",.local),("slots",.local),("taken",.local),("steps",.local),("step",.local),("often",.local),("set",.globalImplicit),("slot_steps",.globalImplicit),("times_set",.globalImplicit)],false,false,[]⟩
abbrev w6:Addr:=149
noncomputable abbrev zD4:Scope:=⟨.function,[("func",.local),("addresses",.local),("step",.local),("kind",.local),("value",.local),("SELDOM_FREE",.globalImplicit),("is_plain",.globalImplicit)],false,false,[]⟩
abbrev vU:Addr:=156
noncomputable abbrev j5:Scope:=⟨.function,[("func",.local),("addresses",.local),("block",.local),("here",.local),("kind",.local),("value",.local),("step",.local),("is_free",.globalImplicit)],false,false,[]⟩
abbrev yq:Addr:=163
noncomputable abbrev jK:Scope:=⟨.function,[("block",.local),("ahead",.local),("found",.local),("follower",.local),("set",.globalImplicit),("followers",.globalImplicit)],false,false,[]⟩
abbrev yR:Addr:=170
noncomputable abbrev jJ:Scope:=⟨.function,[("func",.local),("addresses",.local),("waiting",.local),("before",.local),("ahead",.local),("is_waiting",.local),("number",.local),("at",.local),("block",.local),("found",.local),("other",.local),("postorder",.globalImplicit),("preds",.globalImplicit),("set",.globalImplicit),("len",.globalImplicit),("need_ahead",.globalImplicit),("need_behind",.globalImplicit)],false,false,[]⟩
abbrev yQ:Addr:=177
noncomputable abbrev jN:Scope:=⟨.function,[("step",.local),("in_place_of",.globalImplicit)],false,false,[]⟩
abbrev wS:Addr:=184
noncomputable abbrev jH:Scope:=⟨.function,[("func",.local),("addresses",.local),("block",.local),("here",.local),("kind",.local),("value",.local),("kept",.local),("step",.local),("is_free",.globalImplicit),("CALLS",.globalImplicit),("without_register",.globalImplicit)],false,false,[]⟩
abbrev yO:Addr:=191
noncomputable abbrev jI:Scope:=⟨.function,[("func",.local),("addresses",.local),("ahead",.local),("is_changed",.local),("number",.local),("block",.local),("kept",.local),("needs_ahead",.globalImplicit),("sorted",.globalImplicit),("swept_steps",.globalImplicit),("need_behind",.globalImplicit),("len",.globalImplicit),("any",.globalImplicit),("zip",.globalImplicit)],false,false,[("fast",.str "func"),("fast",.str "addresses"),("fast",.str "ahead"),("fast",.str "is_changed"),("fast",.str "number"),("fast",.str "block"),("fast",.str "kept"),("fast",.str "one"),("fast",.str "other")]⟩
noncomputable abbrev sc_sweep_steps_c1:Scope:=⟨.function,[(".0",.local),("one",.local),("other",.local)],false,false,[]⟩
abbrev yP:Addr:=196
noncomputable abbrev uD:Scope:=⟨.function,[("func",.local),("step",.local),("place",.local),("slot",.local)],false,false,[]⟩
abbrev w7:Addr:=203
noncomputable abbrev wz:Scope:=⟨.function,[("func",.local),("addresses",.local),("taken",.local),("found",.local),("block",.local),("step",.local),("place",.local),("operand",.local),("slot",.local),("kind",.local),("value",.local),("set",.globalImplicit),("enumerate",.globalImplicit),("is_plain_store",.globalImplicit)],false,false,[]⟩
abbrev yN:Addr:=210
noncomputable abbrev vf:Scope:=⟨.function,[("step",.local),("addresses",.local),("taken",.local),("kind",.local),("value",.local)],false,false,[]⟩
abbrev yW:Addr:=217
noncomputable abbrev yc:Scope:=⟨.function,[("func",.local),("addresses",.cell),("taken",.cell),("is_changed",.local),("block",.local),("kept",.local),("taken_slots",.globalImplicit),("len",.globalImplicit)],false,false,[("fast",.str "func"),("fast",.str "addresses"),("fast",.str "taken"),("fast",.str "is_changed"),("fast",.str "block"),("fast",.str "step"),("fast",.str "kept")]⟩
noncomputable abbrev j4:Scope:=⟨.function,[(".0",.local),("step",.local),("is_store_to",.globalImplicit),("addresses",.cell),("taken",.cell)],false,false,[]⟩
abbrev yB:Addr:=222
noncomputable abbrev zA8:Scope:=⟨.function,[("func",.local),("addresses",.local),("taken",.local),("is_changed",.local),("slot_registers",.globalImplicit),("sweep_steps",.globalImplicit),("sweep_stores",.globalImplicit)],false,false,[]⟩
abbrev yo:Addr:=229
noncomputable abbrev vb:Scope:=⟨.function,[("script",.local),("numbers",.local),("list",.globalImplicit),("_law_REST",.globalImplicit),("len",.globalImplicit)],false,false,[("fast",.str "script"),("fast",.str "number"),("fast",.str "numbers")]⟩
noncomputable abbrev uA:Scope:=⟨.function,[(".0",.local),("number",.local)],false,false,[]⟩
abbrev yT:Addr:=240
noncomputable abbrev ut:Scope:=⟨.function,[("number",.local),("slots",.local),("kind",.local),("rest",.local),("dst",.local),("one",.local),("slot",.local),("spot",.local),("near",.local),("width",.local),("way",.local),("free",.local),("min",.globalImplicit)],false,false,[]⟩
abbrev uM:Addr:=247
noncomputable abbrev wA:Scope:=⟨.function,[("numbers",.cell),("place",.local),("slots",.local),("entry",.local),("parts",.local),("number",.local),("last",.local),("range",.globalImplicit),("enumerate",.globalImplicit),("_law_rows",.globalImplicit)],false,false,[("fast",.str "numbers"),("fast",.str "place"),("fast",.str "slots"),("fast",.str "entry"),("fast",.str "parts"),("fast",.str "number"),("fast",.str "last")]⟩
noncomputable abbrev jz:Scope:=⟨.function,[(".0",.local),("place",.local),("_law_SIZES",.globalImplicit),("numbers",.cell)],false,false,[]⟩
abbrev yS:Addr:=252
noncomputable abbrev uu:Scope:=⟨.function,[("parts",.local),("ends",.local),("slots",.local),("drawn",.local),("number",.local),("rows",.local),("block",.local),("op",.local),("dst",.local),("args",.local),("more",.local),("free",.local),("each",.local),("Func",.globalImplicit),("enumerate",.globalImplicit),("Block",.globalImplicit),("Step",.globalImplicit),("list",.globalImplicit)],false,false,[]⟩
abbrev uN:Addr:=259
noncomputable abbrev vc:Scope:=⟨.function,[("body",.local)],false,false,[("fast",.str "body"),("fast",.str "block"),("fast",.str "each")]⟩
noncomputable abbrev uC:Scope:=⟨.function,[(".0",.local),("each",.local),("list",.globalImplicit)],false,false,[]⟩
noncomputable abbrev uB:Scope:=⟨.function,[(".0",.local),("block",.local)],false,false,[]⟩
abbrev yU:Addr:=264
noncomputable abbrev zCH:Scope:=⟨.function,[("body",.local)],false,false,[("fast",.str "body"),("fast",.str "block")]⟩
noncomputable abbrev vd:Scope:=⟨.function,[(".0",.local),("block",.local),("list",.globalImplicit)],false,false,[]⟩
abbrev uP:Addr:=269
noncomputable abbrev zCG:Scope:=⟨.function,[("number",.local)],false,false,[]⟩
abbrev uO:Addr:=276
noncomputable abbrev uv:Scope:=⟨.function,[("slots",.local),("at",.cell),("width",.cell),("spans",.local),("_law_OBJECT",.globalImplicit),("enumerate",.globalImplicit),("any",.globalImplicit)],false,false,[("fast",.str "slots"),("fast",.str "at"),("fast",.str "width"),("fast",.str "place"),("fast",.str "pair"),("fast",.str "spans"),("fast",.str "first"),("fast",.str "size")]⟩
noncomputable abbrev j7:Scope:=⟨.function,[(".0",.local),("place",.local),("pair",.local),("_law_home",.globalImplicit)],false,false,[]⟩
noncomputable abbrev j6:Scope:=⟨.function,[(".0",.local),("first",.local),("size",.local),("at",.cell),("width",.cell)],false,false,[]⟩
abbrev yC:Addr:=281
noncomputable abbrev zD3:Scope:=⟨.function,[("memory",.cell),("at",.cell),("width",.local),("sum",.globalImplicit),("range",.globalImplicit)],false,false,[("fast",.str "memory"),("fast",.str "at"),("fast",.str "width"),("fast",.str "place")]⟩
noncomputable abbrev zAb:Scope:=⟨.function,[(".0",.local),("place",.local),("at",.cell),("memory",.cell)],false,false,[]⟩
abbrev vT:Addr:=286
noncomputable abbrev zD2:Scope:=⟨.function,[("at",.local),("slots",.local),("memory",.local),("noted",.local),("near",.local),("far",.local),("beyond",.local),("_law_is_there",.globalImplicit),("_law_get",.globalImplicit),("len",.globalImplicit)],false,false,[]⟩
abbrev vR:Addr:=293
noncomputable abbrev j9:Scope:=⟨.function,[("op",.local),("known",.local),("more",.local),("slots",.local),("memory",.local),("width",.local),("place",.local),("value",.local),("_law_is_there",.globalImplicit),("range",.globalImplicit),("_law_get",.globalImplicit)],false,false,[]⟩
abbrev yr:Addr:=300
noncomputable abbrev zBM:Scope:=⟨.function,[("op",.local),("known",.local),("more",.local),("slots",.local),("memory",.local),("noted",.local),("_law_access",.globalImplicit),("_law_home",.globalImplicit),("_law_SEE",.globalImplicit),("_law_see",.globalImplicit)],false,false,[]⟩
abbrev jR:Addr:=307
noncomputable abbrev zAF:Scope:=⟨.function,[("parts",.local),("ends",.local),("slots",.local),("value",.local),("held",.cell),("memory",.local),("noted",.local),("at",.local),("how",.local),("visit",.local),("op",.local),("dst",.local),("args",.local),("more",.local),("free",.local),("known",.local),("found",.local),("_law_OBJECT",.globalImplicit),("range",.globalImplicit),("_law_value",.globalImplicit),("_law_ALL",.globalImplicit),("_law_get",.globalImplicit)],false,false,[("fast",.str "parts"),("fast",.str "ends"),("fast",.str "slots"),("fast",.str "value"),("fast",.str "held"),("fast",.str "memory"),("fast",.str "noted"),("fast",.str "at"),("fast",.str "how"),("fast",.str "visit"),("fast",.str "op"),("fast",.str "dst"),("fast",.str "args"),("fast",.str "more"),("fast",.str "free"),("fast",.str "kind"),("fast",.str "which"),("fast",.str "known"),("fast",.str "found")]⟩
noncomputable abbrev zAa:Scope:=⟨.function,[(".0",.local),("kind",.local),("which",.local),("held",.cell)],false,false,[]⟩
abbrev vS:Addr:=312
noncomputable abbrev wB:Scope:=⟨.function,[("left",.local),("was",.local),("place",.local),("op",.local),("dst",.local),("args",.local),("more",.local),("free",.local),("row",.local),("len",.globalImplicit)],false,false,[]⟩
abbrev yV:Addr:=319
noncomputable abbrev yY:Scope:=⟨.function,[("parts",.local),("ends",.local),("at",.local),("place",.local),("cell",.local),("operand",.local),("waiting",.local),("seen",.cell),("here",.local),("first",.local),("is_open",.local),("op",.local),("dst",.local),("args",.local),("more",.local),("free",.local),("goals",.local),("list",.globalImplicit)],false,false,[("fast",.str "parts"),("fast",.str "ends"),("fast",.str "at"),("fast",.str "place"),("fast",.str "cell"),("fast",.str "operand"),("fast",.str "waiting"),("fast",.str "seen"),("fast",.str "here"),("fast",.str "first"),("fast",.str "is_open"),("fast",.str "op"),("fast",.str "dst"),("fast",.str "args"),("fast",.str "more"),("fast",.str "free"),("fast",.str "goals"),("fast",.str "goal")]⟩
noncomputable abbrev wH:Scope:=⟨.function,[(".0",.local),("goal",.local),("seen",.cell)],false,false,[]⟩
abbrev wr:Addr:=324
noncomputable abbrev yd:Scope:=⟨.function,[("parts",.local),("ends",.local),("slots",.local),("stored",.local),("read",.cell),("at",.local),("rows",.local),("place",.local),("row",.local),("op",.local),("dst",.local),("args",.local),("more",.local),("free",.local),("spot",.local),("operand",.local),("is_just",.local),("enumerate",.globalImplicit),("_law_is_wanted",.globalImplicit),("all",.globalImplicit)],false,false,[("fast",.str "parts"),("fast",.str "ends"),("fast",.str "slots"),("fast",.str "stored"),("fast",.str "read"),("fast",.str "at"),("fast",.str "rows"),("fast",.str "place"),("fast",.str "row"),("fast",.str "op"),("fast",.str "dst"),("fast",.str "args"),("fast",.str "more"),("fast",.str "free"),("fast",.str "spot"),("fast",.str "operand"),("fast",.str "is_just"),("fast",.str "cell")]⟩
noncomputable abbrev j8:Scope:=⟨.function,[(".0",.local),("cell",.local),("read",.cell)],false,false,[]⟩
abbrev yD:Addr:=329
noncomputable abbrev zHP:Scope:=⟨.function,[("script",.local),("numbers",.local),("parts",.local),("ends",.local),("slots",.local),("value",.local),("due",.local),("body",.local),("left",.cell),("says",.local),("turn",.local),("was",.cell),("_law_numbers",.globalImplicit),("_law_program",.globalImplicit),("_law_run",.globalImplicit),("_law_made",.globalImplicit),("list",.globalImplicit),("_law_listing",.globalImplicit),("range",.globalImplicit),("sweep_func",.globalImplicit),("isinstance",.globalImplicit),("bool",.globalImplicit),("_law_ends",.globalImplicit),("len",.globalImplicit),("all",.globalImplicit),("_law_is_swept",.globalImplicit)],false,false,[("fast",.str "script"),("fast",.str "numbers"),("fast",.str "parts"),("fast",.str "ends"),("fast",.str "slots"),("fast",.str "value"),("fast",.str "due"),("fast",.str "body"),("fast",.str "left"),("fast",.str "says"),("fast",.str "turn"),("fast",.str "was"),("fast",.str "at")]⟩
noncomputable abbrev uw:Scope:=⟨.function,[(".0",.local),("at",.local),("_law_is_less",.globalImplicit),("left",.cell),("was",.cell)],false,false,[]⟩
abbrev zFi:Addr:=334
structure Yy where
 a:Addr
 ps:List Str
 sc:Scope
 st:Stmt
noncomputable def topF:List (Str×Addr):=[⟨"followers",jS⟩,⟨"has_effect",yt⟩,⟨"can_fault",jT⟩,⟨"is_plain",uQ⟩,⟨"preds",zCd⟩,⟨"postorder",jQ⟩,⟨"in_place_of",yX⟩,⟨"slot_steps",yp⟩,⟨"times_set",jP⟩,⟨"slot_registers",w6⟩,⟨"is_free",vU⟩,⟨"need_ahead",yq⟩,⟨"need_behind",yR⟩,⟨"needs_ahead",yQ⟩,⟨"without_register",wS⟩,⟨"swept_steps",yO⟩,⟨"sweep_steps",yP⟩,⟨"is_plain_store",w7⟩,⟨"taken_slots",yN⟩,⟨"is_store_to",yW⟩,⟨"sweep_stores",yB⟩,⟨"sweep_func",yo⟩,⟨"_law_numbers",yT⟩,⟨"_law_rows",uM⟩,⟨"_law_program",yS⟩,⟨"_law_made",uN⟩,⟨"_law_listing",yU⟩,⟨"_law_ends",uP⟩,⟨"_law_home",uO⟩,⟨"_law_is_there",yC⟩,⟨"_law_get",vT⟩,⟨"_law_see",vR⟩,⟨"_law_access",yr⟩,⟨"_law_value",jR⟩,⟨"_law_run",vS⟩,⟨"_law_is_less",yV⟩,⟨"_law_is_wanted",wr⟩,⟨"_law_is_swept",yD⟩,⟨"law",zFi⟩]
noncomputable def topD:List Yy:=[⟨zBn,["self","op","dst","args","more"],zHn,(cst (pst 1))⟩,⟨zAx,["self","number"],zGC,(cst (pst 2))⟩,⟨zDP,["self","name"],zHo,(cst (pst 3))⟩,⟨jS,["block"],zBN,(pst 4)⟩,⟨yt,["step"],zAc,(pst 9)⟩,⟨jT,["step"],zBO,(pst 10)⟩,⟨uQ,["step"],zCI,(pst 11)⟩,⟨zCd,["func"],zCk,(pst 12)⟩,⟨jQ,["func"],uW,(pst 13)⟩,⟨yX,["step","op","dst","args","more"],vg,(pst 14)⟩,⟨yp,["func"],zA9,(pst 18)⟩,⟨jP,["func","registers"],uV,(pst 19)⟩,⟨w6,["func"],jy,(pst 20)⟩,⟨vU,["func","addresses","step"],zD4,(pst 21)⟩,⟨yq,["func","addresses","block","here"],j5,(pst 22)⟩,⟨yR,["block","ahead"],jK,(pst 23)⟩,⟨yQ,["func","addresses"],jJ,(pst 24)⟩,⟨wS,["step"],jN,(pst 25)⟩,⟨yO,["func","addresses","block","here"],jH,(pst 26)⟩,⟨yP,["func","addresses"],jI,(pst 27)⟩,⟨w7,["func","step","place","slot"],uD,(pst 28)⟩,⟨yN,["func","addresses","taken"],wz,(pst 29)⟩,⟨yW,["step","addresses","taken"],vf,(pst 30)⟩,⟨yB,["func","addresses","taken"],yc,(pst 31)⟩,⟨yo,["func"],zA8,(pst 32)⟩,⟨yT,["script"],vb,(pst 39)⟩,⟨uM,["number","slots"],ut,(pst 40)⟩,⟨yS,["numbers"],wA,(pst 41)⟩,⟨uN,["parts","ends","slots"],uu,(pst 42)⟩,⟨yU,["body"],vc,(pst 43)⟩,⟨uP,["body"],zCH,(pst 44)⟩,⟨uO,["number"],zCG,(pst 45)⟩,⟨yC,["slots","at","width"],uv,(pst 46)⟩,⟨vT,["memory","at","width"],zD3,(pst 47)⟩,⟨vR,["at","slots","memory","noted"],zD2,(pst 48)⟩,⟨yr,["op","known","more","slots","memory"],j9,(pst 49)⟩,⟨jR,["op","known","more","slots","memory","noted"],zBM,(pst 50)⟩,⟨vS,["parts","ends","slots","value"],zAF,(pst 51)⟩,⟨yV,["left","was"],wB,(pst 52)⟩,⟨wr,["parts","ends","at","place","cell"],yY,(pst 53)⟩,⟨yD,["parts","ends","slots"],yd,(pst 54)⟩,⟨zFi,["script"],zHP,(pst 55)⟩]
structure Tops (X:Cx):Prop where
 cls:Z0 X
 blt:Zv X
 f_Step:Zx X "Step" .step zBn
 f_Block:Zx X "Block" .block zAx
 f_Func:Zx X "Func" .func zDP
 g_ROUND:Z7 X "ROUND" (.int 4294967296)
 g_EFFECTS:Zw X "EFFECTS" ["store","move","call","callreg"]
 g_DIVISIONS:Zw X "DIVISIONS" ["div","divu","rem","remu"]
 g_CALLS:Zw X "CALLS" ["call","callreg"]
 g_SELDOM_FREE:Zw X "SELDOM_FREE" ["load","store","move","call","callreg","div","divu","rem","remu"]
 g_law_ALL:Z7 X "_law_ALL" (.int 4294967296)
 g_law_SEE:Z7 X "_law_SEE" (.int 20000)
 g_law_OBJECT:Z7 X "_law_OBJECT" (.int 8192)
 g_law_REST:Z7 X "_law_REST" (.tup [(.int 27),(.int 9),(.int 5),(.int 812),(.int 10),(.int 834),(.int 5),(.int 32),(.int 271)])
 g_law_SIZES:Z7 X "_law_SIZES" (.tup [(.tup [(.int 1),(.int 1)]),(.tup [(.int 2),(.int 2)]),(.tup [(.int 4),(.int 4)]),(.tup [(.int 8),(.int 4)])])
 fs:∀r∈topF,Z3 X r.1 r.2
 ds:∀r∈topD,Yj X r.a r.ps r.sc (fdB r.st)
theorem mi {α:Type}{l:List α}{a:α}(i:Nat)(h:l[i]?=some a):a∈l:=mem_of_getElem? h
theorem ac {α:Type}{P:α->Prop}{a:α}{l:List α}(h:P a)(k:∀z∈l,P z):∀z∈a::l,P z:=List.forall_mem_cons.mpr ⟨h,k⟩
theorem an {α:Type}{P:α->Prop}:∀z∈([]:List α),P z:=λ_ q=>absurd q not_mem_nil
section
variable {X:Cx}
theorem Tops.f (T:Tops X)(k:Nat){x:Str}{a:Addr}(h:topF[k]?=some ⟨x,a⟩):Z3 X x a:=T.fs ⟨_,_⟩ (mi k h)
theorem Tops.d (T:Tops X)(k:Nat){a:Addr}{ps:List Str}{sc:Scope}{st:Stmt}(h:topD[k]?=some ⟨a,ps,sc,st⟩):Yj X a ps sc (fdB st):=T.ds ⟨a,ps,sc,st⟩ (mi k h)
end
end
section
noncomputable def ini (ns:List (Str×NameKind)):List Val->List (Option Val):=List.rec (λ_=>[]) (λ_ _ ih vs=>List.rec (none::ih []) (λv vs _=>some v::ih vs) vs) ns
theorem zJi (h:ps.length=vs.length)(e:ps=(ns.take ps.length).map (·.1)){k:Nat}(h1:some (x,kd)=nth ns k)(h2:some v=vl (ini ns vs) k):(x,v)∈ps.zip vs:=by
 induction ns generalizing ps vs k with
 | nil=>cases h1
 | cons p ns ih=>
  cases vs with
  | nil=>cases ps with
   | nil=>cases k with
    | zero=>cases h2
    | succ k=>exact ih (ps:=[]) (vs:=[]) rfl rfl h1 h2
   | cons=>cases h
  | cons w vs=>cases ps with
   | nil=>cases h
   | cons y ps=>
    obtain⟨rfl,e'⟩:=List.cons.inj (e:_::_=p.1::(ns.take ps.length).map (·.1));cases k with
    | zero=>cases h1;cases h2;exact .head _
    | succ k=>exact .tail _ (ih (Nat.succ.inj h) e' h1 h2)
theorem Cal.start {n:Nat}(D:Yj X f ps scope body)(hl:ps.length=vs.length)(hi:ps=(scope.names.take ps.length).map (·.1))(h:SnB X n scope body (L scope (ini scope.names vs)) G (Back Q)):Cal X (n+1) f vs G Q:=
 .def_ D hl _ (λ_ _ ⟨_,⟨_,e⟩,q⟩=>zJi hl hi e q) h
theorem zJa {α:Type}{a:α}{l:List α}(k:Nat)(h:some a=nth l k):a∈l:=vC h
noncomputable def rk (b:Bool):Str:=if b then "r" else "k"
abbrev Opd:=Bool×Int
noncomputable def opdV (o:Opd):Val:=.tup [.str (rk o.1),.int o.2]
theorem Rd.dm {n:Nat}{b:Bool}{i:Int}{k kk:Nat}(h:x=rk b)(he:Rd X n sc e m G (.int i))(hp:∀env,starEach [e] env=(false,eval e env)::starEach [] env:=by intro _;rfl):Rd X n sc (.Tuple [.Constant (.str x) k p1,e] kk pos) m G (opdV (b,i)):=
 Rd.tup (.cons (v:=.str (rk b)) (h▸.str) (.cons he .nil hp))
end
local macro_rules | `(tactic| walk_at $s:str) => do
 let k:=s.getString.toNat?.getD 40
 if k=40 then Lean.Macro.throwUnsupported
 `(tactic| first | exact Loc.at $(Lean.quote k) rfl rfl | exact Upd.at $(Lean.quote k) rfl | exact zJa $(Lean.quote k) rfl | walk_at $(Lean.quote (toString (k+1))))
local macro_rules | `(tactic| walk_at "r") => `(tactic| first
 | (with_reducible first | exact Rds.nil | exact Rd.int | exact Rd.str | exact Rd.av | exact Rd.ai)
 | ((with_reducible first | refine' Rd.var ?h | refine' Rd.neg ?h);case h=>walk_at"r")
 | ((first | guard_target =~ Loc _ _ _ _ | guard_target =~ Upd _ _ _ _ _ _ | guard_target =~ Zf _ _);walk_at"0")
 | ((with_reducible first | apply Rd.attr | apply Rds.cons | apply Rd.tup | apply Rd.dm | constructor)<;>first | rfl | (intro _;rfl) | (intro _ _;rfl) | walk_at"r" | assumption | exact Tops.cls (by assumption)))
section
noncomputable def opL:List Str:=(["load","store","move","call","callreg","div","divu","rem","remu","slot","copy","const","name","add","sub","mul","and","or","xor","shl","shr","sar","lt","ltu","eq","ne","neg","not","sx8","sx16","zx8","zx16","jump","branch","table","give"]:List String).map Str.ofString
noncomputable def opS (k:Nat):Str:=opL.getD k Str.empty
noncomputable def jB (k:Nat):Bool:=Nat.ble k 8
noncomputable def zAo (k:Nat):Bool:=Nat.ble 1 k&&Nat.ble k 4
noncomputable def zFD (k:Nat):Bool:=Nat.ble 5 k&&Nat.ble k 8
noncomputable def wT (k:Nat):Bool:=Nat.beq k 3||Nat.beq k 4
theorem zE9:∀k<36,(["load","store","move","call","callreg","div","divu","rem","remu"]:List Str).contains (opS k)=jB k:=by decide +kernel
theorem zJ2:∀k<36,(["store","move","call","callreg"]:List Str).contains (opS k)=zAo k:=by decide +kernel
theorem zJ3:∀k<36,(["div","divu","rem","remu"]:List Str).contains (opS k)=zFD k:=by decide +kernel
theorem zIH:∀k<36,(["call","callreg"]:List Str).contains (opS k)=wT k:=by decide +kernel
theorem zEa:∀k<36,(opS k == Str.ofString "load")=Nat.beq k 0:=by decide +kernel
theorem zCq:∀k<36,(opS k == Str.ofString "store")=Nat.beq k 1:=by decide +kernel
theorem zIF:∀k<36,(opS k == Str.ofString "slot")=Nat.beq k 9:=by decide +kernel
theorem zCQ:∀k<36,(opS k == Str.ofString "copy")=Nat.beq k 10:=by decide +kernel
theorem zIG:∀k<36,(opS k == Str.ofString "jump")=Nat.beq k 32:=by decide +kernel
theorem zEb:∀k<36,(opS k == Str.ofString "branch")=Nat.beq k 33:=by decide +kernel
theorem zGT:∀k<36,(opS k == Str.ofString "table")=Nat.beq k 34:=by decide +kernel
theorem rk_r:∀b,(rk b == Str.ofString "r")=b:=by decide +kernel
theorem rk_k:∀b,(rk b == Str.ofString "k")=!b:=by decide +kernel
structure PS where
 op:Nat
 dst:Int
 args:List (Bool×Int)
 more:Val
 vol:Bool
structure Zu (fs:Fld->Option Val)(p:PS)(la:Addr):Prop where
 op:fs .op=some (.str (opS p.op))
 dst:fs .dst=some (.int p.dst)
 args:fs .args=some (.ref la)
 more:fs .more=some p.more
 vol:fs .is_volatile=some (.bool p.vol)
 line:∃i,fs .line=some (.int i)
inductive Y1 (G:Gh)(a:Addr)(p:PS):Prop where
 | mk (fs:Fld->Option Val) (la:Addr) (h1:G a=some (.inst .step fs)) (h2:Zu fs p la) (h3:G la=some (.list (p.args.map opdV)))
structure Zg (G:Gh)(a:Addr)(p:PS):Prop where
 ok:Y1 G a p
 op:p.op<36
noncomputable def wp (p:PS):Bool:=if Nat.beq p.op 0||p.vol then true else if !zFD p.op then false else match p.args[1]? with
 | some o=>o.1||Int.fmod o.2 4294967296 == 0
 | none=>true
noncomputable def je (p:PS):Bool:=!(zAo p.op||p.vol)&&!wp p
variable {X:Cx}{n:Nat}{G:Gh}
theorem wD {j:Int}{k:Nat}(h:0<=j)(h':j.toNat<k):j.natAbs<k:=by obtain⟨n,rfl⟩:=Int.eq_ofNat_of_zero_le h;exact h'
theorem zA0 (T:Tops X)(h:Zg G a p)(k:Q (.bool (zAo p.op||p.vol)) G):Cal X (n+1) yt [.ref a] G Q:=by obtain⟨⟨fs,la,h1,⟨f1,f2,f3,f4,f5,_⟩,h2⟩,ho⟩:=h;refine Cal.start (T.d 4 rfl) rfl rfl ?_;refine SnB.aH (Rd.to (v:=.bool (zAo p.op||p.vol)) ?_ k);rw[<-zJ2 p.op ho];refine Rd.or (Rd.cj T.g_EFFECTS ?_ ?_) λ_=>Rd.bG ?_<;>walk_at"r"
noncomputable def wI:Val->Int
 | .int i=>i
 | _=>0
noncomputable def zCT:Val->Int
 | .tup (.int i::_)=>i
 | _=>0
structure Zl (p:PS):Prop where
 div:zFD p.op=true->2<=p.args.length
 load:p.op=0->1<=p.args.length/\∃w b,p.more=.tup [.int w,b]
 copy:p.op=10->1<=p.args.length
 store:p.op=1->1<=p.args.length/\∃w,p.more=.int w
 few:p.args.length<=8
 regs:∀o∈p.args,o.1=true->0<=o.2/\o.2<32
theorem zBK (T:Tops X)(h:Zg G a p)(w:Zl p)(k:Q (.bool (wp p)) G):Cal X (n+1) jT [.ref a] G Q:=by
 obtain⟨⟨fs,la,h1,⟨f1,f2,f3,f4,f5,_⟩,h2⟩,ho⟩:=h;refine Cal.start (T.d 5 rfl) rfl rfl ?_;have e0:=zEa p.op ho;refine SnB.ifs (r:=Nat.beq p.op 0||p.vol) ?_ (λe=>.aR (Rd.to Rd.av ?_)) λe=>.aK ?_
 ·rw[<-e0];refine RdT.or (RdT.cmp ?_ ?_ (.bH qA)) λ_=>RdT.bG (RdT.val ?_ (.bool _))<;>walk_at"r"
 ·have:wp p=true:=if_pos e;rw[<-this];exact k
 refine SnB.ifs (r:=!zFD p.op) ?_ (λe'=>.aR (Rd.to Rd.av ?_)) λe'=>.aK ?_
 ·rw[<-zJ3 p.op ho];refine RdT.bA T.g_DIVISIONS ?_ ?_<;>walk_at"r"
 ·have:wp p=false:=(if_neg (by rw[e];decide)).trans (if_pos e');rw[<-this];exact k
 have hd:zFD p.op=true:=by rw[<-Bool.not_eq_false'];exact e'
 obtain⟨o,h3⟩:∃o,p.args[1]?=some o:=⟨_,getElem?_eq_getElem (w.div hd)⟩
 refine' SnB.bB (v:=.str (rk o.1)) (w:=.int o.2) (Rd.aF ?h1 h2 .int () ?h2) ?h3 ?h4 ?h5
 case h1=>walk_at"r"
 case h2=>unfold zy;rw[if_pos ()];show (p.args.map opdV)[1]?=_;rw[getElem?_map];rw[h3];rfl
 case h3=>walk_at"r"
 case h4=>walk_at"r"
 have hc:wp p=(!(rk o.1 == Str.ofString "k")||Int.fmod o.2 4294967296 == 0):=by rw[rk_k];rw[Bool.not_not];unfold wp;rw[if_neg (by rw[e];decide)];rw[if_neg (by rw[e'];decide)];rw[h3]
 refine SnB.aH (Rd.to ?_ (hc▸k));refine Rd.or (Rd.cmp ?_ ?_ (.dZ qA)) λ_=>Rd.bG (Rd.cmp (Rd.bin ?_ (Rd.glob T.g_ROUND ?_) (.mod () qA)) ?_ (.cv qA))<;>walk_at"r"
theorem zBx (T:Tops X)(h:Zg G a p)(w:Zl p)(k:Q (.bool (je p)) G):Cal X (n+2) uQ [.ref a] G Q:=by
 refine Cal.start (T.d 6 rfl) rfl rfl ?_;refine SnB.aH (Rd.to (v:=.bool (je p)) ?_ k);refine Rd.and (Rd.not (v:=.bool (zAo p.op||p.vol)) (.ref (T.f 1 rfl) ?_ ?_ (vs:=[.ref a]) ?_ (zA0 T h qA)) (.bool _)) λ_=>Rd.aX (Rd.not (v:=.bool (wp p)) (.ref (T.f 2 rfl) ?_ ?_ (vs:=[.ref a]) ?_ (zBK T h w qA)) (.bool _))
 all_goals first | (intro _ _;rfl) | walk_at"r" | walk_at"r"
abbrev Za:=List (Int×Int)
noncomputable def wX (s:Int×Int):Val:=.tup [.int s.1,.int s.2]
noncomputable def zP (sl:Za)(k:Int):Int:=((sl[k.toNat]?).map (·.1)).getD 0
abbrev Zc:=List (Int×Int)
noncomputable def zB2 (ad:Zc)(k:Int):Option Int:=(ad.find? λe=>decide (e.1=k)).map (·.2)
noncomputable def adE (ad:Zc):List (Int×Val):=ad.map λe=>(e.1,.int e.2)
theorem vH (ad:Zc)(k:Int):zm (adE ad) k=(zB2 ad k).map .int:=by unfold zm zB2 adE;rw[List.find?_map];rw[Option.map_map];rw[Option.map_map];rfl
structure AdOK (ad:Zc)(sl:Za):Prop where
 lo:∀k s,zB2 ad k=some s->0<=s/\s.toNat<sl.length
 few:sl.length<=16
structure Yn (fs:Fld->Option Val)(p s b:Addr):Prop where
 params:fs .params=some (.ref p)
 slots:fs .slots=some (.ref s)
 blocks:fs .blocks=some (.ref b)
inductive Zh (G:Gh)(f:Addr)(ps:List Int)(sl:Za)(bls:List Addr):Prop where
 | mk (fs:Fld->Option Val) (p s b:Addr) (h1:G f=some (.inst .func fs)) (h2:Yn fs p s b) (h3:G p=some (.list (ps.map .int))) (h4:G s=some (.list (sl.map wX))) (h5:G b=some (.list (bls.map .ref)))
noncomputable def z8 (sl:Za)(ad:Zc)(p:PS):Bool:=if !jB p.op then true else if !(Nat.beq p.op 0)||p.vol then je p else match p.args[0]? with
 | some o=>o.1&&(match zB2 ad o.2 with | some s=>decide (zCT p.more<=zP sl s) | none=>false)
 | none=>false
theorem zY {α:Type}{f:α->Val}{l:List α}{i:Nat}{x:α}(h:l[i]?=some x):zy (l.map f) (i:Int)=some (f x):=by unfold zy;rw[if_pos (natCast_nonneg i)];rw[toNat_natCast];rw[getElem?_map];rw[h];rfl
theorem zHG (b:Bool)(o:Option Int)(f:Int->Bool):(b&&(o.isSome&&(match o with | some s=>f s | none=>false)))=(b&&(match o with | some s=>f s | none=>false)):=by cases o<;>simp
theorem zAA {f ad a:Addr}{ps:List Int}{sl:Za}{bls:List Addr}{am:Zc}{p:PS}{Q:QE}(T:Tops X)(hf:Zh G f ps sl bls)(ha:G ad=some (.dict (adE am)))(hok:AdOK am sl)(h:Zg G a p)(w:Zl p)
  (k:Q (.bool (z8 sl am p)) G):Cal X (n+3) vU [.ref f,.ref ad,.ref a] G Q:=by
 obtain⟨⟨fs,la,h1,⟨f1,f2,f3,f4,f5,_⟩,h2⟩,ho⟩:=id h;obtain⟨ff,pa,sa,ba,h3,⟨g1,g2,g3⟩,h4,h5,h6⟩:=hf;refine Cal.start (T.d 13 rfl) rfl rfl ?_;refine SnB.ifs (r:=!jB p.op) ?_ (λe=>.aR (Rd.to Rd.av ?_)) λe=>.aK ?_
 ·rw[<-zE9 p.op ho];refine RdT.bA T.g_SELDOM_FREE ?_ ?_<;>walk_at"r"
 ·have:z8 sl am p=true:=if_pos e;rw[<-this];exact k
 refine SnB.ifs (r:=!(Nat.beq p.op 0)||p.vol) ?_ (λe'=>.aR (.ref (T.f 3 rfl) ?_ ?_ (vs:=[.ref a]) ?_ (zBx T h w ?_))) λe'=>.aK ?_
 ·rw[<-zEa p.op ho];refine RdT.or (RdT.cmp ?_ ?_ (.dZ qA)) λ_=>RdT.bG (RdT.val ?_ (.bool _))<;>walk_at"r"
 ·walk_at"r"
 ·intro _ _;rfl
 ·walk_at"r"
 ·have:z8 sl am p=je p:=(if_neg (by rw[e];decide)).trans (if_pos e');rw[<-this];exact k
 have hl:p.op=0:=by
  have:=(Bool.or_eq_false_iff.mp e').1;rw[Bool.not_eq_false'] at this;exact Nat.eq_of_beq_eq_true this
 obtain⟨hlen,wd,bb,hm⟩:=w.load hl;obtain⟨o,ho'⟩:∃o,p.args[0]?=some o:=⟨_,getElem?_eq_getElem hlen⟩
 rw[hm] at f4;refine' SnB.bB (v:=.str (rk o.1)) (w:=.int o.2) (Rd.aF ?h1 h2 .int () (zY ho')) ?h3 ?h4 ?h5
 case h1=>walk_at"r"
 case h3=>walk_at"r"
 case h4=>walk_at"r"
 have hc:z8 sl am p=(rk o.1 == Str.ofString "r"&&((zm (adE am) o.2).isSome&&(match zB2 am o.2 with | some s=>decide (wd<=zP sl s) | none=>false))):=by
  unfold z8;rw[if_neg (by rw[e];decide)];rw[if_neg (by rw[e'];decide)];rw[ho'];rw[rk_r];rw[hm];rw[vH];rw[isSome_map];rw[zHG];rfl
 refine SnB.aH (Rd.to ?_ (hc▸k));refine Rd.and (Rd.cmp ?_ ?_ (.bH qA)) λ_=>Rd.and (Rd.cmp ?_ ?_ (.inDict ha qA)) λhs=>Rd.aX ?_
 ·walk_at"r"
 ·walk_at"r"
 ·walk_at"r"
 ·walk_at"r"
 rw[vH] at hs;rw[isSome_map] at hs;obtain⟨sv,hsv⟩:=Option.isSome_iff_exists.mp hs;obtain⟨s0,s1⟩:=hok.lo _ _ hsv;have hslt:=hok.few;obtain⟨sz,hsz⟩:∃z,sl[sv.toNat]?=some z:=⟨_,getElem?_eq_getElem s1⟩
 rw[hsv];show Rd _ _ _ _ _ _ (.bool (decide (wd<=zP sl sv)));have hss:zP sl sv=sz.1:=by unfold zP;rw[hsz];rfl
 rw[hss];have hsv':((sv.toNat:Nat):Int)=sv:=toNat_of_nonneg s0;refine Rd.cmp (Rd.aW (vs:=[.int wd,bb]) ?_ .int () rfl) (Rd.aW (vs:=[.int sz.1,.int sz.2]) (Rd.aF (j:=sv) ?_ h5 (Rd.ax ?_ ha ?_ ((vH am o.2).trans (by rw[hsv];rfl))) (wD s0 (lt_of_lt_of_le s1 (le_trans hslt ()))) (by rw[<-hsv'];exact zY hsz)) .int () rfl) (.le qA)<;>walk_at"r"
end
section
noncomputable def zD (m:Nat):Int->Bool:=λj=>decide (0<=j)&&m.testBit j.toNat
noncomputable def setb (m:Nat)(k:Int):Nat:=m ||| 2 ^ k.toNat
noncomputable def clrb (m:Nat)(k:Int):Nat:=m ^^^ 2 ^ k.toNat
theorem yF (hk:0<=k):(λj=>zD m j||decide (j=k))=zD (setb m k):=by
 funext j
 unfold zD setb;rw[Nat.testBit_or];rw[Nat.testBit_two_pow];by_cases h:0<=j
 ·have:(k.toNat=j.toNat)↔j=k:=⟨λe=>by rw[<-toNat_of_nonneg h];rw[<-e];rw[toNat_of_nonneg hk],λe=>by rw[e]⟩
  simp [h,this]
 ·have:j≠k:=λe=>h (e▸hk);simp [h,this]
theorem zB0 {m:Nat}{k:Int}(hk:0<=k)(hb:zD m k=true):(λj=>zD m j&&!decide (j=k))=zD (clrb m k):=by
 funext j
 unfold zD at hb;unfold zD clrb;rw[Nat.testBit_xor];rw[Nat.testBit_two_pow];simp only [and_eq_true,decide_eq_true_eq] at hb;by_cases h:0<=j
 ·by_cases q:j=k
  ·subst q;simp [h,hb.2]
  ·have:k.toNat≠j.toNat:=λe=>q (by rw[<-toNat_of_nonneg h];rw[<-e];rw[toNat_of_nonneg hk]);simp [h,q,this]
 ·simp [h]
def Ze (G:Gh)(a:Addr)(m:Nat):Prop:=∃f,G a=some (.set (zD m) f)
def Ext (G G':Gh):Prop:=∀x o,G x=some o->G' x=some o
theorem Ext.refl:Ext G G:=λ_ _ e=>e
theorem Ext.trans (a:Ext G G')(b:Ext G' G''):Ext G G'':=λx o e=>b x o (a x o e)
theorem Ext.new {G:Gh}{a:Addr}{o:GObj}(h:G a=none):Ext G (G.upd a o):=λx q e=>(Gh.aD _ _ λz=>by rw[z] at e;rw[h] at e;cases e).trans e
def Ext1 (h:Addr)(G G':Gh):Prop:=∀x o,x≠h->G x=some o->G' x=some o
theorem Ext1.refl:Ext1 h G G:=λ_ _ _ e=>e
theorem Ext1.trans (a:Ext1 h G G')(b:Ext1 h G' G''):Ext1 h G G'':=λx o n e=>b x o n (a x o n e)
theorem Ext1.upd:Ext1 h G (G.upd h o):=λx q n e=>(Gh.aD _ _ n).trans e
theorem Ext.one (a:Ext G G'):Ext1 h G G':=λx o _ e=>a x o e
noncomputable def GObj.isSet:GObj->Bool | .set ..=>true | _=>false
theorem yG (hs:Ze G h k)(x:Ext1 h G G')(e:G a=some o)(n:o.isSet=false):G' a=some o:=x a o (λq=>by obtain⟨f,hs⟩:=hs;rw[q] at e;rw[hs] at e;cases e;cases n) e
theorem Zg.ext (h:Zg G a p)(x:Ext G G'):Zg G' a p:=by obtain⟨⟨fs,la,h1,h2,h3⟩,o⟩:=h;exact⟨⟨fs,la,x _ _ h1,h2,x _ _ h3⟩,o⟩
theorem Zg.k1 (h:Zg G a p)(hs:Ze G s k)(x:Ext1 s G G'):Zg G' a p:=by obtain⟨⟨fs,la,h1,h2,h3⟩,o⟩:=h;exact⟨⟨fs,la,yG hs x h1 rfl,h2,yG hs x h3 rfl⟩,o⟩
theorem Zh.ext (h:Zh G f ps sl bls)(x:Ext G G'):Zh G' f ps sl bls:=by obtain⟨fs,p,s,b,h1,h2,h3,h4,h5⟩:=h;exact⟨fs,p,s,b,x _ _ h1,h2,x _ _ h3,x _ _ h4,x _ _ h5⟩
theorem Zh.k1 (h:Zh G f ps sl bls)(hs:Ze G z k)(x:Ext1 z G G'):Zh G' f ps sl bls:=by obtain⟨fs,p,s,b,h1,h2,h3,h4,h5⟩:=h;exact⟨fs,p,s,b,yG hs x h1 rfl,h2,yG hs x h3 rfl,yG hs x h4 rfl,yG hs x h5 rfl⟩
inductive Zb (G:Gh):List Addr->List PS->Prop where
 | nil:Zb G [] []
 | cons {a:Addr} {p:PS} {as:List Addr} {ps:List PS}:Zg G a p->Zb G as ps->Zb G (a::as) (p::ps)
theorem Zb.map (f:∀a p,Zg G a p->Zg G' a p)(h:Zb G as ps):Zb G' as ps:=by
 induction h with
 | nil=>exact .nil
 | cons a _ ih=>exact .cons (f _ _ a) ih
theorem Zb.ext (x:Ext G G')(h:Zb G as ps):Zb G' as ps:=h.map λa p s=>s.ext x
theorem Zb.length (h:Zb G as ps):as.length=ps.length:=by
 induction h with
 | nil=>rfl
 | cons _ _ ih=>exact congrArg (· + 1) ih
theorem Zb.append (h:Zb G as ps)(h':Zb G bs qs):Zb G (as++bs) (ps++qs):=by
 induction h with
 | nil=>exact h'
 | cons a _ ih=>exact .cons a ih
theorem Zb.reverse (h:Zb G as ps):Zb G as.reverse ps.reverse:=by
 induction h with
 | nil=>exact .nil
 | cons a _ ih=>rw[List.reverse_cons];rw[List.reverse_cons];exact ih.append (.cons a .nil)
variable {X:Cx}{n:Nat}{G:Gh}{sc:Scope}{os:List (Option Val)}
theorem SnB.forL (h:Rd X n sc e m G (.ref a))(e1:G a=some (.list xs))(I:List Val->M->Gh->Prop)(ok:Yg X n sc tgt body (λG=>G a=some (.list xs)) (Then X n sc sts Q) I)(h0:I xs m G)
  (hs:∀env x,foldedSetIterable e env x=pure x:=by intro _ _;rfl):SnB X n sc (.For tgt e body [] pos::sts) m G Q:=.cons (.cG (.seq (h.to ⟨xs,_,.list e1,I,ok,h0⟩)) hs)
noncomputable def addA (m:Nat)(args:List Opd):Nat:=args.foldl (λm o=>if o.1 then setb m o.2 else m) m
def OpOK (args:List Opd):Prop:=∀o∈args,o.1=true->0<=o.2/\o.2<32
theorem ue {e:Expr}{k1 k2:Nat}{sts:List Stmt}{args:List Opd}{k:Nat}(F:Option Val->Option Val->List (Option Val)){a b:Option Val}
  (hl:(p8.endLine == p10.line)=true) (u1:∀a b v,Upd false sc.names (F a b) "kind" v (F (some v) b)) (u2:∀a b v,Upd false sc.names (F a b) "value" v (F a (some v))) (l1:∀v b,Loc sc.names (F (some v) b) "kind" v) (l2:∀a v,Loc sc.names (F a (some v)) "value" v) (l3:∀a b,Loc sc.names (F a b) "here" (.ref h))
  (he:Rd X n sc e (L sc (F a b)) G (.ref la)) (hla:G la=some (.list (args.map opdV))) (hs:Ze G h k) (ho:OpOK args)
  (kk:∀a b G',Ze G' h (addA k args)->Ext1 h G G'->SnB X n sc sts (L sc (F a b)) G' Q) (hfs:∀env x,foldedSetIterable e env x=pure x:=by intro _ _;rfl) :
  SnB X n sc (.For (.Tuple [.Name "kind" p1,.Name "value" p2] k1 p3) e [.If (.Compare (.Name "kind" p4) [.Eq] [.Constant (.str "r") k2 p5] p6) [.Expr (.Call (.Attribute (.Name "here" p7) "add" p8) [.Name "value" p9] [] p10) p11] [] p12] [] p13::sts) (L sc (F a b)) G Q:=by
 refine SnB.forL he hla (λxs m G'=>∃a b r k',xs=r.map opdV/\m=L sc (F a b)/\Ze G' h k'/\Ext1 h G G'/\OpOK r/\addA k' r=addA k args) ⟨?_,?_⟩ ⟨a,b,args,k,rfl,rfl,hs,.refl,ho,rfl⟩ hfs
 ·rintro x xs m G' ⟨a,b,r,k',hx,rfl,hs',x1,ho',ha⟩;cases r with
  | nil=>cases hx
  | cons o r=>
   obtain⟨rfl,rfl⟩:=List.cons.inj hx;refine⟨yG hs x1 hla rfl,_,.tup (.two (u1 a b _) (u2 _ b _)),?_⟩;refine SnB.ifs (r:=o.1) ?_ (λe1=>?_) λe1=>.nil (.next (.nil (.next ⟨_,_,r,k',rfl,rfl,hs',x1,λo ho=>ho' o (.tail _ ho),?_⟩)))
   ·have:=RdT.cmp (X:=X) (n:=n) (sc:=sc) (m:=L sc (F (some (.str (rk o.1))) (some (.int o.2)))) (G:=G') (op:=.Eq) (pos:=p6) (.var (pos:=p4) (l1 _ _)) (.str (x:="r") (k:=k2) (pos:=p5)) (.bH qA);rw[rk_r] at this;exact this
   ·obtain⟨f,hs'⟩:=hs';obtain⟨q1,q2⟩:=ho' o (.head _) e1;refine SnB.expr (Sn.aV .add (λ_ _=>rfl) (Rd.to (.var (l3 _ _)) ⟨.set hs',(Rds.cons (.var (l2 _ _)) .nil).to (Meth.add hs' ⟨q1,q2⟩ ?_)⟩) (hline:=hl));refine .nil (.next (.nil (.next ⟨_,_,r,setb k' o.2,rfl,rfl,⟨false,?_⟩,x1.trans .upd,λo ho=>ho' o (.tail _ ho),?_⟩)))
    ·rw[Gh.aA];rw[yF q1]
    ·rw[<-ha];unfold addA;rw[foldl_cons];rw[if_pos e1]
   ·rw[<-ha];unfold addA;rw[foldl_cons];rw[if_neg (by rw[e1];decide)]
 ·rintro m G' ⟨a,b,r,k',hx,rfl,hs',x1,ho',ha⟩;cases r with
  | nil=>exact⟨yG hs x1 hla rfl,.next (kk a b G' (by rw[<-ha];exact hs') x1)⟩
  | cons o r=>cases hx
end
section
variable {X:Cx}{n:Nat}{G:Gh}{sc:Scope}{os:List (Option Val)}
inductive Yh (X:Cx)(n:Nat)(sc:Scope)(tgt:Expr)(body sts:List Stmt)(m:M)(Q:QS)(v:Val)(G':Gh):Prop where
 | mk (a:Addr) (xs:List Val) (I:List Val->M->Gh->Prop) (e:v=.ref a) (e1:G' a=some (.list xs)) (ok:Yg X n sc tgt body (λG=>G a=some (.list xs)) (Then X n sc sts Q) I) (h0:I xs m G')
theorem SnB.bN (h:Sn X n sc e m G (Yh X n sc tgt body sts m Q))
  (hs:∀env x,foldedSetIterable e env x=pure x:=by intro _ _;rfl):SnB X n sc (.For tgt e body [] pos::sts) m G Q:=.cons (.cG (.seq (h.mono λv G' q=>by obtain⟨a,xs,I,rfl,e1,ok,h0⟩:=q;exact⟨xs,_,.list e1,I,ok,h0⟩)) hs)
theorem OutS.mono (o:OutS X env b s Q fl s')(k:∀fl m G,Q fl m G->Q' fl m G):OutS X env b s Q' fl s':=by cases o with | mk mf m' G' b' h1 h2 h3 h4 h5 h6 h7=>exact .mk mf m' G' b' h1 h2 h3 h4 h5 h6 (k _ _ _ h7)
theorem SnB.mono (h:SnB X n sc sts m G Q)(k:∀fl m G,Q fl m G->Q' fl m G):SnB X n sc sts m G Q':=⟨λhs=>zA (h.go hs) λ_ _ o=>o.mono k⟩
inductive Join (P:Gh->Prop)(Q:QS)(m:M):Fl->M->Gh->Prop where
 | next {G:Gh} (h:P G):Join P Q m .next m G
 | cont {m':M} {G:Gh} (h:Q .cont m' G):Join P Q m .cont m' G
 | ret {v:Val} {m':M} {G:Gh} (h:Q (.ret v) m' G):Join P Q m (.ret v) m' G
theorem SnB.eE (P:Gh->Prop)(h:RdT X n sc t m G r)(ha:r=true->SnB X n sc a m G (Join P Q m))(hb:r=false->SnB X n sc c m G (Join P Q m))(hr:∀G',P G'->SnB X n sc sts m G' Q):SnB X n sc (.If t a c pos::sts) m G Q:=by
 have key:∀fl m' G',Join P Q m fl m' G'->Then X n sc sts Q fl m' G':=λfl m' G' q=>by
  cases q with
  | next h=>exact .next (hr _ h)
  | cont h=>exact .cont h
  | ret h=>exact .ret h
 exact .ifs h (λe=>(ha e).mono key) λe=>(hb e).mono key
structure Yu (fs:Fld->Option Val)(num:Int)(st eo:Addr):Prop where
 number:fs .number=some (.int num)
 steps:fs .steps=some (.ref st)
 end_ : fs .end_ = some (.ref eo)
inductive Zn (G:Gh)(b:Addr)(num:Int)(sts:List Addr)(eo:Addr):Prop where
 | mk (fs:Fld->Option Val) (st:Addr) (h1:G b=some (.inst .block fs)) (h2:Yu fs num st eo) (h3:G st=some (.list (sts.map .ref)))
theorem Zn.ext (h:Zn G b num sts eo)(x:Ext G G'):Zn G' b num sts eo:=by obtain⟨fs,st,h1,h2,h3⟩:=h;exact⟨fs,st,x _ _ h1,h2,x _ _ h3⟩
noncomputable def needStep (sl:Za)(ad:Zc)(m:Nat)(p:PS):Nat:=if zD m p.dst then addA (clrb m p.dst) p.args else if z8 sl ad p then m else addA m p.args
noncomputable def needP (sl:Za)(ad:Zc)(steps:List PS)(ends:List Opd)(m:Nat):Nat:=steps.reverse.foldl (needStep sl ad) (addA m ends)
theorem yJ (h:zD m k=true):0<=k:=of_decide_eq_true (Bool.and_eq_true_iff.mp h).1
abbrev naL (f ad b h:Addr)(x y z:Option Val):M:=L j5 [some (.ref f),some (.ref ad),some (.ref b),some (.ref h),x,y,z,none]
inductive Yw (G:Gh)(f ad b h c:Addr)(sl:Za)(am:Zc)(rs:List Val)(goal:Nat):List Val->M->Gh->Prop where
 | mk {x y z:Option Val} {as:List Addr} {qs:List PS} {k:Nat} {G':Gh} (hs:Zb G as qs) (hw:∀p∈qs,Zl p) (hh:Ze G' h k) (x1:Ext1 h G G') (hc:G' c=some (.list rs)) (hk:qs.foldl (needStep sl am) k=goal):Yw G f ad b h c sl am rs goal (as.map .ref) (naL f ad b h x y z) G'
theorem zAZ {f ad b h eo:Addr}{pr:List Int}{sl:Za}{bls:List Addr}{am:Zc}{num:Int}{sts:List Addr}{ps:List PS}{pe:PS}{k:Nat}{Q:QE}(T:Tops X)(hf:Zh G f pr sl bls)(ha:G ad=some (.dict (adE am)))(hok:AdOK am sl)
  (hb:Zn G b num sts eo) (hst:Zb G sts ps) (hwf:∀p∈ps,Zl p) (hend:Zg G eo pe) (hew:OpOK pe.args) (hs:Ze G h k)
  (kk:∀G',Ze G' h (needP sl am ps pe.args k)->Ext1 h G G'->Q (.ref h) G'):Cal X (n+4) yq [.ref f,.ref ad,.ref b,.ref h] G Q:=by
 obtain⟨fs,st,h1,⟨b1,b2,b3⟩,h2⟩:=id hb;obtain⟨⟨es,la,h3,⟨e1,e2,e3,e4,e5,_⟩,h4⟩,ho⟩:=id hend;refine Cal.start (T.d 14 rfl) rfl rfl ?_;refine ue (λx y=>[some (.ref f),some (.ref ad),some (.ref b),some (.ref h),x,y,none,none]) rfl (λ_ _ _=>()) (λ_ _ _=>()) (λ_ _=>()) (λ_ _=>()) (λ_ _=>()) () h4 hs hew λx y G1 hs1 x1=>?_;have h1':=yG hs x1 h1 rfl;have h2':=yG hs x1 h2 rfl;refine SnB.bN (Sn.rev (Rd.to (v:=.ref st) () ⟨st,sts.map .ref,rfl,h2',λc hc=>?_⟩));have hs2:Ze (G1.upd c (.list (sts.map .ref).reverse)) h (addA k pe.args):=by obtain⟨f,q⟩:=hs1;exact⟨f,Ext.new hc _ _ q⟩
 have hch:c≠h:=λq=>by obtain⟨f,e⟩:=hs1;rw[<-q] at e;rw[hc] at e;cases e
 have x2:=x1.trans (Ext.new (o:=.list (sts.map .ref).reverse) hc).one;generalize hrs:(sts.map Val.ref).reverse=rs at *;have hrs':rs=sts.reverse.map .ref:=by rw[<-hrs];rw[List.map_reverse]
 refine⟨c,rs,Yw G f ad b h c sl am rs (needP sl am ps pe.args k),rfl,Gh.aA ..,⟨?_,?_⟩,?_⟩
 ·intro v xs m G' hI;generalize hvx:v::xs=vx at hI;cases hI with | @mk x y z as qs k' _ hsa hw hs' x' hc' hk=>
  cases hsa with
  | nil=>cases hvx
  | @cons a p as qs hp hsa=>
  obtain⟨rfl,rfl⟩:=List.cons.inj hvx;refine⟨hc',_,.name (Upd.put ()),?_⟩;have hp':=hp.k1 hs x';obtain⟨⟨fp,lp,p1,⟨q1,q2,q3,q4,q5,_⟩,p2⟩,po⟩:=id hp';have hwp:=hw p (.head _);obtain⟨fl,hs''⟩:=id hs';refine SnB.eE (r:=zD k' p.dst) (λGb=>∃kb,Ze Gb h kb/\Ext1 h G' Gb/\needStep sl am k' p=addA kb p.args) (.cmp () () (.inSet hs'' qA)) (λe=>?_) (λe=>?_) λGb ⟨kb,s1,s2,s3⟩=>?_
  ·refine SnB.expr (Sn.aV .discard (λ_ _=>rfl) (Rd.to (v:=.ref h) () ⟨.set hs'',Rds.to (vs:=[.int p.dst]) () (Meth.discard hs'' ?_)⟩));exact .nil (.next ⟨clrb k' p.dst,⟨false,by rw[Gh.aA];rw[zB0 (yJ e) e]⟩,.upd,if_pos e⟩)
  ·refine SnB.ifs (r:=z8 sl am p) (.val (.ref (T.f 10 rfl) ?_ ?_ (vs:=[.ref f,.ref ad,.ref a]) ?_ (zAA T (hf.k1 hs x') (yG hs x' ha rfl) hok hp' hwp qA)) (.bool _)) (λe'=>SnB.cont (.cont (.cont (.cont (.mk hsa (λp hp=>hw p (.tail _ hp)) hs' x' hc' ?_))))) λe'=>.nil (.next (.nil (.next ⟨k',hs',.refl,?_⟩)))
   ·walk_at"r"
   ·intro _ _;rfl
   ·walk_at"r"
   ·rw[<-hk];rw[foldl_cons];rw[needStep];rw[if_neg (by rw[e];decide)];rw[if_pos e']
   ·rw[needStep];rw[if_neg (by rw[e];decide)];rw[if_neg (by rw[e'];decide)]
  ·have p1':=yG hs' s2 p1 rfl;have p2':=yG hs' s2 p2 rfl;refine ue (λx y=>[some (.ref f),some (.ref ad),some (.ref b),some (.ref h),x,y,some (.ref a),none]) rfl (λ_ _ _=>()) (λ_ _ _=>()) (λ_ _=>()) (λ_ _=>()) (λ_ _=>()) () p2' s1 hwp.regs λx y G2 hs3 x3=>?_;exact .nil (.next (.mk hsa (λp hp=>hw p (.tail _ hp)) hs3 ((x'.trans s2).trans x3) (x3 _ _ hch (s2 _ _ hch hc')) (by rw[<-s3];exact hk)))
 ·intro m G' hI;generalize hvx:([]:List Val)=vx at hI;cases hI with | @mk x y z as qs k' _ hsa hw hs' x' hc' hk=>
  cases hsa with
  | cons _ _=>cases hvx
  | nil=>exact⟨hc',.next (SnB.aH (Rd.to (v:=.ref h) () (kk G' (by rw[<-hk];exact hs') x')))⟩
 ·subst hrs';exact .mk hst.reverse (λp hp=>hwf p (List.mem_reverse.mp hp)) hs2 x2 (Gh.aA ..) rfl
end
section
variable {X:Cx}{n:Nat}{G:Gh}{sc:Scope}{os:List (Option Val)}{m:M}
theorem Gh.upd_upd:(G.upd a x).upd a y=G.upd a y:=by
 funext z
 by_cases q:z=a
 ·rw[q];rw[Gh.aA];rw[Gh.aA]
 ·rw[Gh.aD _ _ q];rw[Gh.aD _ _ q];rw[Gh.aD _ _ q]
noncomputable def fput (fs:Fld->Option Val)(f:Fld)(v:Val):Fld->Option Val:=λg=>if g=f then some v else fs g
theorem SnB.setA (hc:Z0 X)(ha:Zr attr f)(h:Rd X n sc e m (G.upd a (.inst c fs)) v)(ho:Rd X n sc o m (G.upd a (.inst c fs)) (.ref a))
  (k:SnB X n sc sts m (G.upd a (.inst c (fput fs f v))) Q) (hsw:∀env,swapsWith e (some (.Attribute o attr p)) pos.line env=pure false:=by intro _;rfl):SnB X n sc (.Assign [.Attribute o attr p] e pos::sts) m (G.upd a (.inst c fs)) Q:=
 .cons (.setAttr hc f ha.eq (h.to (ho.to ⟨a,c,fs,rfl,Gh.aA ..,.next (by rw[Gh.upd_upd];exact k)⟩)) hsw)
theorem zEP {p:PS}(T:Tops X)(k:∀fs,Zu fs ⟨p.op,p.dst,p.args,p.more,false⟩ la->Q .none (G.upd a (.inst .step fs))):Cal X (n+1) zBn [.ref a,.str (opS p.op),.int p.dst,.ref la,p.more] (G.upd a (.inst .step λ_=>none)) Q:=by refine Cal.start (T.d 0 rfl) rfl rfl ?_;refine SnB.setA (f:=.op) T.cls () () () ?_;refine SnB.setA (f:=.dst) T.cls () () () ?_;refine SnB.setA (f:=.args) T.cls () () () ?_;refine SnB.setA (f:=.more) T.cls () () () ?_;refine SnB.setA (f:=.is_volatile) (v:=.bool false) T.cls () () () ?_;refine SnB.setA (f:=.line) (v:=.int 0) T.cls () () () ?_;exact .nil (.next (k _ ⟨rfl,rfl,rfl,rfl,rfl,_,rfl⟩))
theorem Sn.cE {es:List Expr}{s:PS}(T:Tops X)(hk:Zf sc "Step")(hn:Zj es)(h:Rds X (n+1) sc es m G [.str (opS s.op),.int s.dst,.ref la,s.more])(k:∀a fs,G a=Option.none->Zu fs ⟨s.op,s.dst,s.args,s.more,false⟩ la->Q (.ref a) (G.upd a (.inst .step fs))) :
  Sn X (n+1) sc (.Call (.Name "Step" p) es [] pos) m G Q:=Sn.new T.f_Step T.cls hk hn (h.to λa ha=>zEP T λfs hfs=>⟨rfl,k a fs ha hfs⟩)
theorem Zu.dQ (h:Zu fs p la):Zu (fput fs .line (.int i)) p la:=⟨h.op,h.dst,h.args,h.more,h.vol,i,rfl⟩
theorem zBy {p s:PS}(T:Tops X)(h:Zg G a p)
  (kk:∀c fs,G c=none->Zu fs ⟨s.op,s.dst,s.args,s.more,false⟩ la->Q (.ref c) (G.upd c (.inst .step fs))):Cal X (n+2) yX [.ref a,.str (opS s.op),.int s.dst,.ref la,s.more] G Q:=by obtain⟨⟨fs,lg,h1,⟨f1,f2,f3,f4,f5,li,f6⟩,h2⟩,ho⟩:=id h;refine Cal.start (T.d 9 rfl) rfl rfl ?_;refine SnB.aB (Sn.cE (s:=s) (la:=la) T () (λ_ _=>rfl) () λc gs hc hg=>⟨_,(),?_⟩);have h1':(G.upd c (.inst .step gs)) a=some (.inst .step fs):=Ext.new hc _ _ h1;refine SnB.setA (f:=.line) (v:=.int li) T.cls () () () ?_;exact SnB.aH (Rd.to (v:=.ref c) () (kk c _ hc hg.dQ))
theorem zDU {p:PS}{fs:Fld->Option Val}(T:Tops X)(h1:G a=some (.inst .step fs))(h2:Zu fs p la)(h3:G la=some (.list (p.args.map opdV)))(ho:p.op<36)
  (kk:∀c fs,G c=none->Zu fs ⟨p.op,-1,p.args,p.more,false⟩ la->Q (.ref c) (G.upd c (.inst .step fs))):Cal X (n+3) wS [.ref a] G Q:=by obtain⟨f1,f2,f3,f4,f5,li,f6⟩:=id h2;refine Cal.start (T.d 17 rfl) rfl rfl ?_;refine SnB.aH (Sn.ref (T.f 6 rfl) () (λ_ _=>rfl) (vs:=[.ref a,.str (opS p.op),.int (-1),.ref la,p.more]) () (zBy (s:=⟨p.op,-1,p.args,p.more,false⟩) T ⟨⟨fs,la,h1,h2,h3⟩,ho⟩ kk))
inductive Zt (G:Gh)(p:PS):List Int->Prop where
 | jump {i:Int} (h:Nat.beq p.op 32=true) (e:p.more=.int i):Zt G p [i]
 | branch {i j:Int} (h:Nat.beq p.op 33=true) (e:p.more=.tup [.int i,.int j]):Zt G p [i,j]
 | table {v:Val} {l:Addr} {js:List Int} {d:Int} (h:Nat.beq p.op 34=true) (e:p.more=.tup [v,.ref l,.int d]) (hl:G l=some (.list (js.map .int))) (hj:js.length<1000):Zt G p (js++[d])
 | other (h1:Nat.beq p.op 32=false) (h2:Nat.beq p.op 33=false) (h3:Nat.beq p.op 34=false):Zt G p []
theorem Zt.ext (h:Zt G p js)(x:Ext G G'):Zt G' p js:=by
 cases h with
 | jump h e=>exact .jump h e
 | branch h e=>exact .branch h e
 | table h e hl hj=>exact .table h e (x _ _ hl) hj
 | other a b c=>exact .other a b c
theorem wv (T:Tops X)(hb:Zn G b num sts eo)(he:Zg G eo pe)(hj:Zt G pe js)
  (k:∀c G',G c=none->Ext G G'->G' c=some (.list (js.map .int))->Q (.ref c) G'):Cal X (n+1) jS [.ref b] G Q:=by
 obtain⟨fs,st,h1,⟨b1,b2,b3⟩,h2⟩:=id hb;obtain⟨⟨es,la,h3,⟨e1,e2,e3,e4,e5,_⟩,h4⟩,ho⟩:=id he;refine Cal.start (T.d 3 rfl) rfl rfl ?_;refine SnB.assign (v:=.ref eo) () () ?_;have fin:∀vs,vs=js.map Val.int->newList vs G Q:=λvs e c hc=>k c _ hc (Ext.new hc) (by rw[Gh.aA];rw[e]);refine SnB.ifs (r:=Nat.beq pe.op 32) ?_ (λe=>?_) λe=>.aK ?_
 ·rw[<-zIG pe.op ho];exact .cmp () () (.bH qA)
 ·cases hj with
  | @jump i _ e'=>
   rw[e'] at e4;exact SnB.aR (Sn.aj (vs:=[.int i]) () (fin _ rfl))
  | branch h _=>rw[Nat.eq_of_beq_eq_true e] at h;cases h
  | table h _ _ _=>rw[Nat.eq_of_beq_eq_true e] at h;cases h
  | other h _ _=>rw[e] at h;cases h
 refine SnB.ifs (r:=Nat.beq pe.op 33) ?_ (λe'=>?_) λe'=>.aK ?_
 ·rw[<-zEb pe.op ho];exact .cmp () () (.bH qA)
 ·cases hj with
  | jump h _=>rw[e] at h;cases h
  | @branch i j _ e0=>
   rw[e0] at e4;exact SnB.aR (Sn.aj (vs:=[.int i,.int j]) (.cons (.aW (vs:=[.int i,.int j]) () .int () rfl) (.cons (.aW (vs:=[.int i,.int j]) () .int () rfl) .nil)) (fin _ rfl))
  | table h _ _ _=>rw[Nat.eq_of_beq_eq_true e'] at h;cases h
  | other _ h _=>rw[e'] at h;cases h
 refine SnB.ifs (r:=Nat.beq pe.op 34) ?_ (λe''=>?_) λe''=>.aK ?_
 ·rw[<-zGT pe.op ho];exact .cmp () () (.bH qA)
 ·cases hj with
  | jump h _=>rw[e] at h;cases h
  | branch h _=>rw[e'] at h;cases h
  | @table v l js d _ e0 hl hlen=>
   rw[e0] at e4;refine SnB.aR (Sn.bin (Sn.ty (id:="list") T.blt () () () (λ_ _=>rfl) (Rds.to (vs:=[.ref l]) (.cons (.aW (vs:=[v,.ref l,.int d]) () .int () rfl) .nil) (Blt.cQ hl (by rw[length_map];unfold cap;lia) λc hc=>?_))));have x1:=Ext.new (o:=.list (js.map .int)) hc;have e4':=x1 _ _ h1;have e5':=x1 _ _ h3;refine Sn.aj (vs:=[.int d]) (.cons (.aW (vs:=[v,.ref l,.int d]) () .int () rfl) .nil) λc2 hc2=>?_;have x2:=Ext.new (o:=.list [.int d]) hc2;refine Op2.bu (x2 _ _ (Gh.aA ..)) (Gh.aA ..) (by rw[length_map];show js.length+1<cap;unfold cap;lia) λc3 hc3=>?_;have x3:=(x1.trans x2).trans (Ext.new (o:=.list (js.map .int++[.int d])) hc3);refine k c3 _ ?_ x3 ?_
   ·cases q:G c3 with
    | none=>rfl
    | some o=>rw[(x1.trans x2) _ _ q] at hc3;cases hc3
   ·rw[Gh.aA];rw[List.map_append];rfl
  | other _ _ h=>rw[e''] at h;cases h
 cases hj with
 | jump h _=>rw[e] at h;cases h
 | branch h _=>rw[e'] at h;cases h
 | table h _ _ _=>rw[e''] at h;cases h
 | other _ _ _=>exact SnB.aH (Sn.aj .nil (fin _ rfl))
end
section
variable {X:Cx}{n:Nat}{G:Gh}{sc:Scope}{os:List (Option Val)}{m:M}
theorem SnB.aug (hx:Loc sc.names os x v)(h:Rd X n sc e (L sc os) G w)(k:Op2 X n (inplaceOp op) v w G (AssP X n sc os x sts Q)):SnB X n sc (.AugAssign (.Name x p) op e pos::sts) (L sc os) G Q:=
 .cons (.aug hx (h.to ⟨λa b c d e=>zA (k.go a b c d e) λx s o=>o.elim λv' G' hv hr f q=>by obtain⟨os',u,q⟩:=q;exact .mk _ _ hv hr f ⟨_,u.put,.next q⟩⟩))
theorem zCy (a b:Nat):(λj=>zD a j||zD b j)=zD (a ||| b):=by
 funext j
 unfold zD;rw[Nat.testBit_or];cases decide (0<=j)<;>simp
theorem uF:(λ_:Int=>false)=zD 0:=by
 funext j
 unfold zD;rw[Nat.zero_testBit];rw[Bool.and_false]
theorem Ze.new {c:Addr}{f:Bool}:Ze (G.upd c (.set (λ_=>false) f)) c 0:=⟨f,by rw[Gh.aA];rw[uF]⟩
abbrev AhL:=List (Int×Addr×Nat)
noncomputable def ahE (l:AhL):List (Int×Val):=l.map λe=>(e.1,.ref e.2.1)
noncomputable def ahM (l:AhL):List (Int×Nat):=l.map λe=>(e.1,e.2.2)
noncomputable def zV (l:List (Int×Nat))(k:Int):Nat:=((l.find? λe=>decide (e.1=k)).map (·.2)).getD 0
structure AhAt (G:Gh)(d:Addr)(l:AhL):Prop where
 d:G d=some (.dict (ahE l))
 s:∀e∈l,Ze G e.2.1 e.2.2
theorem AhAt.look {d:Addr}{l:AhL}(h:AhAt G d l){k:Int}(hk:k∈(ahM l).map (·.1)):∃a,zm (ahE l) k=some (.ref a)/\Ze G a (zV (ahM l) k):=by
 unfold zm zV;unfold ahM ahE at *;rw[List.find?_map];rw[List.find?_map];cases q:l.find? ((λe:Int×Val=>decide (e.1=k)) ∘ λe=>(e.1,Val.ref e.2.1)) with
 | none=>
  exfalso;rw[List.find?_eq_none] at q;rw[map_map] at hk;refine zC (List.mem_map.mp hk) λe he eq2=>?_;subst eq2;exact q e he (decide_eq_true rfl)
 | some e=>
  have hm:=List.mem_of_find?_eq_some q;have q':l.find? ((λe:Int×Nat=>decide (e.1=k)) ∘ λe=>(e.1,e.2.2))=some e:=q;rw[q'];exact⟨e.2.1,rfl,h.s e hm⟩
noncomputable def zJ (l:List (Int×Nat))(js:List Int):Nat:=js.foldl (λm j=>m ||| zV l j) 0
abbrev nbL (b d c:Addr)(x:Option Val):M:=L jK [some (.ref b),some (.ref d),some (.ref c),x,none,none]
inductive BehI (G0 G1:Gh)(b d c la:Addr)(l:AhL)(rs:List Val)(goal:Nat):List Val->M->Gh->Prop where
 | mk {x:Option Val} {js:List Int} {k:Nat} {f:Bool} {G':Gh} (hj:∀j∈js,j∈(ahM l).map (·.1)) (hc:G' c=some (.set (zD k) f)) (hf:f=true\/∃i,zD k i=true) (x1:Ext1 c G1 G') (hl:G' la=some (.list rs)) (hk:js.foldl (λm j=>m ||| zV (ahM l) j) k=goal):BehI G0 G1 b d c la l rs goal (js.map .int) (nbL b d c x) G'
theorem jF (T:Tops X)(hb:Zn G b num sts eo)(he:Zg G eo pe)(hj:Zt G pe js)(hd:AhAt G d l)(hin:∀j∈js,j∈(ahM l).map (·.1))
  (k:∀c G',G c=none->Ext G G'->Ze G' c (zJ (ahM l) js)->Q (.ref c) G'):Cal X (n+2) yR [.ref b,.ref d] G Q:=by
 refine Cal.start (T.d 15 rfl) rfl rfl ?_;refine SnB.aB (Sn.ty (id:="set") T.blt () () () (λ_ _=>rfl) (Rds.nil.to (Blt.bz λc hc=>⟨_,(),?_⟩)));have x0:=Ext.new (o:=.set (λ_=>false) true) hc;generalize hG1:G.upd c (.set (λ_=>false) true)=G1 at x0;have hc1:G1 c=some (.set (zD 0) true):=by rw[<-hG1];rw[Gh.aA];rw[uF]
 refine SnB.bN (Sn.ref (T.f 0 rfl) () (λ_ _=>rfl) (vs:=[.ref b]) () (wv T (hb.ext x0) (he.ext x0) (hj.ext x0) λla G2 hla x1 h2=>?_));have hlc:la≠c:=λq=>by rw[q] at hla;rw[hc1] at hla;cases hla
 refine⟨la,_,BehI G G2 b d c la l (js.map .int) (zJ (ahM l) js),rfl,h2,⟨?_,?_⟩,.mk hin (x1 _ _ hc1) (.inl rfl) .refl h2 rfl⟩
 ·intro v xs m G' hI;generalize hvx:v::xs=vx at hI;cases hI with | @mk x js' k' f _ hj' hc' hf' x' hl' hk=>
  cases js' with
  | nil=>cases hvx
  | cons j js'=>
  obtain⟨rfl,rfl⟩:=List.cons.inj hvx;refine⟨hl',_,.name (Upd.put ()),?_⟩;refine zC (hd.look (hj' j (.head _))) λa ha hs0=>?_;have ne:∀{z:Addr} {o:GObj},G z=some o->z≠c:=λe q=>by rw[q] at e;rw[hc] at e;cases e
  obtain⟨fa,hs0⟩:=hs0;have hs1:=x' _ _ (ne hs0) (x1 _ _ (x0 _ _ hs0));have hd1:=x' _ _ (ne hd.d) (x1 _ _ (x0 _ _ hd.d));refine SnB.aug (v:=.ref c) (w:=.ref a) () (.ax () hd1 () ha) (Op2.eU hc' hs1 (Ne.symm (ne hs0)) hf' λf' hf2=>⟨_,(),.nil (.next ?_)⟩);refine .mk (λj h=>hj' j (.tail _ h)) (by rw[Gh.aA];rw[zCy]) (hf2.imp id λ⟨i,hi⟩=>⟨i,?_⟩) (x'.trans .upd) ((Gh.aD _ _ hlc).trans hl') hk;rw[<-zCy];exact Bool.or_eq_true_iff.mpr hi
 ·intro m G' hI;generalize hvx:([]:List Val)=vx at hI;cases hI with | @mk x js' k' f _ hj' hc' hf' x' hl' hk=>
  cases js' with
  | cons _ _=>cases hvx
  | nil=>
   refine⟨hl',.next (SnB.aH (Rd.to (v:=.ref c) () (k c G' hc (λz o e=>x' _ _ (λq=>by rw[q] at e;rw[hc] at e;cases e) (x1 _ _ (x0 _ _ e))) ⟨f,?_⟩)))⟩;rw[<-hk];exact hc'
end
section
variable {X:Cx}{n:Nat}{G:Gh}{sc:Scope}{os:List (Option Val)}{m:M}
theorem wM {α:Type}{f:α->Val}{r:List α}(h:[]=r.map f):r=[]:=List.map_eq_nil_iff.mp h.symm
theorem zt {α:Type}{f:α->Val}{r:List α}(h:v::xs=r.map f):∃a r',r=a::r'/\v=f a/\xs=r'.map f:=by
 cases r with
 | nil=>cases h
 | cons a r=>exact⟨a,r,rfl,(List.cons.inj h).1,(List.cons.inj h).2⟩
theorem Zb.uc {C:List PS->Prop}(h:Zb G (a::as) ps)(k:∀p ps',Zg G a p->Zb G as ps'->C (p::ps')):C ps:=by cases h with | cons h1 h2=>exact k _ _ h1 h2
theorem Zb.un (h:Zb G [] ps):ps=[]:=by cases h;rfl
theorem zDB {a b k:Nat}(h:a+b<=k)(q:k<=2000):a<cap:=lt_of_le_of_lt (le_trans (le_add_right a b) (le_trans h q)) ()
theorem zAJ {a b k:Nat}(h:a+b<=k)(q:k<=1900):a<=2000:=le_trans (le_add_right a b) (le_trans h (le_trans q ()))
theorem SnB.ck {r:Bool}(P:M->Gh->Prop)(h:RdT X n sc t m G r)(hr:∀m' G',P m' G'->SnB X n sc sts m' G' Q)
  (hj:∀QJ:QS,(∀{m G},P m G->QJ .next m G)->(∀{m G},Q .cont m G->QJ .cont m G)->(r=true->SnB X n sc a m G QJ)/\(r=false->SnB X n sc c m G QJ)):SnB X n sc (.If t a c pos::sts) m G Q:=
 .ifs h (hj _ (λq=>.next (hr _ _ q)) .cont).1 (hj _ (λq=>.next (hr _ _ q)) .cont).2
noncomputable def zG (p:PS):Bool:=Nat.beq p.op 10&&(match p.args[0]? with | some o=>o.1&&(o.2 == p.dst) | none=>false)
noncomputable def zI (sl:Za)(ad:Zc)(s:Nat×List (PS×Bool))(p:PS):Nat×List (PS×Bool):=
 if zD s.1 p.dst then(if zG p then s else(addA (clrb s.1 p.dst) p.args,(p,false)::s.2))
 else if z8 sl ad p then s
 else if decide (p.dst >= 0)&&wT p.op then(addA s.1 p.args,(⟨p.op,-1,p.args,p.more,false⟩,true)::s.2)
 else(addA s.1 p.args,(p,false)::s.2)
noncomputable def jX (sl:Za)(ad:Zc)(steps:List PS)(ends:List Opd)(m:Nat):List (PS×Bool):=(steps.reverse.foldl (zI sl ad) (addA m ends,[])).2
inductive RelK (G0:Gh):List Addr->List Addr->List (PS×Bool)->Prop where
 | nil:RelK G0 [] [] []
 | skip {a:Addr} {as ks:List Addr} {qs:List (PS×Bool)}:RelK G0 as ks qs->RelK G0 (a::as) ks qs
 | same {a:Addr} {as ks:List Addr} {p:PS} {qs:List (PS×Bool)}:RelK G0 as ks qs->RelK G0 (a::as) (a::ks) ((p,false)::qs)
 | new {a c:Addr} {as ks:List Addr} {p:PS} {qs:List (PS×Bool)}:G0 c=none->RelK G0 as ks qs->RelK G0 (a::as) (c::ks) ((p,true)::qs)
inductive KO (G0 G:Gh)(a:Addr)(p:PS):Prop where
 | mk (fs:Fld->Option Val) (la:Addr) (h1:G a=some (.inst .step fs)) (h2:Zu fs p la) (h3:G0 la=some (.list (p.args.map opdV)))
structure KAt (G0 G:Gh)(a:Addr)(p:PS):Prop where
 ok:KO G0 G a p
 op:p.op<36
inductive KsAt (G0 G:Gh):List Addr->List (PS×Bool)->Prop where
 | nil:KsAt G0 G [] []
 | cons {a:Addr} {q:PS×Bool} {as:List Addr} {qs:List (PS×Bool)}:KAt G0 G a q.1->KsAt G0 G as qs->KsAt G0 G (a::as) (q::qs)
def Zz (G G':Gh):Prop:=∀x c fs,G x=some (.inst c fs)->G' x=some (.inst c fs)
theorem Zz.trans (a:Zz G G')(b:Zz G' G''):Zz G G'':=λx c fs e=>b x c fs (a x c fs e)
theorem Ext.inst (x:Ext G G'):Zz G G':=λa c fs e=>x _ _ e
theorem Zz.upd (e:G h=some o)(n:o.a8=false):Zz G (G.upd h o'):=λa c fs e'=>(Gh.aD _ _ λq=>by rw[q] at e';rw[e] at e';cases e';cases n).trans e'
theorem Ext1.inst {k:Nat}(hs:Ze G h k)(x:Ext1 h G G'):Zz G G':=λa c fs e=>yG hs x e rfl
theorem KsAt.keep {G0 G':Gh}{as:List Addr}{qs:List (PS×Bool)}(h:KsAt G0 G as qs)(x:Zz G G'):KsAt G0 G' as qs:=by
 induction h with
 | nil=>exact .nil
 | cons a _ ih=>
  obtain⟨⟨fs,la,h1,h2,h3⟩,o⟩:=a;exact .cons ⟨⟨fs,la,x _ _ _ h1,h2,h3⟩,o⟩ ih
abbrev ssL (f ad b h ko:Addr)(x y z:Option Val):M:=L jH [some (.ref f),some (.ref ad),some (.ref b),some (.ref h),x,y,some (.ref ko),z,none,none,none]
def SwI (G0:Gh)(f ad b h ko c:Addr)(sl:Za)(am:Zc)(sts:List Addr)(rs:List Val)(goal:List (PS×Bool))(as:List Addr)(m:M)(G':Gh):Prop:=
 ∀C:M->Prop,(∀(x y z:Option Val) (done ks:List Addr) (qs:List PS) (k:Nat) (kq:List (PS×Bool)),Zb G0 as qs->(∀p∈qs,Zl p)->Ze G' h k->Ext1 h G0 G'->G' c=some (.list rs)->as.reverse++done=sts->G' ko=some (.list (ks.reverse.map .ref))->RelK G0 done ks kq->KsAt G0 G' ks kq->ks.length<=done.length->(qs.foldl (zI sl am) (k,kq)).2=goal->C (ssL f ad b h ko x y z))->C m
theorem SwI.mk {G0:Gh}{f ad b h ko c:Addr}{sl:Za}{am:Zc}{sts:List Addr}{rs:List Val}{goal:List (PS×Bool)}{x y z:Option Val}{as done ks:List Addr}{qs:List PS}{k:Nat}{kq:List (PS×Bool)}{G':Gh}(hs:Zb G0 as qs)(hw:∀p∈qs,Zl p)(hh:Ze G' h k)(x1:Ext1 h G0 G')(hc:G' c=some (.list rs))(hd:as.reverse++done=sts)
   (hko:G' ko=some (.list (ks.reverse.map .ref))) (hr:RelK G0 done ks kq) (hk:KsAt G0 G' ks kq) (hl:ks.length<=done.length) (hg:(qs.foldl (zI sl am) (k,kq)).2=goal):SwI G0 f ad b h ko c sl am sts rs goal as (ssL f ad b h ko x y z) G':=λ_ q=>q x y z done ks qs k kq hs hw hh x1 hc hd hko hr hk hl hg
def SwJ (G0 G':Gh)(h a:Addr)(F:Option Val->M)(rel:PS->Nat->List (PS×Bool)->Prop)(args:List Opd)(done ks:List Addr)(kq:List (PS×Bool))(m:M)(Gb:Gh):Prop:=
 ∀C:M->Prop,(∀(a':Addr) (p':PS) (nw:Bool) (kb:Nat),KAt G0 Gb a' p'->p'.args=args->Ze Gb h kb->Ext1 h G' Gb->Zz G' Gb->RelK G0 (a::done) (a'::ks) ((p',nw)::kq)->rel p' kb ((p',nw)::kq)->C (F (some (.ref a'))))->C m
theorem SwJ.mk {G0 G' Gb:Gh}{h a a':Addr}{F:Option Val->M}{rel:PS->Nat->List (PS×Bool)->Prop}{args:List Opd}{done ks:List Addr}{kq:List (PS×Bool)}{p':PS}{nw:Bool}{kb:Nat}(hk:KAt G0 Gb a' p')(hp:p'.args=args)(hs:Ze Gb h kb)(x1:Ext1 h G' Gb)(ik:Zz G' Gb)(hr:RelK G0 (a::done) (a'::ks) ((p',nw)::kq))(hg:rel p' kb ((p',nw)::kq)):SwJ G0 G' h a F rel args done ks kq (F (some (.ref a'))) Gb:=λ_ q=>q a' p' nw kb hk hp hs x1 ik hr hg
theorem Ext1.none {k:Nat}(x:Ext1 h G G')(hs:Ze G' h k)(e:G' z=Option.none):G z=Option.none:=by
 cases q:G z with
 | none=>rfl
 | some o=>
  have ne:z≠h:=λw=>by obtain⟨_,e'⟩:=hs;rw[w] at e;rw[e'] at e;cases e
  rw[x _ _ ne q] at e;cases e
theorem Yh.eD {α:Type}{f:α->Val}{as:List α}(e1:G' a=some (.list (as.map f)))(e:v=.ref a)(I:List α->M->Gh->Prop)(h0:I as m G')(gd:∀r m G',I r m G'->G' a=some (.list (as.map f)))
  (t:∀x r m G (QT:QS),I (x::r) m G->(∀{m G},I r m G->QT .next m G)->(∀{m G},I r m G->QT .cont m G)->BT X n sc tgt (f x) m body G QT) (z:∀m G,I [] m G->SnB X n sc sts m G Q):Yh X n sc tgt body sts m Q v G':=
 ⟨a,as.map f,λxs m G=>∃r,xs=r.map f/\I r m G,e,e1,⟨λv xs m G q=>by
  refine zC q λr e hI=>?_;have g:=gd _ _ _ hI;refine wF (zt e) λx r eq2 eq3 eq4=>?_;subst eq2;subst eq3;subst eq4;exact⟨g,t x r m G _ hI (λh=>.next ⟨r,rfl,h⟩) λh=>.cont ⟨r,rfl,h⟩⟩,λm G q=>by
  refine zC q λr e hI=>?_;obtain rfl:=wM e;exact⟨gd _ _ _ hI,.next (z m G hI)⟩⟩,⟨as,rfl,h0⟩⟩
theorem zJb {k a d s:Nat}(h:a+(d+1)=s)(hk:k<=d)(hs:s<1000):k+(a+1)<=999:=le_trans (add_le_add_right hk _) (le_trans (le_of_eq (show d+(a+1)=s from by rw[<-h];rw[Nat.add_comm d];rw[add_assoc];rw[Nat.add_comm 1])) (le_of_lt_succ hs))
theorem vZ {f ad b h eo:Addr}{pr:List Int}{sl:Za}{bls:List Addr}{am:Zc}{num:Int}{sts:List Addr}{ps:List PS}{pe:PS}{k:Nat}{Q:QE}(T:Tops X)(hf:Zh G f pr sl bls)(ha:G ad=some (.dict (adE am)))(hok:AdOK am sl)
  (hb:Zn G b num sts eo) (hst:Zb G sts ps) (hwf:∀p∈ps,Zl p) (hlen:sts.length<1000) (hend:Zg G eo pe) (hew:OpOK pe.args) (hs:Ze G h k)
  (kk:∀c ks G',G c=none->Ext1 h G G'->G' c=some (.list (ks.map .ref))->RelK G sts ks (jX sl am ps pe.args k)->KsAt G G' ks (jX sl am ps pe.args k)->ks.length<=sts.length->Q (.ref c) G'):Cal X (n+4) yO [.ref f,.ref ad,.ref b,.ref h] G Q:=by
 obtain⟨fs,st,h1,⟨b1,b2,b3⟩,h2⟩:=id hb;obtain⟨⟨es,la,h3,⟨e1,e2,e3,e4,e5,_⟩,h4⟩,ho⟩:=id hend;refine Cal.start (T.d 18 rfl) rfl rfl ?_;refine ue (λx y=>[some (.ref f),some (.ref ad),some (.ref b),some (.ref h),x,y,none,none,none,none,none]) rfl (λ_ _ _=>()) (λ_ _ _=>()) (λ_ _=>()) (λ_ _=>()) (λ_ _=>()) () h4 hs hew λx y G1 hs1 x1=>?_;refine SnB.aB (Sn.aj .nil λko hko=>⟨_,(),?_⟩);have y1:=Ext.new (o:=.list []) hko;have nk:∀{z:Addr} {o:GObj},G1 z=some o->z≠ko:=λe q=>by rw[q] at e;rw[hko] at e;cases e
 have nh:∀{z:Addr},G1 z=none->z≠h:=λe q=>by obtain⟨_,q'⟩:=hs1;rw[q] at e;rw[q'] at e;cases e
 have kh:=nh hko;have hk2:=Gh.aA G1 ko (.list []);generalize G1.upd ko (.list [])=G2 at *;have h1':=y1 _ _ (yG hs x1 h1 rfl);have h2':=y1 _ _ (yG hs x1 h2 rfl);refine SnB.bN (Sn.rev (Rd.to (v:=.ref st) () ⟨st,sts.map .ref,rfl,h2',λc hc=>?_⟩));have y2:=Ext.new (o:=.list (sts.map .ref).reverse) hc;have hcc:=Gh.aA G2 c (.list (sts.map .ref).reverse);generalize hrs:(sts.map Val.ref).reverse=rs at *;have hrs':rs=sts.reverse.map .ref:=by rw[<-hrs];rw[List.map_reverse]
 have ckn:c≠ko:=λq=>by rw[<-q] at hk2;rw[hc] at hk2;cases hk2
 have ch:c≠h:=λq=>by obtain⟨_,q'⟩:=hs1;rw[q] at hc;rw[y1 _ _ q'] at hc;cases hc
 have hko':=y2 _ _ hk2;generalize G2.upd c (.list rs)=G3 at *;have x3:Ext1 h G G3:=x1.trans (y1.trans y2).one;have hs3:Ze G3 h (addA k pe.args):=by obtain⟨f,q⟩:=hs1;exact⟨f,y2 _ _ (y1 _ _ q)⟩
 have gk:∀{z:Addr} {o:GObj},G z=some o->z≠ko:=λ{z o} e q=>by
  by_cases zh:z=h
  ·exact kh (q.symm.trans zh)
  ·exact nk (x1 _ _ zh e) q
 refine .eD (f:=.ref) (hrs'▸hcc) rfl (SwI G f ad b h ko c sl am sts rs (jX sl am ps pe.args k)) (.mk (done:=[]) (ks:=[]) hst.reverse (λp hp=>hwf p (List.mem_reverse.mp hp)) hs3 x3 hcc (by rw[List.reverse_reverse];rw[append_nil]) hko' .nil .nil (le_refl _) rfl) (λr m G' hI=>hrs'▸hI (λ_=>_) λ_ _ _ _ _ _ _ _ _ _ _ _ e _ _ _ _ _ _=>e) (λa as m G' QT hI hN hN'=>?_) λm G' hI=>?_
 ·clear hcc hs3 x3 hs1 x1 hk2 hko' y1 y2 h1' h2' nk nh hc;apply hI;intro x y z done ks qs k' kq hsa hw hs' x' hc' hd hko' hrel hka hlk hg;revert hw hg;apply hsa.uc;intro p qs hp hsa hw hg;have hp':=hp.k1 hs x';obtain⟨⟨fp,lp,p1,pis,p2⟩,po⟩:=id hp';obtain⟨⟨fp0,lp0,p10,pis0,p20⟩,_⟩:=id hp;obtain⟨q1,q2,q3,q4,q5,_⟩:=id pis;have hwp:=hw p (.head _);have hw':∀p∈qs,Zl p:=λp hp=>hw p (.tail _ hp);have hd':as.reverse++(a::done)=sts:=by rw[<-hd];rw[List.reverse_cons];rw[append_assoc];rfl
  obtain⟨fl,hs''⟩:=id hs';have skip:zI sl am (k',kq) p=(k',kq)->QT .cont (ssL f ad b h ko x y (some (.ref a))) G':=λe=>
   hN' (.mk hsa hw' hs' x' hc' hd' hko' (.skip hrel) hka (le_succ_of_le hlk) (by rw[<-hg];rw[foldl_cons];rw[e]))
  refine⟨_,.name (Upd.put ()),SnB.ck (r:=zD k' p.dst) (SwJ G G' h a (ssL f ad b h ko x y) (λp' kb q=>zI sl am (k',kq) p=(addA kb p.args,q)) p.args done ks kq) (.cmp () () (.inSet hs'' qA)) (λmb Gb hJ=>?_) λQJ hM hC=>?_⟩
  ·apply hJ;intro a' p' nw kb hk1 hp1 s1 s2 s3 s4 s5;obtain⟨⟨fk,lk,k1,⟨m1,m2,m3,m4,m5,_⟩,k2⟩,k3⟩:=id hk1;rw[hp1] at k2;have k2':=yG hs (x'.trans s2) k2 rfl;refine ue (λx y=>[some (.ref f),some (.ref ad),some (.ref b),some (.ref h),x,y,some (.ref ko),some (.ref a'),none,none,none]) rfl (λ_ _ _=>()) (λ_ _ _=>()) (λ_ _=>()) (λ_ _=>()) (λ_ _=>()) () k2' s1 hwp.regs λx y G4 hs4 x4=>?_;have hko4:=x4 _ _ kh (s2 _ _ kh hko');have hc4:=x4 _ _ ch (s2 _ _ ch hc');have lens:ks.length+(as.length+1)<=999:=zJb (by rw[<-length_cons (a:=a) (as:=done)];rw[<-length_reverse (as:=as)];rw[<-length_append];rw[hd']) hlk hlen;refine SnB.expr (Sn.aV .append (λ_ _=>rfl) (Rd.to (v:=.ref ko) () ⟨.list hko4,Rds.to (vs:=[.ref a']) () (Meth.append hko4 (by rw[length_map];rw[length_reverse];exact zDB lens ()) (.nil (hN ?_)))⟩));have iu:Zz G4 (G4.upd ko (.list (ks.reverse.map .ref++[.ref a']))):=.upd hko4 rfl;have i4:=x4.inst s1;have hall:KsAt G (G4.upd ko (.list (ks.reverse.map .ref++[.ref a']))) (a'::ks) ((p',nw)::kq):=KsAt.keep (.cons hk1 (hka.keep s3)) (i4.trans iu);exact .mk hsa hw' (by obtain⟨f,q⟩:=hs4;exact⟨f,(Gh.aD _ _ (Ne.symm kh)).trans q⟩) (λz o zh e=>(Gh.aD _ _ (gk e)).trans (x4 _ _ zh (s2 _ _ zh (x' _ _ zh e)))) ((Gh.aD _ _ ckn).trans hc4) hd' (by rw[Gh.aA];rw[List.reverse_cons];rw[List.map_append];rfl) s4 hall (succ_le_succ hlk) (by rw[<-hg];rw[foldl_cons];rw[s5])
  have same:∀{Gb:Gh} {kb:Nat},Ze Gb h kb->Ext1 h G' Gb->zI sl am (k',kq) p=(addA kb p.args,(p,false)::kq)->QJ .next (ssL f ad b h ko x y (some (.ref a))) Gb:=λs1 s2 s3=>
   hM (.mk ⟨⟨fp0,lp0,yG hs (x'.trans s2) p10 rfl,pis0,p20⟩,po⟩ rfl s1 s2 (s2.inst hs') (.same hrel) s3)
  have skip:=λe=>hC (skip e);refine⟨λe=>?_,λe=>?_⟩
  ·-- it is needed
   refine SnB.ifs (r:=zG p) ?_ (λe2=>SnB.cont (.cont (skip ((if_pos e).trans (if_pos e2))))) λe2=>.nil (.next ?_)
   ·cases hop:Nat.beq p.op 10 with
    | false=>
     have e0:zG p=(Nat.beq p.op 10&&false):=by unfold zG;rw[hop];rfl
     rw[e0];rw[<-zCQ p.op po];exact .and (.cmp () () (.bH qA)) λq=>by rw[zCQ p.op po] at q;rw[hop] at q;cases q
    | true=>
     obtain⟨o,ho'⟩:∃o,p.args[0]?=some o:=⟨_,getElem?_eq_getElem (hwp.copy (Nat.eq_of_beq_eq_true hop))⟩
     have e0:zG p=(Nat.beq p.op 10&&(rk o.1 == Str.ofString "r"&&(o.2 == p.dst&&true))):=by unfold zG;rw[ho'];rw[rk_r];rw[Bool.and_true]
     rw[e0];rw[<-zCQ p.op po];refine .and (.cmp () () (.bH qA)) λq=>.aX (.cmp (v:=opdV o) (w:=.tup [.str "r",.int p.dst]) (.aF () p2 .int () (zY ho')) () (Op2.eq (.aU (.cons (.str (by cases o.1<;>decide +kernel)) (.cons (.int _) .nil))) (.aU (.cons (.str (by decide +kernel)) (.cons (.int _) .nil))) qA))
   ·exact SnB.expr (Sn.aV .discard (λ_ _=>rfl) (Rd.to (v:=.ref h) () ⟨.set hs'',Rds.to (vs:=[.int p.dst]) () (Meth.discard hs'' (.nil (same ⟨false,by rw[Gh.aA];rw[zB0 (yJ e) e]⟩ .upd ((if_pos e).trans (if_neg (by rw[e2];decide))))))⟩))
  ·have eN:zI sl am (k',kq) p=if z8 sl am p then(k',kq) else if decide (p.dst >= 0)&&wT p.op then(addA k' p.args,(⟨p.op,-1,p.args,p.more,false⟩,true)::kq) else(addA k' p.args,(p,false)::kq):=if_neg (by rw[e];decide)
   refine SnB.ifs (r:=z8 sl am p) (.val (.ref (T.f 10 rfl) ?_ ?_ (vs:=[.ref f,.ref ad,.ref a]) ?_ (zAA T (hf.k1 hs x') (yG hs x' ha rfl) hok hp' hwp qA)) (.bool _)) (λe'=>SnB.cont (.cont (skip (eN.trans (if_pos e'))))) λe'=>?_
   ·walk_at"r"
   ·intro _ _;rfl
   ·walk_at"r"
   rw[if_neg (by rw[e'];decide)] at eN;refine SnB.ifs (r:=decide (p.dst >= 0)&&wT p.op) (zIH p.op po▸.and (.cmp () () (.ge qA)) λ_=>.aX (.cj T.g_CALLS () ())) (λe2=>?_) λe2=>.nil (.next (.nil (.next (.nil (same hs' .refl (by rw[eN];rw[if_neg (by rw[e2];decide)]))))));refine SnB.aB (Sn.ref (T.f 14 rfl) () (λ_ _=>rfl) (vs:=[.ref a]) () (zDU T p1 pis p2 po λc' gs hc' hg'=>⟨_,(),.nil (.next (.nil (.next (.nil (hM ?_)))))⟩));have lpe:lp=lp0:=by
    have:=yG hs x' p10 rfl;rw[p1] at this;cases this;have q:=pis0.args;rw[q3] at q;cases q;rfl
   subst lpe;exact .mk ⟨⟨gs,lp,Gh.aA ..,hg',p20⟩,po⟩ rfl (by obtain⟨f,q⟩:=hs';exact⟨f,Ext.new hc' _ _ q⟩) (Ext.new hc').one (Ext.new hc').inst (.new (x'.none hs' hc') hrel) (by rw[eN];rw[if_pos e2])
 ·apply hI;intro x y z done ks qs k' kq hsa hw hs' x' hc' hd hko' hrel hka hlk hg;cases hsa.un;have hd2:done=sts:=hd;subst hd2;have hg2:kq=jX sl am ps pe.args k:=hg;subst hg2;refine SnB.aH (Sn.rev (Rd.to (v:=.ref ko) () ⟨ko,ks.reverse.map .ref,rfl,hko',λc' hc''=>?_⟩));have y:=Ext.new (o:=.list (ks.reverse.map Val.ref).reverse) hc'';refine kk c' ks _ (x'.none hs' hc'') (x'.trans y.one) ?_ hrel (hka.keep y.inst) hlk;rw[Gh.aA];rw[List.map_reverse];rw[List.reverse_reverse]
end
section
variable {X:Cx}{n:Nat}{G:Gh}{sc:Scope}{os:List (Option Val)}{m:M}
theorem Bnd.weak (h:Bnd X loc sc tgt v m1 m')(k:∀x v,m1 x v->m2 x v):Bnd X loc sc tgt v m2 m':=⟨λhe hh hl hr hf hv=>h.go he hh hl hr (hf.weak k) hv⟩
section
variable {P:Str->Val->Prop}{p:Str×NameKind}{ns:List (Str×NameKind)}{x:Str}{k:NameKind}{v:Val}
theorem cap0:∀y w,Loc ns [] y w->P y w:=λy w ⟨_,_,h⟩=>by cases h
theorem capn (h:∀y w,Loc ns os y w->P y w):∀y w,Loc (p::ns) (none::os) y w->P y w:=λy w ⟨j,e,q⟩=>by cases j with | zero=>cases q | succ j=>exact h y w ⟨j,e,q⟩
theorem capv (hv:P x v)(h:∀y w,Loc ns os y w->P y w):∀y w,Loc ((x,k)::ns) (some v::os) y w->P y w:=λy w ⟨j,e,q⟩=>by
 cases j with
 | zero=>obtain⟨_,e⟩:=e;cases e;cases q;exact hv
 | succ j=>exact h y w ⟨j,e,q⟩
end
theorem Ext.none (x:Ext G G')(h:G' z=none):G z=none:=by
 cases e:G z with
 | none=>rfl
 | some o=>rw[x _ _ e] at h;cases h
theorem SnB.abs (h:∀QT:QS,(∀{m G},J m G->QT .next m G)->(∀{v m G},Q (.ret v) m G->QT (.ret v) m G)->SnB X n sc body m G QT):SnB X n sc body m G (Turn J Q):=h _ .next .ret
theorem Z5.cap (os0:List (Option Val))(h:Z5 X n sc' tgt elt ifs (L sc' os0) gd Q I)(hm:∀y w,Loc sc'.names os0 y w->capM sc scope m y w)(e:relS sc scope=sc':=by rfl):Z5 X n (relS sc scope) tgt elt ifs (capM sc scope m) gd Q I:=
 ⟨λx xs acc G hI=>by
  obtain⟨h1,m',h2,h3⟩:=h.turn x xs acc G hI;rw[e];exact⟨h1,m',h2.weak hm,h3⟩,h.stop⟩
theorem SnB.cH (h:Rd X n sc e m G (.ref a))(e1:G a=some (.list xs))(I:List Val->M->Gh->Prop)(h0:I xs m G)
  (t:∀x xs m G,I (x::xs) m G->BT X n sc tgt x m body G (Turn (I xs) (Then X n sc sts Q))) (z:∀m G,I [] m G->SnB X n sc sts m G Q) (gd:∀xs' m G',I xs' m G'->G' a=some (.list xs))
  (hs:∀env x,foldedSetIterable e env x=pure x:=by intro _ _;rfl):SnB X n sc (.For tgt e body [] pos::sts) m G Q:=
 .forL h e1 I ⟨λx xs m G i=>⟨gd _ _ _ i,t x xs m G i⟩,λm G i=>⟨gd _ _ _ i,.next (z m G i)⟩⟩ h0 hs
theorem SnB.cq {α:Type}{as:List α}(f:α->Val)(h:Rd X n sc e m G (.ref a))(e1:G a=some (.list (as.map f)))(I:List α->M->Gh->Prop)(h0:I as m G)(gd:∀r m G',I r m G'->G' a=some (.list (as.map f)))
  (t:∀x r m G (QT:QS),I (x::r) m G->(∀{m G},I r m G->QT .next m G/\QT .cont m G)->(∀{v m G},Q (.ret v) m G->QT (.ret v) m G)->BT X n sc tgt (f x) m body G QT) (z:∀m G,I [] m G->SnB X n sc sts m G Q) (hs:∀env x,foldedSetIterable e env x=pure x:=by intro _ _;rfl):SnB X n sc (.For tgt e body [] pos::sts) m G Q:=
 .cH h e1 (λxs m G=>∃r,xs=r.map f/\I r m G) ⟨as,rfl,h0⟩ (λv xs m G q=>by
  refine zC q λr e hI=>?_;refine wF (zt e) λx r eq2 eq3 eq4=>?_;subst eq2;subst eq3;subst eq4;exact t x r m G _ hI (λh=>⟨.next ⟨r,rfl,h⟩,.cont ⟨r,rfl,h⟩⟩) λq=>.ret (.ret q)) (λm G q=>by
  refine zC q λr e hI=>?_;obtain rfl:=wM e;exact z m G hI) (λxs m G q=>by
  refine zC q λr e hI=>?_;exact gd r m G hI) hs
theorem SnB.forM {α:Type}{as:List α}(f:α->Val)(h:Rd X n sc e m G (.ref a))(e1:G a=some (.list (as.map f)))(I:List α->M->Gh->Prop)(h0:I as m G)(gd:∀r m G',I r m G'->G' a=some (.list (as.map f)))
  (t:∀x r m G (QT:QS),I (x::r) m G->(∀{m G},I r m G->QT .next m G)->(∀{v m G},Q (.ret v) m G->QT (.ret v) m G)->BT X n sc tgt (f x) m body G QT) (z:∀m G,I [] m G->SnB X n sc sts m G Q) (hs:∀env x,foldedSetIterable e env x=pure x:=by intro _ _;rfl):SnB X n sc (.For tgt e body [] pos::sts) m G Q:=
 .cq f h e1 I h0 gd (λx r m G QT hI k=>t x r m G QT hI λh=>(k h).1) z hs
theorem Yh.mapM {α:Type}{f:α->Val}{as:List α}(e1:G' a=some (.list (as.map f)))(e:v=.ref a)(I:List α->M->Gh->Prop)(h0:I as m G')(gd:∀r m G',I r m G'->G' a=some (.list (as.map f)))
  (t:∀x r m G (QT:QS),I (x::r) m G->(∀{m G},I r m G->QT .next m G)->(∀{v m G},Q (.ret v) m G->QT (.ret v) m G)->BT X n sc tgt (f x) m body G QT) (z:∀m G,I [] m G->SnB X n sc sts m G Q):Yh X n sc tgt body sts m Q v G':=
 ⟨a,as.map f,λxs m G=>∃r,xs=r.map f/\I r m G,e,e1,⟨λv xs m G q=>by
  refine zC q λr e hI=>?_;have g:=gd _ _ _ hI;refine wF (zt e) λx r eq2 eq3 eq4=>?_;subst eq2;subst eq3;subst eq4;exact⟨g,t x r m G _ hI (λh=>.next ⟨r,rfl,h⟩) λq=>.ret (.ret q)⟩,λm G q=>by
  refine zC q λr e hI=>?_;obtain rfl:=wM e;exact⟨gd _ _ _ hI,.next (z m G hI)⟩⟩,⟨as,rfl,h0⟩⟩
theorem Z5.mapM {α β:Type}{gd:Gh->Prop}(f:α->Val)(g:β->Val)(I:List α->List β->Gh->Prop)
  (turn:∀x r acc G (P1:Val->Gh->Prop) (P2:Gh->Prop),I (x::r) acc G->(∀{b G'},I r (acc++[b]) G'->P1 (g b) G')->(∀{G'},I r acc G'->P2 G')->gd G/\∃m',Bnd X true sc tgt (f x) m0 m'/\SnC X n sc ifs m' G λt G1=>Two (Sn X n sc elt m' G1 P1) (P2 G1) t)
  (stop:∀acc G,I [] acc G->gd G/\newList (acc.map g) G Q):Z5 X n sc tgt elt ifs m0 gd Q (λxs acc G=>∃r ks,xs=r.map f/\acc=ks.map g/\I r ks G):=
 ⟨λv xs acc G q=>by
  refine wF q λr ks e1 eq3 hI=>?_;subst eq3;refine wF (zt e1) λx r eq2 eq3 eq4=>?_;subst eq2;subst eq3;subst eq4;exact turn x r ks G _ _ hI (λ{b G'} h=>⟨r,ks++[b],rfl,by rw[List.map_append];rfl,h⟩) λh=>⟨r,ks,rfl,rfl,h⟩,λacc G q=>by
  refine wF q λr ks e1 eq3 hI=>?_;subst eq3;obtain rfl:=wM e1;exact stop ks G hI⟩
theorem Z5.stM {β:Type}{gd:Gh->Prop}(G0:Gh)(g:β->Val)(I:List PS->List β->Gh->Prop)
  (turn:∀x p r acc G (P1:Val->Gh->Prop) (P2:Gh->Prop),Zg G0 x p->I (p::r) acc G->(∀{b G'},I r (acc++[b]) G'->P1 (g b) G')->(∀{G'},I r acc G'->P2 G')->gd G/\∃m',Bnd X true sc tgt (.ref x) m0 m'/\SnC X n sc ifs m' G λt G1=>Two (Sn X n sc elt m' G1 P1) (P2 G1) t)
  (stop:∀acc G,I [] acc G->gd G/\newList (acc.map g) G Q):Z5 X n sc tgt elt ifs m0 gd Q (λxs acc G=>∃as ks,xs=as.map .ref/\acc=ks.map g/\∃ps,Zb G0 as ps/\I ps ks G):=
 .mapM .ref g (λas ks G=>∃ps,Zb G0 as ps/\I ps ks G) (λx r acc G P1 P2 q k1 k2=>q.elim λps q=>(Zb.uc (C:=λps=>I ps acc G->_) q.1 λp ps' s1 s2 hI=>turn x p ps' acc G P1 P2 s1 hI (λh=>k1 ⟨ps',s2,h⟩) λh=>k2 ⟨ps',s2,h⟩) q.2) λacc G q=>q.elim λps q=>stop acc G (q.1.un▸q.2)
theorem zFX {a b:Nat}:decide ((a:Int)<(b:Int))=Nat.blt a b:=by rw[Bool.eq_iff_iff];rw[decide_eq_true_iff];rw[Int.ofNat_lt];rw[Nat.blt_eq]
structure PB where
 steps:List PS
 fin:PS
 ways:List Int
inductive Zd (G:Gh):Int->List Addr->List PB->Prop where
 | nil {n:Int}:Zd G n [] []
 | cons {n:Int} {b eo:Addr} {sts bs:List Addr} {B:PB} {Bs:List PB}:Zn G b n sts eo->Zb G sts B.steps->Zg G eo B.fin->Zt G B.fin B.ways->Zd G (n+1) bs Bs->Zd G n (b::bs) (B::Bs)
theorem Zd.ext (x:Ext G G'){n:Int}{bs:List Addr}{Bs:List PB}(h:Zd G n bs Bs):Zd G' n bs Bs:=by
 induction h with
 | nil=>exact .nil
 | cons a b c d _ ih=>exact .cons (a.ext x) (b.ext x) (c.ext x) (d.ext x) ih
theorem Zd.length {n:Int}{bs:List Addr}{Bs:List PB}(h:Zd G n bs Bs):bs.length=Bs.length:=by
 induction h with
 | nil=>rfl
 | cons _ _ _ _ _ ih=>exact congrArg (· + 1) ih
inductive Ym (G:Gh)(b:Addr)(i:Int)(B:PB):Prop where
 | mk (sts:List Addr) (eo:Addr) (h1:Zn G b i sts eo) (h2:Zb G sts B.steps) (h3:Zg G eo B.fin) (h4:Zt G B.fin B.ways)
theorem Zd.get {n:Int}{bs:List Addr}{Bs:List PB}(h:Zd G n bs Bs):∀{j:Nat} {B:PB},Bs[j]?=some B->∃b,bs[j]?=some b/\Ym G b (n+j) B:=by
 induction h with
 | nil=>intro j B e;cases e
 | @cons n _ _ _ _ _ _ a b c d _ ih=>
  intro j B e;cases j with
  | zero=>cases e;exact⟨_,rfl,⟨_,_,(add_zero n).symm▸a,b,c,d⟩⟩
  | succ j=>
   refine zC (ih (j:=j) e) λx h1 h2=>?_;exact⟨x,h1,by rw[show n+((j+1:Nat):Int)=n+1+(j:Int) from by rw[Int.add_assoc];rw[Int.add_comm 1];rfl];exact h2⟩
structure BOK (N:Nat)(B:PB):Prop where
 len:B.steps.length<=900
 wf:∀p∈B.steps,Zl p
 ends : OpOK B.fin.args
 ways:B.ways.length<=4
 goals:∀j∈B.ways,0<=j/\j.toNat<N
structure FnOK (Bs:List PB):Prop where
 one:0<Bs.length
 few:Bs.length<=16
 blks:∀B∈Bs,BOK Bs.length B
inductive LsAt (G0 G:Gh):List Addr->List (List Int)->Prop where
 | nil:LsAt G0 G [] []
 | cons {a:Addr} {l:List Int} {as:List Addr} {L:List (List Int)}:a∉as->G0 a=none->G a=some (.list (l.map .int))->LsAt G0 G as L->LsAt G0 G (a::as) (l::L)
section
variable {G0 G':Gh}{as:List Addr}{L:List (List Int)}
theorem LsAt.ext (h:LsAt G0 G as L)(x:Ext G G'):LsAt G0 G' as L:=by
 induction h with
 | nil=>exact .nil
 | cons a b c _ ih=>exact .cons a b (x _ _ c) ih
theorem LsAt.off (h:LsAt G0 G as L)(x:Ext1 z G G'):z∉as->LsAt G0 G' as L:=by
 induction h with
 | nil=>exact λ_=>.nil
 | cons a b c _ ih=>exact λhz=>.cons a b (x _ _ (λq=>hz (q▸.head _)) c) (ih λq=>hz (.tail _ q))
theorem LsAt.length (h:LsAt G0 G as L):as.length=L.length:=by
 induction h with
 | nil=>rfl
 | cons _ _ _ _ ih=>exact congrArg (· + 1) ih
theorem LsAt.get (h:LsAt G0 G as L):∀{j:Nat} {l:List Int},L[j]?=some l->∃a,as[j]?=some a/\G a=some (.list (l.map .int))/\a∈as:=by
 induction h with
 | nil=>intro j l e;cases e
 | cons a b c _ ih=>
  intro j l e;cases j with
  | zero=>cases e;exact⟨_,rfl,c,.head _⟩
  | succ j=>
   refine zU (ih (j:=j) e) λx h1 h2 h3=>?_;exact⟨x,h1,h2,.tail _ h3⟩
theorem LsAt.set (h:LsAt G0 G as L):∀{j:Nat},as[j]?=some a->LsAt G0 (G.upd a (.list (l.map .int))) as (L.set j l):=by
 induction h with
 | nil=>intro j e;cases e
 | cons n b c r ih=>
  intro j e;cases j with
  | zero=>cases e;exact .cons n b (Gh.aA ..) (r.off .upd n)
  | succ j=>
   have e':=mem_of_getElem? (show _=some a from e);exact .cons n b ((Gh.aD _ _ λq=>n (by rw[q];exact mem_of_getElem? (i:=j) e)).trans c) (ih (j:=j) e)
theorem LsAt.mem (h:LsAt G0 G as L)(m:a∈as):(G a).isSome=true/\G0 a=none:=by
 induction h with
 | nil=>cases m
 | cons n b c _ ih=>
  rcases List.mem_cons.mp m with q | q
  ·rw[q];rw[c];exact⟨rfl,b⟩
  ·exact ih q
theorem LsAt.new {a:Addr}(h:LsAt G0 G as L)(e:G a=none):a∉as:=λq=>by have:=(h.mem q).1;rw[e] at this;cases this
theorem LsAt.snoc (h:LsAt G0 G as L)(h0:G0 c=none)(hc:G c=some (.list (l.map .int))):c∉as->LsAt G0 G (as++[c]) (L++[l]):=by
 induction h with
 | nil=>exact λ_=>.cons (by intro q;cases q) h0 hc .nil
 | cons n a b _ ih=>exact λhn=>.cons (λq=>by
   rcases List.mem_append.mp q with q | q
   ·exact n q
   ·rw[mem_singleton] at q;exact hn (q▸.head _)) a b (ih λq=>hn (.tail _ q))
end
theorem zCm (k:Nat)(i:Int):RD G k (.int i) (.int i):=.int i
theorem zDN (i:Int)(ns:List Int):((ns.map PyData.int).any λe=>e.eqv (.int i))=ns.any (· == i):=by rw[any_map];rfl
theorem Op2.b6 {ns:List Int}{i:Int}(h:G a=some (.list (ns.map .int))):O2 X n (compareOp .NotIn) (.int i) (.ref a) G (.bool (!ns.any (· == i))):=
 zDN i ns▸Op2.cY (zCm _ _) (.inr (.aS h (.map _ _ _ λx _=>zCm _ x))) qA
noncomputable def zv (i:Int)(L:List (List Int))(j:Int):List (List Int):=if (L.getD j.toNat []).any (· == i) then L else L.set j.toNat (L.getD j.toNat []++[i])
noncomputable def yf (i:Int):List PB->List (List Int)->List (List Int)
 | [],L=>L
 | B::Bs,L=>yf (i+1) Bs (B.ways.foldl (zv i) L)
noncomputable def zp (Bs:List PB):List (List Int):=yf 0 Bs (Bs.map λ_=>[])
theorem zAf {i j:Int}{L:List (List Int)}{k K:Nat}(hj:L[j.toNat]?=some (L.getD j.toNat []))(h:∀l∈L,l.length+k<K):∀l∈zv i L j,l.length+k<=K:=by
 intro l hl;unfold zv at hl;split at hl
 ·exact le_of_lt (h l hl)
 ·rcases List.mem_or_eq_of_mem_set hl with q | q
  ·exact le_of_lt (h l q)
  ·rw[q];rw[length_append];rw[length_singleton];rw[add_right_comm];exact h _ (mem_of_getElem? hj)
theorem zKT (h:a+4 * (b+1)<=100)(hw:w<=4):a+w<=100 - 4 * b:=Nat.le_sub_of_add_le (le_trans (show a+w+4 * b<=a+(4 * b+4) by rw[add_assoc];rw[Nat.add_comm w];exact add_le_add_left (add_le_add_left hw _) _) h)
theorem zJZ (h:a<=100 - 4 * b)(hb:b<=16):a+4 * b<=100:=Nat.add_le_of_le_sub (le_trans (Nat.mul_le_mul_left 4 hb) ()) h
theorem zJY (h:b<=16):([]:List Int).length+4 * b<=100:=le_trans (le_of_eq (zero_add _)) (le_trans (Nat.mul_le_mul_left 4 h) ())
theorem zJX (h:a+b<100 - c):a<cap:=lt_of_le_of_lt (le_add_right a b) (lt_of_lt_of_le h (le_trans (sub_le ..) ()))
theorem three {i:Int}(h:0<=i/\i<3):i=0\/i=1\/i=2:=by lia
theorem zHe {i:Int}{k:Nat}(h0:0<=i)(h:i<k):i.toNat<k:=(toNat_lt h0).mpr h
theorem lt3:∀i<3,i=0\/i=1\/i=2:=()
theorem noB {C:Prop}(e:false=true):C:=absurd e Bool.false_ne_true
theorem noN {C:Prop}{a b:Nat}(e:a=b)(h:Nat.beq a b=false):C:=absurd e (Nat.ne_of_beq_eq_false h)
theorem zBa {α:Type}{L:List (List α)}{i:Nat}(h:i<L.length):L[i]?=some (L.getD i []):=by rw[getD_eq_getElem?_getD];rw[getElem?_eq_getElem h];rfl
theorem zJT (h:a+(b+1)<=k):a+b<=k:=le_of_succ_le h
theorem zGF (h:a+(b+1)<=k):a+1+b<=k:=by rw[add_right_comm];exact h
theorem uk (h:a<=b+1)(q:b+(c+1)<=k):a+c<=k:=le_trans (add_le_add_right h c) (by rw[add_assoc];rw[Nat.add_comm 1 c];exact q)
abbrev prL (f pr:Addr)(b i:Option Val):M:=L zCk [some (.ref f),b,some (.ref pr),i,none]
def Pr1 (G0:Gh)(f pr b la:Addr)(las:List Addr)(i:Int)(rs:List Val)(K:Nat)(goal:List (List Int))(js:List Int)(m:M)(G':Gh):Prop:=
 ∀C:M->Prop,(∀(x:Option Val) (L:List (List Int)),LsAt G0 G' las L->G' pr=some (.list (las.map .ref))->G' la=some (.list rs)->Ext G0 G'->(∀j∈js,0<=j/\j.toNat<las.length)->(∀l∈L,l.length+js.length<=K)->js.foldl (zv i) L=goal->C (prL f pr (some (.ref b)) x))->C m
theorem Pr1.mk {G0 G':Gh}{f pr b la:Addr}{las:List Addr}{i:Int}{rs:List Val}{K:Nat}{goal:List (List Int)}{js:List Int}{x:Option Val}{L:List (List Int)}(hL:LsAt G0 G' las L)(hp:G' pr=some (.list (las.map .ref)))(hl:G' la=some (.list rs))(x0:Ext G0 G')(hj:∀j∈js,0<=j/\j.toNat<las.length)(hc:∀l∈L,l.length+js.length<=K)(hg:js.foldl (zv i) L=goal):Pr1 G0 f pr b la las i rs K goal js (prL f pr (some (.ref b)) x) G':=λ_ k=>k x L hL hp hl x0 hj hc hg
def Pr2 (G0:Gh)(f pr:Addr)(las:List Addr)(N:Nat)(goal:List (List Int))(bs:List Addr)(m:M)(G':Gh):Prop:=
 ∀C:M->Prop,(∀(x y:Option Val) (i:Int) (Bs:List PB) (L:List (List Int)),Zd G0 i bs Bs->(∀B∈Bs,BOK N B)->Bs.length<=16->LsAt G0 G' las L->G' pr=some (.list (las.map .ref))->Ext G0 G'->(∀l∈L,l.length+4 * Bs.length<=100)->yf i Bs L=goal->C (prL f pr x y))->C m
theorem Pr2.mk {G0 G':Gh}{f pr:Addr}{las:List Addr}{N:Nat}{goal:List (List Int)}{x y:Option Val}{i:Int}{bs:List Addr}{Bs:List PB}{L:List (List Int)}(hB:Zd G0 i bs Bs)(hw:∀B∈Bs,BOK N B)(hs:Bs.length<=16)(hL:LsAt G0 G' las L)(hp:G' pr=some (.list (las.map .ref)))(x0:Ext G0 G')(hc:∀l∈L,l.length+4 * Bs.length<=100)(hg:yf i Bs L=goal):Pr2 G0 f pr las N goal bs (prL f pr x y) G':=λ_ k=>k x y i Bs L hB hw hs hL hp x0 hc hg
structure Pr3 (G0:Gh)(N:Nat)(r ks:List Addr)(G':Gh):Prop where
 h:LsAt G0 G' ks (replicate ks.length [])
 x:Ext G0 G'
 e:ks.length+r.length=N
theorem Zd.uc {i:Int}{bs:List Addr}{Bs:List PB}{C:List PB->Prop}(h:Zd G i (b::bs) Bs)(k:∀eo sts B Bs',Zn G b i sts eo->Zb G sts B.steps->Zg G eo B.fin->Zt G B.fin B.ways->Zd G (i+1) bs Bs'->C (B::Bs')):C Bs:=by cases h with | cons a b c d e=>exact k _ _ _ _ a b c d e
theorem Zd.un {i:Int}{Bs:List PB}(h:Zd G i [] Bs):Bs=[]:=by cases h;rfl
theorem zIQ (l:List α):(l.map λ_=>([]:List Int))=replicate l.length []:=List.map_const' ..
theorem zFw {pa:List Int}{sl:Za}{bls:List Addr}{Bs:List PB}(T:Tops X)(hf:Zh G f pa sl bls)(hB:Zd G 0 bls Bs)(ok:FnOK Bs)
  (kk:∀r las G',Ext G G'->LsAt G G' las (zp Bs)->G' r=some (.list (las.map .ref))->r∉las->G r=none->Q (.ref r) G'):Cal X (n+2) zCd [.ref f] G Q:=by
 obtain⟨ff,p,s,b,h1,⟨g1,g2,g3⟩,h2,h3,h4⟩:=id hf;have hlen:=hB.length;have hfew:=ok.few;refine Cal.start (T.d 7 rfl) rfl rfl ?_;refine .cons (SnS.aQ (by decide +kernel) (.seq (Rd.to (v:=.ref b) () ⟨_,_,.list h4,by rw[length_map];rw[hlen];exact lt_of_le_of_lt hfew (),_,.cap (sc':=zCF) [none,none] (.mapM .ref .ref (Pr3 G Bs.length) (λb' bs las G' P1 P2 hI k1 _=>?_) (λlas G' hI=>?_)) (capn (capn (cap0))),⟨bls,[],rfl,rfl,.nil,.refl,(zero_add _).trans hlen⟩⟩)))
 ·refine⟨hI.x _ _ h4,_,Upd.aM (),.nil ⟨λ_=>Sn.aj .nil λc hc=>k1 ?_,λq=>nomatch q⟩⟩;have y:=Ext.new (o:=.list []) hc;exact⟨by rw[length_append];rw[length_singleton];rw[List.replicate_succ'];exact(hI.h.ext y).snoc (hI.x.none hc) (Gh.aA ..) (hI.h.new hc),hI.x.trans y,by rw[length_append];rw[length_singleton];rw[add_assoc];rw[Nat.add_comm 1];exact hI.e⟩
 ·refine⟨hI.x _ _ h4,λpr hpr=>⟨_,Upd.put (),.next ?_⟩⟩;have y:=Ext.new (o:=.list (las.map .ref)) hpr;have hp:=Gh.aA G' pr (.list (las.map .ref));have hpl:=hI.h.new hpr;have hll:las.length=Bs.length:=hI.e;have hL':=hll▸hI.h.ext y;have h0:G pr=none:=hI.x.none hpr;have x1:=hI.x.trans y;generalize G'.upd pr (.list (las.map .ref))=G1 at *;have hlf:las.length<=cap:=by rw[hll];exact le_trans hfew ()
  have h1':=x1 _ _ h1;clear y hI hpr;refine SnB.forM .ref () (x1 _ _ h4) (Pr2 G f pr las Bs.length (zp Bs)) (.mk hB ok.blks hfew hL' hp x1 (λl hl=>by rw[List.eq_of_mem_replicate hl];exact zJY hfew) (by rw[<-zIQ];rfl)) (λbs m G' hI=>hI (λ_=>_) λx y i Bs L _ _ _ _ _ x _ _=>x _ _ h4) (λb' bs m G2 QT hI hN hR=>?_) λm G2 hI=>?_
  ·apply hI;intro x y i Bs0 L hB hw hs hL2 hp x2 hc hg;revert hw hs hc hg;apply hB.uc;intro eo sts B Bs' ha _ he hj hB hw hs hc hg;have hwB:=hw B (.head _);refine⟨_,.name (Upd.put ()),SnB.bN (Sn.ref (T.f 0 rfl) () (λ_ _=>rfl) (vs:=[.ref b']) () (wv T (ha.ext x2) (he.ext x2) (hj.ext x2) λla G3 hla x3 h5=>?_))⟩;have hln:=hL2.new hla;refine .mapM (f:=.int) h5 rfl (Pr1 G f pr b' la las i (B.ways.map .int) (100 - 4 * Bs'.length) (B.ways.foldl (zv i) L)) (.mk (hL2.ext x3) (x3 _ _ hp) h5 (x2.trans x3) (by rw[hll];exact hwB.goals) (λl hl=>zKT (hc l hl) hwB.ways) rfl) (λbs m G' hI=>hI (λ_=>_) λ_ _ _ _ e _ _ _ _=>e) (λj js m G4 QU hI hM hS=>?_) λm G4 hI=>?_
   ·apply hI;intro x L' hL4 hp4 hl4 x4 hj4 hc4 hg4;obtain⟨j0,j1⟩:=hj4 j (.head _);have hj4:=λk hk=>hj4 k (.tail _ hk);have gd:=zBa (L:=L') (hL4.length▸j1);refine zU (hL4.get gd) λa a1 a2 a3=>?_;have hsq:zy (las.map Val.ref) j=some (.ref a):=by unfold zy;rw[if_pos j0];rw[getElem?_map];rw[a1];rfl
    have hjc:j.natAbs<cap:=wD j0 (lt_of_lt_of_le j1 hlf);obtain⟨fb,st,b1,⟨b2,b3,b4⟩,b5⟩:=(ha.ext x4)
    have hcc:=zAf (i:=i) gd hc4;refine⟨_,.name (Upd.put ()),SnB.ifs (r:=!(L'.getD j.toNat []).any (· == i)) (.cmp () (.aF () hp4 () hjc hsq) (.b6 a2)) (λe=>?_) λe=>.nil (.next (.nil (hM (.mk hL4 hp4 hl4 x4 hj4 ?_ ?_))))⟩
    ·refine SnB.expr (Sn.aV .append (λ_ _=>rfl) (Rd.to (v:=.ref a) (.aF () hp4 () hjc hsq) ⟨.list a2,Rds.to (vs:=[.int i]) () (Meth.append a2 (by rw[length_map];exact zJX (hc4 _ (mem_of_getElem? gd))) (.nil (.next (.nil (hM ?_)))))⟩));have eu:zv i L' j=L'.set j.toNat (L'.getD j.toNat []++[i]):=if_neg (by rw[not_eq_true'] at e;rw[e];decide);have hnew:=hL4.mem a3;exact .mk (L:=zv i L' j) (by rw[eu];rw[show (L'.getD j.toNat []).map Val.int++[Val.int i]=(L'.getD j.toNat []++[i]).map .int by rw[List.map_append];rfl];exact hL4.set a1) ((Gh.aD _ _ λq=>hpl (by rw[q];exact a3)).trans hp4) ((Gh.aD _ _ λq=>hln (by rw[q];exact a3)).trans hl4) (λz o e=>(Gh.aD _ _ λq=>by rw[q] at e;rw[hnew.2] at e;cases e).trans (x4 _ _ e)) hj4 hcc hg4
    ·rw[show zv i L' j=L' from if_pos (by rw[Bool.not_eq_false'] at e;exact e)] at hcc;exact hcc
    ·rw[foldl_cons] at hg4;rw[show zv i L' j=L' from if_pos (by rw[Bool.not_eq_false'] at e;exact e)] at hg4;exact hg4
   ·apply hI;intro x L' hL4 hp4 hl4 x4 _ hc4 hg4;cases hg4;exact .nil (hN (.mk hB (λB h=>hw B (.tail _ h)) (le_of_succ_le hs) hL4 hp4 x4 (λl hl=>zJZ (hc4 l hl) (le_of_succ_le hs)) hg))
  ·apply hI;intro x y i Bs0 L hB _ _ hL2 hp x2 _ hg;cases hB.un;cases hg;exact SnB.aH (Rd.to (v:=.ref pr) () (kk pr las G2 x2 hL2 hp hpl h0))
end
section
variable {X:Cx}{n:Nat}{G:Gh}{sc:Scope}{os:List (Option Val)}{m:M}
abbrev NewL (vs:List Val)(G:Gh)(Q:QE):Prop:=∀c G',G c=none->Ext G G'->G' c=some (.list vs)->Q (.ref c) G'
theorem NewL.nl (h:NewL vs G Q):newList vs G Q:=λc hc=>h c _ hc (.new hc) (Gh.aA ..)
theorem Sn.aJ (h:Rds X n sc es m G vs)(q:NewL vs G Q)(hl:Nat.ble vs.length 1000=true:=by rfl):Sn X n sc (.List es pos) m G Q:=Sn.aj h q.nl hl
theorem Sn.listE (h:SnEs X n sc es m G λvs G'=>Nat.ble vs.length 1000=true/\NewL vs G' Q):Sn X n sc (.List es pos) m G Q:=Sn.list ⟨λhy=>h.use hy λys s₁ vs G1 hv hy1 f₁ h1=>.mk vs G1 hv hy1.hr f₁ ⟨zEn h1.1,h1.2.nl⟩⟩
theorem Sn.bV {i:Int}{k:Nat}(hi:0<=i/\i<32)(h:∀a G',G a=none->Ext G G'->Ze G' a (setb 0 i)->Q (.ref a) G'):Sn X n sc (.Set [.Constant (.int i) k p] 0 pos) m G Q:=
 Sn.cV hi λa ha=>h a _ ha (.new ha) ⟨false,by
  rw[Gh.aA]
  have:=yF (m:=0) hi.1;rw[<-uF] at this;simp only [Bool.false_or] at this;rw[this]⟩
theorem Meth.cJ (e:G a=some (.list xs))(hc:xs.length<=2000)(q:∀G',Ext1 a G G'->G' a=some (.list (xs++[v]))->Q .none G'):Blt X n (.builtin "list.append") [.ref a,v] G Q:=
 Meth.append e (by unfold cap;omega) (q _ .upd (Gh.aA ..))
theorem SnB.bF (h:Rd X n sc o m G (.ref a))(ea:G a=some (.list xs))(hv:Rd X n sc e m G v)(hl:xs.length<=2000)(k:∀G',Ext1 a G G'->G' a=some (.list (xs++[v]))->SnB X n sc sts m G' Q)
  (hn:Zj [e]:=by exact λ_ _=>rfl) (hs:∀env whole,attributeBase o "append" env whole=whole:=by intro _ _;rfl) (hp:∀env,starEach [e] env=(false,eval e env)::starEach [] env:=by intro _;rfl) (hq:(p1.endLine == p2.line)=true:=by rfl):SnB X n sc (.Expr (.Call (.Attribute o "append" p1) [e] [] p2) p3::sts) m G Q:=
 .expr (Sn.aV .append hn (h.to ⟨.list ea,Rds.to (.cons hv .nil hp) (Meth.cJ ea hl k)⟩) hs hq)
theorem Meth.dH (e:G a=some (.list (xs++[v])))(hc:xs.length<=2000)(q:∀G',Ext1 a G G'->G' a=some (.list xs)->Q v G'):Blt X n (.builtin "list.pop") [.ref a] G Q:=
 Meth.pop e (by unfold cap;lia) (q _ .upd (Gh.aA ..))
theorem Meth.bO {k:Nat}{j:Int}(e:Ze G a k)(hj:0<=j/\j<32)(q:∀G',Ext1 a G G'->Ze G' a (setb k j)->Q .none G'):Blt X n (.builtin "set.add") [.ref a,.int j] G Q:=by obtain⟨f,e⟩:=e;exact Meth.add e hj (q _ .upd ⟨false,by rw[Gh.aA];rw[yF hj.1]⟩)
theorem Ze.has {k:Nat}(h:Ze G a k):HasT G (.ref a) "set":=by obtain⟨f,e⟩:=h;exact .set e
theorem Ze.ext {k:Nat}(h:Ze G a k)(x:Ext G G'):Ze G' a k:=by obtain⟨f,e⟩:=h;exact⟨f,x _ _ e⟩
theorem Ze.off {k:Nat}(h:Ze G a k)(x:Ext1 z G G')(ne:a≠z):Ze G' a k:=by obtain⟨f,e⟩:=h;exact⟨f,x _ _ ne e⟩
theorem Ze.bW {k:Nat}(h:Ze G a k)(x:Ext1 z G G')(e:G z=some (.list xs)):Ze G' a k:=h.off x λq=>by obtain⟨f,h⟩:=h;rw[q] at h;rw[e] at h;cases h
theorem ne_new (e:G a=some o)(h:G c=none):a≠c:=λq=>by rw[q] at e;rw[h] at e;cases e
theorem Ze.ne_new {k:Nat}(e:Ze G a k)(h:G c=none):a≠c:=by obtain⟨f,e⟩:=e;exact Mine.Internal.ne_new e h
theorem Ze.neL {k:Nat}(e:Ze G a k)(h:G c=some (.list xs)):c≠a:=λq=>by obtain⟨f,e⟩:=e;rw[<-q] at e;rw[h] at e;cases e
theorem Ext.fresh (x:Ext G0 G)(h:G0 z=Option.none)(y:Ext1 z G G'):Ext G0 G':=λw o e=>y w o (λq=>by rw[q] at e;rw[h] at e;cases e) (x w o e)
theorem Op2.bZ {k:Nat}{j:Int}(e:Ze G a k):O2 X n (compareOp .NotIn) (.int j) (.ref a) G (.bool (!zD k j)):=by obtain⟨f,e⟩:=e;exact .bY e qA
theorem SnB.cI {k j d:Int}(h1:Rd X n sc o m G (.ref a))(h2:Rd X n sc i m G (.int k))(e1:G a=some (.list xs))(hk:0<=k/\k<2000)(hj:xs[k.toNat]?=some (.int j))(h3:Rd X n sc e m G (.int d))
  (q:∀G',Ext1 a G G'->G' a=some (.list (xs.set k.toNat (.int (j+d))))->SnB X n sc sts m G' Q) (ha:∀ov iv new,augStore i ov iv new=(do holding [new,ov,iv] (setItem ov iv new);release [new,ov,iv] [];pure .next):=by intro _ _ _;rfl):SnB X n sc (.AugAssign (.Subscript o i p) .Add e pos::sts) m G Q:=
 .cons (.cy (h1.to (h2.to ⟨a,xs,k,j,rfl,rfl,e1,⟨hk.1,by have:=hk.2;unfold cap;omega⟩,hj,h3.to ⟨d,rfl,e1,.next (q _ .upd (Gh.aA ..))⟩⟩)) ha)
structure Fr where
 num:Int
 fols:List Int
 idx:Nat
theorem zB {α:Type}{P:α->Prop}{a:α}{l:List α}(h:P a)(k:∀z∈l,P z):∀z∈a::l,P z:=λz q=>by
 rcases List.mem_cons.mp q with q | q
 ·exact q▸h
 ·exact k z q
theorem zH {α:Type}{P:α->Prop}:∀z∈([]:List α),P z:=λz q=>nomatch q
theorem zL {α:Type}{P:α->Prop}{a:α}{l:List α}(h:∀z∈a::l,P z):∀z∈l,P z:=λz q=>h z (.tail _ q)
theorem ze {α:Type}{x a:α}{l:List α}(h:x≠a)(k:x∉l):x∉a::l:=λq=>(List.mem_cons.mp q).elim h k
theorem zEg {α:Type}{x a:α}{l:List α}(h:x∉a::l):x≠a:=λq=>h (q▸.head _)
theorem vE {α:Type}{x a:α}{l:List α}(h:x∉a::l):x∉l:=λq=>h (.tail _ q)
theorem jL {α:Type}{x:α}:x∉([]:List α):=λq=>nomatch q
theorem yh {α:Type}{a:α}{l:List α}(h:a∉l)(k:l.Nodup):(a::l).Nodup:=List.nodup_cons.mpr ⟨h,k⟩
inductive Zs (G:Gh):List (Addr×Addr)->List Fr->Prop where
 | nil:Zs G [] []
 | cons {a l:Addr} {r:Fr} {as:List (Addr×Addr)} {rs:List Fr}:G a=some (.list [.int r.num,.ref l,.int r.idx])->G l=some (.list (r.fols.map .int))->Zs G as rs->Zs G ((a,l)::as) (r::rs)
noncomputable def vo (l:List (Addr×Addr)):List Addr:=l.flatMap λx=>[x.1,x.2]
theorem zDj (x:Addr×Addr)(l:List (Addr×Addr)):vo (x::l)=x.1::x.2::vo l:=rfl
theorem Zs.keep {G':Gh}{as:List (Addr×Addr)}{rs:List Fr}(h:Zs G as rs):(∀a∈vo as,∀xs,G a=some (.list xs)->G' a=some (.list xs))->Zs G' as rs:=by
 induction h with
 | nil=>exact λ_=>.nil
 | cons a b _ ih=>exact λk=>.cons (k _ (.head _) _ a) (k _ (.tail _ (.head _)) _ b) (ih λa h=>k a (.tail _ (.tail _ h)))
theorem Zs.ext (h:Zs G as rs)(x:Ext G G'):Zs G' as rs:=h.keep λ_ _ _ e=>x _ _ e
theorem Zs.off (h:Zs G as rs)(x:Ext1 z G G')(hz:z∉vo as):Zs G' as rs:=h.keep λa ha _ e=>x _ _ (λq=>hz (q▸ha)) e
theorem Zs.mem (h:Zs G as rs):∀a∈vo as,∃xs,G a=some (.list xs):=by
 induction h with
 | nil=>intro a h;cases h
 | cons a b _ ih=>
  intro z h;rcases List.mem_cons.mp h with q | h
  ·subst q;exact⟨_,a⟩
  ·rcases List.mem_cons.mp h with q | h
   ·subst q;exact⟨_,b⟩
   ·exact ih z h
noncomputable def folN (Bs:List PB)(j:Int):List Int:=match Bs[j.toNat]? with | some B=>B.ways | none=>[]
noncomputable def uz (Bs:List PB)(k:Nat):List Int->Nat->List Fr->Option (List Int):=
 Nat.rec (motive:=λ_=>List Int->Nat->List Fr->Option (List Int)) (λ_ _ _=>none) (λ_ go found seen stk=>match stk with
  | []=>some found
  | r::rest=>match r.fols[r.idx]? with
   | none=>go (found++[r.num]) seen rest
   | some j=>if zD seen j then go found seen (⟨r.num,r.fols,r.idx+1⟩::rest) else go found (setb seen j) (⟨j,folN Bs j,0⟩::⟨r.num,r.fols,r.idx+1⟩::rest)) k
noncomputable def zD6 (Bs:List PB):Option (List Int):=uz Bs 100 [] 1 [⟨0,folN Bs 0,0⟩]
theorem zJ7 {l:List Addr}(h:(a::b::l).Nodup):a≠b/\a∉l/\b∉l/\l.Nodup:=by obtain⟨h1,h2⟩:=List.nodup_cons.mp h;obtain⟨h3,h4⟩:=List.nodup_cons.mp h2;exact⟨λq=>h1 (q▸.head _),λq=>h1 (.tail _ q),h3,h4⟩
theorem zD1 {α:Type}{xs:List α}{x:α}:zy (xs++[x]) (-1)=some x:=by
 unfold zy;rw[if_neg ()];rw[length_append];have e:(-1:Int)+((xs.length+[x].length:Nat):Int)=xs.length:=by rw[length_singleton];lia
 rw[e];rw[if_pos (natCast_nonneg _)];rw[toNat_natCast];rw[List.getElem?_append_right (le_refl _)];rw[Nat.sub_self];rfl
theorem SnB.bQ (I:Nat->M->Gh->Prop)(k:Nat)(h0:I k m G)
  (h:∀k m G,I k m G->SnT X n sc t m G λr G'=>Two (SnB X n sc body m G' (Turn (λm G=>∃j,j<k/\I j m G) (Then X n sc sts Q))) (SnB X n sc sts m G' Q) r):SnB X n sc (.While t body [] pos::sts) m G Q:=
 .cons (.d7 I k h0 λk m G i=>(h k m G i).mono λr G' q=>⟨q.1,λe=>.next (q.2 e)⟩)
theorem zA6 {α:Type}{f:α->Val}{l:List α}{i:Int}{a:α}(i0:0<=i)(h:l[i.toNat]?=some a):zy (l.map f) i=some (f a):=by have:=zY (f:=f) h;rw[toNat_of_nonneg i0] at this;exact this
abbrev poL (f fo se st:Addr)(x y:Option Val):M:=L uW [some (.ref f),some (.ref fo),some (.ref se),some (.ref st),x,y,none,none]
structure PoS (G0:Gh)(f fo se st:Addr)(Bs:List PB)(r:List Int)(k:Nat)(G:Gh)(found:List Int)(seen:Nat)(as:List (Addr×Addr))(stk:List Fr):Prop where
 ho:G fo=some (.list (found.map .int))
 hs:Ze G se seen
 ht:G st=some (.list ((as.reverse.map (·.1)).map .ref))
 hk:Zs G as stk
 n1:fo≠st
 n2:fo∉vo as
 n3:st∉vo as
 nd:(vo as).Nodup
 q1:G0 fo=none
 q2:G0 se=none
 q3:G0 st=none
 q4:∀a∈vo as,G0 a=none
 x:Ext G0 G
 js:∀r∈stk,(∀j∈r.fols,0<=j/\j.toNat<Bs.length)/\r.fols.length<=4/\r.idx<=r.fols.length
 l1:found.length+k<=1000
 l2:as.length+k<=1000
 go:uz Bs k found seen stk=some r
def PoI (G0:Gh)(f fo se st:Addr)(Bs:List PB)(r:List Int)(k:Nat)(m:M)(G:Gh):Prop:=
 ∀C:M->Prop,(∀(x y:Option Val) (found:List Int) (seen:Nat) (as:List (Addr×Addr)) (stk:List Fr),PoS G0 f fo se st Bs r k G found seen as stk->C (poL f fo se st x y))->C m
theorem PoI.mk {G0:Gh}{f fo se st:Addr}{Bs:List PB}{r:List Int}{k:Nat}{x y:Option Val}{found:List Int}{seen:Nat}{as:List (Addr×Addr)}{stk:List Fr}(h:PoS G0 f fo se st Bs r k G found seen as stk):PoI G0 f fo se st Bs r k (poL f fo se st x y) G:=λ_ q=>q x y found seen as stk h
theorem Zs.uc {C:List (Addr×Addr)->List Fr->Prop}(h:Zs G as stk)(h0:C [] [])(h1:∀a l r as rs,G a=some (.list [.int r.num,.ref l,.int r.idx])->G l=some (.list (r.fols.map .int))->Zs G as rs->C ((a,l)::as) (r::rs)):C as stk:=by
 cases h with
 | nil=>exact h0
 | cons a b c=>exact h1 _ _ _ _ _ a b c
theorem zCM {Bs:List PB}{k seen:Nat}{found:List Int}{r0:Fr}{rs:List Fr}(hi:r0.fols[r0.idx]?=none):uz Bs (k+1) found seen (r0::rs)=uz Bs k (found++[r0.num]) seen rs:=by show (match r0.fols[r0.idx]? with | none=>_ | some j=>_)=_;rw[hi];rfl
theorem zCL {Bs:List PB}{k seen:Nat}{found:List Int}{r0:Fr}{rs:List Fr}{j:Int}(q:r0.fols[r0.idx]?=some j):uz Bs (k+1) found seen (r0::rs)=if zD seen j then uz Bs k found seen (⟨r0.num,r0.fols,r0.idx+1⟩::rs) else uz Bs k found (setb seen j) (⟨j,folN Bs j,0⟩::⟨r0.num,r0.fols,r0.idx+1⟩::rs):=by show (match r0.fols[r0.idx]? with | none=>_ | some j=>_)=_;rw[q];rfl
theorem SnB.cT (I:Nat->M->Gh->Prop)(k:Nat)(h0:I k m G)
  (h:∀k m G (QT:QS),I k m G->(∀{j m G},j<k->I j m G->QT .next m G/\QT .cont m G)->SnT X n sc t m G λr G'=>Two (SnB X n sc body m G' QT) (SnB X n sc sts m G' Q) r):SnB X n sc (.While t body [] pos::sts) m G Q:=
 .bQ I k h0 λk m G i=>h k m G _ i λl h=>⟨.next ⟨_,l,h⟩,.cont ⟨_,l,h⟩⟩
theorem zBI {pr:List Int}{sl:Za}{bls:List Addr}{Bs:List PB}{r:List Int}(T:Tops X)(hf:Zh G f pr sl bls)(hB:Zd G 0 bls Bs)(ok:FnOK Bs)(hp:zD6 Bs=some r)
  (kk:∀c G',G' c=some (.list (r.map .int))->Ext G G'->G c=none->Q (.ref c) G'):Cal X (n+2) jQ [.ref f] G Q:=by
 refine Cal.start (T.d 8 rfl) rfl rfl ?_;refine SnB.aB (Sn.aJ .nil λfo G1 hfo x1 o1=>⟨_,(),?_⟩);refine SnB.aB (Sn.bV ⟨(),()⟩ λse G2 hse x2 s2=>⟨_,(),?_⟩);have o2:=x2 _ _ o1;have x02:=x1.trans x2;obtain⟨B,hB0⟩:∃B,Bs[0]?=some B:=⟨_,getElem?_eq_getElem ok.one⟩
 obtain⟨b,hb0,⟨sts,eo,hb1,hb2,hb3,hb4⟩⟩:=hB.get hB0;obtain⟨ff,fp,fl,fb,f1,⟨g1,g2,g3⟩,f2,f3,f4⟩:=hf.ext x02;have hBm:=ok.blks B (mem_of_getElem? hB0);have eF:folN Bs 0=B.ways:=by unfold folN;rw[show (0:Int).toNat=0 from rfl];rw[hB0]
 refine SnB.aB (Sn.listE (SnEs.cons (Sn.listE (SnEs.cons (Rd.int.to (SnEs.cons (Sn.ref (T.f 0 rfl) () (λ_ _=>rfl) (vs:=[.ref b]) (.cons (.aF () f4 .int () (zY hb0)) .nil) (wv T (hb1.ext x02) (hb3.ext x02) (hb4.ext x02) λd G3 hd x3 d3=>SnEs.cons (Rd.int.to (SnEs.nil ⟨rfl,λa G4 ha x4 a4=>SnEs.nil ⟨rfl,λst G5 hst x5 t5=>⟨_,(),?_⟩⟩⟩))))))))));have x25:=(x3.trans x4).trans x5;have fst:=ne_new ((x3.trans x4) _ _ o2) hst;have dst:=ne_new (x4 _ _ d3) hst;have ast:=ne_new a4 hst;have da:=ne_new d3 ha;have fa:=ne_new (x3 _ _ o2) ha;have fd:=ne_new o2 hd;refine SnB.cT (PoI G f fo se st Bs r) 100 (.mk (found:=[]) (seen:=1) (as:=[(a,d)]) (stk:=[⟨0,folN Bs 0,0⟩]) ⟨x25 _ _ o2,s2.ext x25,t5,.cons (x5 _ _ a4) ((x4.trans x5) _ _ (by rw[eF];exact d3)) .nil,fst,ze fa (ze fd jL),ze (Ne.symm ast) (ze (Ne.symm dst) jL),yh (ze (Ne.symm da) jL) (yh jL .nil),hfo,x1.none hse,x02.none ((x3.trans x4).none hst),zB (x02.none (x3.none ha)) (zB (x02.none hd) zH),x02.trans x25,zB ⟨by rw[eF];exact hBm.goals,by rw[eF];exact hBm.ways,zero_le _⟩ zH,(),by show 1+100<=1000;decide,hp⟩) λk m G5' QT hI hN=>?_;clear hB0 hb0 hb1 hb2 hb3 hb4 hBm eF fst dst ast da fa fd f1 f2 f3 f4 g1 g2 g3 d3 a4 t5 x3 x4 x5 x25 o2 o1 s2 hfo hse hd ha hst x1 x2 x02;apply hI;intro x y found seen as stk h;refine SnT.mono (RdT.val (v:=.ref st) () (.list h.ht)) λt G6 ee=>?_;obtain⟨e,e'⟩:=ee;subst e;subst e';cases k with
 | zero=>exact nomatch h.go
 | succ k=>
 have hk:=h.hk;revert h;apply hk.uc
 ·intro h;have go:found=r:=Option.some.inj h.go;exact⟨λe=>Bool.noConfusion e,λ_=>SnB.aH (Rd.to (v:=.ref fo) () (kk fo _ (go▸h.ho) h.x h.q1))⟩
 intro a l r0 as rs ha hl hk h;obtain⟨ho,hs,ht,_,n1,n2,n3,nd,q1,q2,q3,q4,xx,js,l1,l2,go⟩:=h;have et:(((a,l)::as).reverse.map (·.1)).map Val.ref=(as.reverse.map (·.1)).map Val.ref++[.ref a]:=by rw[List.reverse_cons];rw[List.map_append];rw[List.map_append];rfl
 rw[et] at ht ⊢;refine⟨λ_=>?_,λe=>by cases h:(as.reverse.map (·.1)).map Val.ref<;>rw[h] at e<;>cases e⟩;have l2':as.length+1+(k+1)<=1000:=l2;have n5:=nd;rw[zDj] at n2 n3 n5 q4;refine vr (zJ7 n5) λn6 n7 n8 n9=>?_;refine w3 (js r0 (.head _)) λsh1 sh2 sh3=>?_;have js:=zL js;have hl2:=length_map (f:=Val.int) (as:=r0.fols);have lA:as.length+1<=1000:=le_trans (le_add_right _ _) l2';have lS:((as.reverse.map (·.1)).map Val.ref).length=as.length:=by rw[length_map];rw[length_map];rw[length_reverse]
 refine SnB.assign (v:=.ref a) (.aF () ht (.neg .int) () zD1) () ?_;refine SnB.ifs (r:=(r0.idx:Int) == (r0.fols.length:Int)) (.cmp (.aF () ha .int () rfl) (.fn (id:="len") T.blt () () () (λ_ _=>rfl) (.cons (.aF () ha .int () rfl) .nil) (Blt.aw hl (by rw[hl2];exact lt_of_le_of_lt sh2 ()) qA)) (.cv ⟨by rw[hl2],rfl⟩)) (λe=>?_) λe=>.aK ?_
 ·rw[zCM (getElem?_eq_none (le_of_eq (Int.ofNat.inj (eq_of_beq e)).symm))] at go;refine SnB.expr (Sn.aV .append (λ_ _=>rfl) (Rd.to (v:=.ref fo) () ⟨.list ho,Rds.to (vs:=[.int r0.num]) (.cons (.aF () ha .int () rfl) .nil) (Meth.cJ ho (by rw[length_map];exact zAJ l1 ()) λG7 x1 ho'=>?_)⟩));have ht7:=x1 _ _ (Ne.symm n1) ht;refine SnB.expr (Sn.aV .pop (λ_ _=>rfl) (Rd.to (v:=.ref st) () ⟨.list ht7,Rds.nil.to (Meth.dH ht7 (by rw[lS];exact le_trans (le_of_succ_le lA) ()) λG8 x2 ht8=>SnB.cont (.cont (hN (lt_succ_self k) (.mk ⟨(x2 _ _ n1 ho').trans (by rw[List.map_append];rfl),(hs.bW x1 ho).bW x2 ht7,ht8,(hk.off x1 (vE (vE n2))).off x2 (vE (vE n3)),n1,vE (vE n2),vE (vE n3),n9,q1,q2,q3,zL (zL q4),(xx.fresh q1 x1).fresh q3 x2,js,by rw[length_append];rw[length_singleton];rw[add_assoc];rw[Nat.add_comm 1];exact l1,le_trans (add_le_add (le_add_right _ 1) (le_add_right _ 1)) l2',go⟩)).2))⟩))
 ·have hi:r0.idx<r0.fols.length:=Nat.lt_of_le_of_ne sh3 λq=>beq_eq_false_iff_ne.mp e (congrArg Int.ofNat q);obtain⟨j,q⟩:∃j,r0.fols[r0.idx]?=some j:=⟨_,getElem?_eq_getElem hi⟩
  obtain⟨j0,j1⟩:=sh1 j (mem_of_getElem? q);rw[zCL q] at go;refine SnB.assign (v:=.int j) (.aF (.aF () ha .int () rfl) hl (.aF () ha .int () rfl) (lt_of_lt_of_le hi (le_trans sh2 ())) (zY q)) () ?_;refine SnB.cI () .int ha () rfl .int λG7 x1 a1=>?_;have l1':=x1 _ _ (Ne.symm n6) hl;have o1:=x1 _ _ (zEg n2) ho;have t1:=x1 _ _ (zEg n3) ht;have s1:=hs.bW x1 ha;have xa:=xx.fresh (q4 a (.head _)) x1;have k1:Zs G7 ((a,l)::as) (⟨r0.num,r0.fols,r0.idx+1⟩::rs):=.cons a1 l1' (hk.off x1 n7);have js':∀r∈(⟨r0.num,r0.fols,r0.idx+1⟩::rs:List Fr),(∀j∈r.fols,0<=j/\j.toNat<Bs.length)/\r.fols.length<=4/\r.idx<=r.fols.length:=zB ⟨sh1,sh2,hi⟩ js;clear hs ht ho hk js sh1 sh2 sh3 ha hl a1 l1' x1 xx n5 n6 n7 n8 n9 q hi hl2;refine SnB.ifs (r:=!zD seen j) (.cmp () () (.bZ s1)) (λe=>?_) λe=>.nil (.next (.nil (hN (lt_succ_self k) (.mk ⟨o1,s1,t1.trans (by rw[<-et]),k1,n1,n2,n3,nd,q1,q2,q3,q4,xa,js',le_of_succ_le l1,le_of_succ_le l2',(if_pos (by rw[Bool.not_eq_false'] at e;exact e)).symm.trans go⟩)).1));rw[if_neg (by rw[not_eq_true'] at e;rw[e];decide)] at go;refine SnB.expr (Sn.aV .add (λ_ _=>rfl) (Rd.to (v:=.ref se) () ⟨s1.has,Rds.to (vs:=[.int j]) () (Meth.bO s1 ⟨j0,Int.lt_of_lt_of_le ((toNat_lt j0).mp (lt_of_lt_of_le j1 ok.few)) ()⟩ λG8 x2 s2=>?_)⟩));have k2:=k1.off x2 λz=>by obtain⟨xs,h⟩:=k1.mem _ z;exact s1.neL h rfl
  have o2:=x2 _ _ (s1.neL o1) o1;have t2:=x2 _ _ (s1.neL t1) t1;have xb:=xa.fresh q2 x2;obtain⟨B,hBj⟩:∃B,Bs[j.toNat]?=some B:=⟨_,getElem?_eq_getElem j1⟩
  obtain⟨b,hb0,⟨sts,eo,hb1,hb2,hb3,hb4⟩⟩:=hB.get hBj;have eF:folN Bs j=B.ways:=by unfold folN;rw[hBj]
  have hBm:=ok.blks B (mem_of_getElem? hBj);obtain⟨ff,fp,fl,fb,f1,⟨g1,g2,g3⟩,f2,f3,f4⟩:=hf.ext xb;refine SnB.expr (Sn.aV .append (λ_ _=>rfl) (Rd.to (v:=.ref st) () ⟨.list t2,SnEs.cons (Sn.listE (SnEs.cons (Rd.to (v:=.int j) () (SnEs.cons (Sn.ref (T.f 0 rfl) () (λ_ _=>rfl) (vs:=[.ref b]) (.cons (.aF () f4 () (wD j0 (lt_of_lt_of_le j1 (le_trans ok.few ()))) (zA6 j0 hb0)) .nil)
   (wv T (hb1.ext xb) (hb3.ext xb) (hb4.ext xb) λd G9 hd x3 d3=>SnEs.cons (Rd.int.to (SnEs.nil ⟨rfl,λc G10 hc x4 c4=>SnEs.nil (Meth.cJ ((x3.trans x4) _ _ t2) (by rw[length_append];rw[lS];exact le_trans lA ()) λG11 x5 t5=>?_)⟩))))))))⟩))
  have x34:=x3.trans x4;have k4:=k2.ext x34;have cd:=ne_new d3 hc;have mc:∀z∈vo ((a,l)::as),z≠c/\z≠d:=λz hz=>by obtain⟨xs,h⟩:=k2.mem z hz;exact⟨ne_new (x3 _ _ h) hc,ne_new h hd⟩
  exact .nil (.next (.nil (hN (lt_succ_self k) (.mk (as:=(c,d)::(a,l)::as) ⟨x5 _ _ n1 (x34 _ _ o2),(s2.ext x34).bW x5 (x34 _ _ t2),by rw[t5];rw[<-et];rw[List.reverse_cons (a:=(c,d))];rw[List.map_append];rw[List.map_append];rfl,Zs.off (.cons c4 (by rw[eF];exact x4 _ _ d3) k4) x5 (ze (ne_new (x3 _ _ t2) hc) (ze (ne_new t2 hd) n3)),n1,ze (ne_new (x3 _ _ o2) hc) (ze (ne_new o2 hd) n2),ze (ne_new (x3 _ _ t2) hc) (ze (ne_new t2 hd) n3),yh (ze (Ne.symm cd) λz=>(mc _ z).1 rfl) (yh (λz=>(mc _ z).2 rfl) nd),q1,q2,q3,zB ((xb.trans x3).none hc) (zB (xb.none hd) q4),(xb.trans x34).fresh q3 x5,zB ⟨by rw[eF];exact hBm.goals,by rw[eF];exact hBm.ways,zero_le _⟩ js',le_of_succ_le l1,by show as.length+1+1+k<=1000;rw[add_assoc];rw[Nat.add_comm 1 k];exact l2',go⟩)).1))
end
section
variable {X:Cx}{n:Nat}{G:Gh}{sc:Scope}{os:List (Option Val)}{m:M}
section
variable {β γ:Type}
noncomputable def st (l:List (Int×β))(k:Int)(v:β):List (Int×β):=if l.any (λe=>decide (e.1=k)) then l.map (λe=>if e.1=k then(e.1,v) else e) else l++[(k,v)]
noncomputable def lk (l:List (Int×β))(k:Int):Option β:=(l.find? λe=>decide (e.1=k)).map (·.2)
theorem zBE (f:β->γ)(l:List (Int×β))(k:Int)(v:β):(st l k v).map (λe=>(e.1,f e.2))=st (l.map λe=>(e.1,f e.2)) k (f v):=by
 unfold st;rw[any_map];show _=if l.any (λe=>decide (e.1=k))=true then _ else _
 split
 ·rw[map_map];rw[map_map];refine List.map_congr_left λe _=>?_;show (λe:Int×β=>(e.1,f e.2)) (if e.1=k then(e.1,v) else e)=if e.1=k then(e.1,f v) else(e.1,f e.2)
  split<;>rfl
 ·rw[List.map_append];rfl
theorem zEp (f:β->γ)(l:List (Int×β))(k:Int):lk (l.map λe=>(e.1,f e.2)) k=(lk l k).map f:=by unfold lk;rw[List.find?_map];rw[Option.map_map];rw[Option.map_map];rfl
theorem zEk (h:e∈st l k v):e∈l\/e.2=v:=by
 unfold st at h;split at h
 ·refine zC (List.mem_map.mp h) λx hx q=>?_;split at q
  ·exact .inr (by rw[<-q])
  ·exact .inl (q▸hx)
 ·rcases List.mem_append.mp h with q | q
  ·exact .inl q
  ·exact .inr (by rw[List.mem_singleton.mp q])
theorem ul (l:List (Int×β))(k:Int)(v:β):(st l k v).length<=l.length+1:=by
 unfold st;split
 ·rw[length_map];exact le_succ _
 ·rw[length_append];exact le_refl _
theorem zCa (l:List (Int×β))(k:Int):l.any (λe=>decide (e.1=k))=true↔k∈l.map (·.1):=by rw[List.any_eq_true];rw[mem_map];exact⟨λ⟨e,h,q⟩=>⟨e,h,of_decide_eq_true q⟩,λ⟨e,h,q⟩=>⟨e,h,decide_eq_true q⟩⟩
theorem wO (l:List (Int×β))(k:Int):(lk l k).isSome=true↔k∈l.map (·.1):=by rw[<-zCa];unfold lk;rw[isSome_map];rw[List.find?_isSome];rw[List.any_eq_true]
theorem ju {k:Int}{v:β}(j:Int):j∈(st l k v).map (·.1)↔j∈l.map (·.1)\/j=k:=by
 unfold st;by_cases h:l.any (λe=>decide (e.1=k))=true
 ·rw[if_pos h];rw[map_map];have e:((λe:Int×β=>e.1) ∘ λe=>if e.1=k then(e.1,v) else e)=(·.1):=by funext e;show (if e.1=k then(e.1,v) else e).1=e.1;split<;>rfl
  rw[e];exact⟨.inl,λq=>q.elim id λq=>q▸(zCa l k).mp h⟩
 ·rw[if_neg h];rw[List.map_append];rw[List.mem_append];show _\/j∈[k]↔_;rw[mem_singleton]
theorem u8 {k:Int}{v:β}(h:k∈l.map (·.1)):(st l k v).length=l.length/\∀j,j∈(st l k v).map (·.1)↔j∈l.map (·.1):=
 ⟨by unfold st;rw[if_pos ((zCa l k).mpr h)];rw[length_map],λj=>(ju j).trans ⟨λq=>q.elim id λq=>q▸h,.inl⟩⟩
end
theorem zAl (es:List (Int×Val))(k:Int):zm es k=lk es k:=rfl
theorem zEN (es:List (Int×Val))(k:Int)(v:Val):uT es k v=st es k v:=rfl
noncomputable def GObj.kind:GObj->Nat | .list ..=>0 | .dict ..=>1 | .set ..=>2 | .inst ..=>3
theorem vF (ey:G y=some o')(e:G z=some o)(h:Nat.beq o.kind o'.kind=false:=by rfl):z≠y:=λq=>by rw[q] at e;rw[ey] at e;cases e;rw[Nat.beq_refl] at h;cases h
theorem Ext1.kind (x:Ext1 y G G')(ey:G y=some o')(e:G z=some o)(h:Nat.beq o.kind o'.kind=false:=by rfl):G' z=some o:=x _ _ (vF ey e h) e
theorem Ze.cD (h:Ze G a k)(x:Ext1 z G G')(e:G z=some (.dict xs)):Ze G' a k:=h.off x λq=>by obtain⟨f,h⟩:=h;rw[q] at h;rw[e] at h;cases h
theorem Ze.kind (h:Ze G a k)(x:Ext1 a G G')(e:G z=some o)(hk:Nat.beq o.kind 2=false:=by rfl):G' z=some o:=by obtain⟨f,h⟩:=h;exact x.kind h e hk
inductive SIP (X:Cx)(n:Nat)(sc:Scope)(o i:Expr)(sts:List Stmt)(m:M)(Q:QS)(v:Val)(G₁:Gh):Prop where
 | mk (a:Addr) (es:List (Int×Val)) (k:Int) (h1:Rd X n sc o m G₁ (.ref a)) (h2:Rd X n sc i m G₁ (.int k)) (h3:G₁ a=some (.dict es)) (h4:es.length<=2000) (q:∀G',Ext1 a G₁ G'->G' a=some (.dict (st es k v))->SnB X n sc sts m G' Q)
theorem SnB.aN (h:Sn X n sc e m G (SIP X n sc o i sts m Q))
  (hsw:∀env,swapsWith e (some (.Subscript o i p)) pos.line env=pure false:=by intro _;rfl):SnB X n sc (.Assign [.Subscript o i p] e pos::sts) m G Q:=
 .cons (.bU (h.mono λv G1 q=>by obtain⟨a,es,k,h1,h2,h3,h4,q⟩:=q;exact h1.to (h2.to ⟨a,es,k,rfl,rfl,h3,lt_of_le_of_lt h4 (),.next (q _ .upd (Gh.aA ..))⟩)) hsw)
theorem Sn.az (h:∀a G',G a=none->Ext G G'->G' a=some (.dict [])->Q (.ref a) G'):Sn X n sc (.Dict [] [] pos) m G Q:=Sn.dX λa ha=>h a _ ha (.new ha) (Gh.aA ..)
theorem Blt.cL (h:∀a G',G a=none->Ext G G'->Ze G' a 0->Q (.ref a) G'):Blt X n (.type "set") [] G Q:=Blt.bz λa ha=>h a _ ha (.new ha) .new
theorem SnB.bR (I:Nat->M->Gh->Prop)(k:Nat)(h0:I k m G)
  (h:∀k m G (QT:QS),I k m G->(∀{j m G},j<k->I j m G->QT .next m G)->(∀{v m G},Q (.ret v) m G->QT (.ret v) m G)->SnT X n sc t m G λr G'=>Two (SnB X n sc body m G' QT) (SnB X n sc sts m G' Q) r):SnB X n sc (.While t body [] pos::sts) m G Q:=
 .bQ I k h0 λk m G i=>h k m G _ i (λl h=>.next ⟨_,l,h⟩) λq=>.ret (.ret q)
theorem zEl:(∀k,zD a k=zD b k)↔a=b:=by
 refine⟨λh=>Nat.eq_of_testBit_eq λi=>?_,λh k=>by rw[h]⟩
 have:=h (i:Int);unfold zD at this;rw[decide_eq_true (natCast_nonneg i)] at this;rw[Bool.true_and] at this;rw[Bool.true_and] at this;rw[toNat_natCast] at this;exact this
theorem Op2.eT (e1:Ze G p a)(e2:Ze G q b)(hne:p≠q):O2 X n (compareOp .NotEq) (.ref p) (.ref q) G (.bool (!Nat.beq a b)):=by
 obtain⟨f,e1⟩:=e1;obtain⟨g,e2⟩:=e2;refine .dK e1 e2 hne λr hr=>⟨?_,rfl⟩
 rw[zEl] at hr
 have:r=Nat.beq a b:=by
  cases h:Nat.beq a b with
  | true=>exact hr.mpr (Nat.eq_of_beq_eq_true h)
  | false=>
   cases hr':r with
   | false=>rfl
   | true=>exact absurd (hr.mp hr') (Nat.ne_of_beq_eq_false h)
 rw[this]
noncomputable def iwE (l:List (Int×Bool)):List (Int×Val):=l.map λe=>(e.1,.bool e.2)
theorem zH2 (l:AhL)(k:Int)(a:Addr)(b:Nat):st (ahE l) k (.ref a)=ahE (st l k (a,b)):=(zBE (λv:Addr×Nat=>Val.ref v.1) l k (a,b)).symm
theorem zH1 (l:AhL)(k:Int)(a:Addr)(b:Nat):ahM (st l k (a,b))=st (ahM l) k b:=zBE (λv:Addr×Nat=>v.2) l k (a,b)
theorem zEw (l:List (Int×Bool))(k:Int)(b:Bool):st (iwE l) k (.bool b)=iwE (st l k b):=(zBE Val.bool l k b).symm
theorem zAw (l:AhL):(ahE l).map (·.1)=(ahM l).map (·.1):=by unfold ahE ahM;rw[map_map];rw[map_map];rfl
theorem AhAt.keep {G':Gh}{d:Addr}{l:AhL}(h:AhAt G d l)(hd:G' d=some (.dict (ahE l)))(hs:∀a k,Ze G a k->Ze G' a k):AhAt G' d l:=⟨hd,λe he=>hs _ _ (h.s e he)⟩
theorem AhAt.ext {G':Gh}{d:Addr}{l:AhL}(h:AhAt G d l)(x:Ext G G'):AhAt G' d l:=h.keep (x _ _ h.d) λ_ _ s=>s.ext x
noncomputable def wake (AH:List (Int×Nat))(s:List Int×List (Int×Bool))(o:Int):List Int×List (Int×Bool):=
 if (lk AH o).isSome&&!((lk s.2 o).getD false) then(s.1++[o],st s.2 o true) else s
noncomputable def naGo (sl:Za)(am:Zc)(Bs:List PB)(L:List (List Int))(k:Nat):List Int->Nat->List (Int×Nat)->List (Int×Bool)->Option (List (Int×Nat)):=
 Nat.rec (motive:=λ_=>List Int->Nat->List (Int×Nat)->List (Int×Bool)->Option (List (Int×Nat))) (λ_ _ _ _=>none) (λ_ go W at_ AH IW=>match W[at_]? with
  | none=>some AH
  | some i=>match Bs[i.toNat]? with
   | none=>none
   | some B=>
    let b:=needP sl am B.steps B.fin.args (zJ AH B.ways)
    if Nat.beq b (zV AH i) then go W (at_+1) AH (st IW i false)
    else
     let s:=(L.getD i.toNat []).foldl (wake (st AH i b)) (W,st IW i false)
     go s.1 (at_+1) (st AH i b) s.2) k
noncomputable def AH0 (W:List Int):List (Int×Nat):=W.foldl (λl i=>st l i 0) []
noncomputable def IW0 (W:List Int):List (Int×Bool):=W.foldl (λl i=>st l i true) []
def PoOK (Bs:List PB)(W:List Int):Prop:=W.length<=16/\∀i∈W,0<=i/\∃B,Bs[i.toNat]?=some B/\∀j∈B.ways,j∈W
end
section
variable {X:Cx}{n:Nat}{G:Gh}{sc:Scope}{os:List (Option Val)}{m:M}
abbrev neL (f ad wa bf ah iw:Addr)(x i y z o:Option Val):M:=L jJ [some (.ref f),some (.ref ad),some (.ref wa),some (.ref bf),some (.ref ah),some (.ref iw),x,i,y,z,o,none,none,none,none,none,none]
structure NaS (G0:Gh)(wa bf ah iw:Addr)(las:List Addr)(L:List (List Int))(G:Gh)(W:List Int)(l:AhL)(IW:List (Int×Bool)):Prop where
 hw:G wa=some (.list (W.map .int))
 hL:LsAt G0 G las L
 hb:G bf=some (.list (las.map .ref))
 ha:AhAt G ah l
 hi:G iw=some (.dict (iwE IW))
 x:Ext G0 G
 q1:G0 wa=none
 q2:G0 ah=none
 q3:G0 iw=none
 n1:wa≠bf
 n2:wa∉las
 n3:ah≠iw
section
variable {G0 G':Gh}{wa bf ah iw:Addr}{las:List Addr}{L:List (List Int)}{W:List Int}{l:AhL}{IW:List (Int×Bool)}
theorem LsAt.kind (h:LsAt G0 G las L)(x:Ext1 y G G')(e:G y=some o)(hk:Nat.beq 0 o.kind=false):LsAt G0 G' las L:=by
 induction h with
 | nil=>exact .nil
 | cons a b c _ ih=>exact .cons a b (x.kind e c hk) ih
theorem NaS.cW (h:NaS G0 wa bf ah iw las L G W l IW)(x:Ext1 iw G G')(e:G' iw=some (.dict (iwE IW'))):NaS G0 wa bf ah iw las L G' W l IW':=
 ⟨x.kind h.hi h.hw,h.hL.kind x h.hi rfl,x.kind h.hi h.hb,h.ha.keep (x _ _ h.n3 h.ha.d) λ_ _ s=>s.cD x h.hi,e,h.x.fresh h.q3 x,h.q1,h.q2,h.q3,h.n1,h.n2,h.n3⟩
theorem NaS.dG (h:NaS G0 wa bf ah iw las L G W l IW)(x:Ext1 ah G G')(e:G' ah=some (.dict (ahE l')))(hs:∀e∈l',Ze G e.2.1 e.2.2):NaS G0 wa bf ah iw las L G' W l' IW:=
 ⟨x.kind h.ha.d h.hw,h.hL.kind x h.ha.d rfl,x.kind h.ha.d h.hb,⟨e,λe he=>(hs e he).cD x h.ha.d⟩,x _ _ (Ne.symm h.n3) h.hi,h.x.fresh h.q2 x,h.q1,h.q2,h.q3,h.n1,h.n2,h.n3⟩
theorem NaS.dg (h:NaS G0 wa bf ah iw las L G W l IW)(x:Ext1 wa G G')(e:G' wa=some (.list (W'.map .int))):NaS G0 wa bf ah iw las L G' W' l IW:=
 ⟨e,h.hL.off x h.n2,x _ _ (Ne.symm h.n1) h.hb,h.ha.keep (x.kind h.hw h.ha.d) λ_ _ s=>s.bW x h.hw,x.kind h.hw h.hi,h.x.fresh h.q1 x,h.q1,h.q2,h.q3,h.n1,h.n2,h.n3⟩
theorem NaS.ext (h:NaS G0 wa bf ah iw las L G W l IW)(x:Ext G G'):NaS G0 wa bf ah iw las L G' W l IW:=
 ⟨x _ _ h.hw,h.hL.ext x,x _ _ h.hb,h.ha.ext x,x _ _ h.hi,h.x.trans x,h.q1,h.q2,h.q3,h.n1,h.n2,h.n3⟩
end
theorem zH3 (h:l.length+k<=16):(ahE l).length<=2000:=by unfold ahE;rw[length_map];exact le_trans (le_add_right _ k) (le_trans h ())
theorem zEx (h:l.length+k<=16):(iwE l).length<=2000:=by unfold iwE;rw[length_map];exact le_trans (le_add_right _ k) (le_trans h ())
theorem zIW (h:a+0<=w+16)(q:w+16 * (k+1)<=1900):a+16 * k<=1900:=le_trans (add_le_add_right h _) (by rw[add_assoc];rw[Nat.add_comm 16];exact q)
section
variable {G0 G':Gh}{f ad wa bf ah iw la i a b c:Addr}{las:List Addr}{L:List (List Int)}{W W0:List Int}{l:AhL}{IW:List (Int×Bool)}
def Na1 (G0:Gh)(f ad wa bf ah iw:Addr)(las:List Addr)(L:List (List Int))(W:List Int)(r:List Int)(m:M)(G:Gh):Prop:=
 ∀C:M->Prop,(∀(x:Option Val) (l:AhL) (IW:List (Int×Bool)),NaS G0 wa bf ah iw las L G W l IW->r.foldl (λl i=>st l i 0) (ahM l)=AH0 W->r.foldl (λl i=>st l i true) IW=IW0 W->l.length+r.length<=16->IW.length+r.length<=16->C (neL f ad wa bf ah iw x none none none none))->C m
theorem Na1.mk {r:List Int}{x:Option Val}(s:NaS G0 wa bf ah iw las L G W l IW)(a:r.foldl (λl i=>st l i 0) (ahM l)=AH0 W)(b:r.foldl (λl i=>st l i true) IW=IW0 W)(l1:l.length+r.length<=16)(l2:IW.length+r.length<=16):Na1 G0 f ad wa bf ah iw las L W r (neL f ad wa bf ah iw x none none none none) G:=λ_ k=>k x l IW s a b l1 l2
def Na2 (G0:Gh)(f ad wa bf ah iw:Addr)(las:List Addr)(L:List (List Int))(go:Nat->List Int->Nat->List (Int×Nat)->List (Int×Bool)->Prop)(W0:List Int)(k:Nat)(m:M)(G:Gh):Prop:=
 ∀C:M->Prop,(∀(x y z o:Option Val) (W:List Int) (a:Nat) (l:AhL) (IW:List (Int×Bool)),NaS G0 wa bf ah iw las L G W l IW->go k W a (ahM l) IW->(∀j,j∈(ahM l).map (·.1)↔j∈W0)->(∀j,j∈IW.map (·.1)↔j∈W0)->(∀j∈W,j∈W0)->l.length<=16->IW.length<=16->W.length+16 * k<=1900->C (neL f ad wa bf ah iw x (some (.int a)) y z o))->C m
theorem Na2.mk {go:Nat->List Int->Nat->List (Int×Nat)->List (Int×Bool)->Prop}{k a:Nat}{x y z o:Option Val}(s:NaS G0 wa bf ah iw las L G W l IW)(g:go k W a (ahM l) IW)(ka:∀j,j∈(ahM l).map (·.1)↔j∈W0)(ki:∀j,j∈IW.map (·.1)↔j∈W0)(kw:∀j∈W,j∈W0)(l1:l.length<=16)(l2:IW.length<=16)(l3:W.length+16 * k<=1900):Na2 G0 f ad wa bf ah iw las L go W0 k (neL f ad wa bf ah iw x (some (.int a)) y z o) G:=λ_ k=>k x y z o W a l IW s g ka ki kw l1 l2 l3
def Na3 (F:Option Val->M)(N:List Int->List (Int×Bool)->Gh->Prop)(W0:List Int)(la:Addr)(pl:List Int)(K:Nat)(wk:List Int×List (Int×Bool)->Int->List Int×List (Int×Bool))(goal:List Int×List (Int×Bool))(r:List Int)(m:M)(G:Gh):Prop:=
 ∀C:M->Prop,(∀(o:Option Val) (W:List Int) (IW:List (Int×Bool)),N W IW G->r.foldl wk (W,IW)=goal->(∀j,j∈IW.map (·.1)↔j∈W0)->(∀j∈W,j∈W0)->IW.length<=16->W.length+r.length<=K->G la=some (.list (pl.map .int))->C (F o))->C m
theorem Na3.mk {F:Option Val->M}{N:List Int->List (Int×Bool)->Gh->Prop}{pl r:List Int}{K:Nat}{wk:List Int×List (Int×Bool)->Int->List Int×List (Int×Bool)}{goal:List Int×List (Int×Bool)}{o:Option Val}(s:N W IW G)(g:r.foldl wk (W,IW)=goal)(ki:∀j,j∈IW.map (·.1)↔j∈W0)(kw:∀j∈W,j∈W0)(l2:IW.length<=16)(l3:W.length+r.length<=K)(e:G la=some (.list (pl.map .int))):Na3 F N W0 la pl K wk goal r (F o) G:=λ_ k=>k o W IW s g ki kw l2 l3 e
end
theorem zAN (v:β)(W:List Int):∀(l:List (Int×β)) (j:Int),j∈(W.foldl (λl i=>st l i v) l).map (·.1)↔j∈l.map (·.1)\/j∈W:=by
 induction W with
 | nil=>exact λl j=>(or_iff_left not_mem_nil).symm
 | cons i W ih=>intro l j;rw[foldl_cons];rw[ih];rw[ju];rw[mem_cons];rw[or_assoc]
theorem zBT (i:Int)(L:List (List Int))(j:Int):(zv i L j).length=L.length:=by
 unfold zv;split
 ·rfl
 ·rw[length_set]
theorem zAe (i:Int)(ws:List Int):∀L:List (List Int),(ws.foldl (zv i) L).length=L.length:=by
 induction ws with
 | nil=>exact λ_=>rfl
 | cons w ws ih=>intro L;rw[foldl_cons];rw[ih];rw[zBT]
theorem zAd (Bs:List PB):∀(i:Int) (L:List (List Int)),(yf i Bs L).length=L.length:=by
 induction Bs with
 | nil=>exact λ_ _=>rfl
 | cons B Bs ih=>exact λi L=>(ih _ _).trans (zAe i _ L)
theorem zD5 (Bs:List PB):(zp Bs).length=Bs.length:=by unfold zp;rw[zAd];rw[length_map]
theorem zK3:i∈l.map (·.1)↔i∈(ahE l).map (·.1):=by unfold ahE;rw[map_map];rfl
theorem zG1 {sl:Za}{am:Zc}{Bs:List PB}{L:List (List Int)}{k a:Nat}{W:List Int}{AH:List (Int×Nat)}{IW:List (Int×Bool)}(hn:W[a]?=none):naGo sl am Bs L (k+1) W a AH IW=some AH:=by show (match W[a]? with | none=>_ | some i=>_)=_;rw[hn]
theorem zEi {sl:Za}{am:Zc}{Bs:List PB}{B:PB}{L:List (List Int)}{k a:Nat}{i:Int}{W:List Int}{AH:List (Int×Nat)}{IW:List (Int×Bool)}(hi:W[a]?=some i)(hB:Bs[i.toNat]?=some B)(e:(!Nat.beq (needP sl am B.steps B.fin.args (zJ AH B.ways)) (zV AH i))=false):naGo sl am Bs L (k+1) W a AH IW=naGo sl am Bs L k W (a+1) AH (st IW i false):=by show (match W[a]? with | none=>_ | some i=>_)=_;rw[hi];show (match Bs[i.toNat]? with | none=>_ | some B=>_)=_;rw[hB];rw[Bool.not_eq_false'] at e;exact if_pos e
theorem zG0 {sl:Za}{am:Zc}{Bs:List PB}{B:PB}{L:List (List Int)}{k a:Nat}{i:Int}{W:List Int}{AH:List (Int×Nat)}{IW:List (Int×Bool)}(hi:W[a]?=some i)(hB:Bs[i.toNat]?=some B)(e:(!Nat.beq (needP sl am B.steps B.fin.args (zJ AH B.ways)) (zV AH i))=true):naGo sl am Bs L (k+1) W a AH IW=naGo sl am Bs L k ((L.getD i.toNat []).foldl (wake (st AH i (needP sl am B.steps B.fin.args (zJ AH B.ways)))) (W,st IW i false)).1 (a+1) (st AH i (needP sl am B.steps B.fin.args (zJ AH B.ways))) ((L.getD i.toNat []).foldl (wake (st AH i (needP sl am B.steps B.fin.args (zJ AH B.ways)))) (W,st IW i false)).2:=by show (match W[a]? with | none=>_ | some i=>_)=_;rw[hi];show (match Bs[i.toNat]? with | none=>_ | some B=>_)=_;rw[hB];rw[not_eq_true'] at e;exact if_neg (by rw[e];decide)
theorem zFl (e:((lk AH j).isSome&&!((lk IW j).getD false))=true):wake AH (W,IW) j=(W++[j],st IW j true):=by unfold wake;exact if_pos e
theorem zHa (e:((lk AH j).isSome&&!((lk IW j).getD false))=false):wake AH (W,IW) j=(W,IW):=by unfold wake;exact if_neg (by rw[e];decide)
theorem zI5 {W0:List Int}{j:Int}(h:∀j,j∈IW.map (·.1)↔j∈W0)(q:j∈W0):zm (iwE IW) j=some (.bool ((lk IW j).getD false)):=by obtain⟨bv,hbv⟩:=Option.isSome_iff_exists.mp ((wO IW j).mpr ((h j).mpr q));rw[zAl];unfold iwE;rw[zEp];rw[hbv];rfl
theorem zKE:(zm (ahE l) j).isSome=(lk (ahM l) j).isSome:=by rw[zAl];rw[Bool.eq_iff_iff];rw[wO];rw[wO];rw[zAw]
theorem LsAt.exts {as:List Addr}{L:List (List Int)}(x1:Ext G0 G1)(x:Ext G2 G4)(h:LsAt G1 G2 as L):LsAt G0 G4 as L:=by
 induction h with
 | nil=>exact .nil
 | cons a b c _ ih=>exact .cons a (x1.none b) (x _ _ c) ih
theorem LsAt.dI {as:List Addr}{L:List (List Int)}{o:GObj}(h:LsAt G0 G' as L)(e:G0 z=some o):z∉as:=λq=>by have:=(h.mem q).2;rw[e] at this;cases this
theorem v5 {f ad:Addr}{pr:List Int}{sl:Za}{bls:List Addr}{am:Zc}{Bs:List PB}{W0:List Int}{goal:List (Int×Nat)}{Q:QE}(T:Tops X)(hf:Zh G f pr sl bls)(ha:G ad=some (.dict (adE am)))(hok:AdOK am sl)
  (hB:Zd G 0 bls Bs) (ok:FnOK Bs) (hpo:zD6 Bs=some W0) (hW:PoOK Bs W0) (hL:∀l∈zp Bs,l.length<=16) (hgo:naGo sl am Bs (zp Bs) 100 W0 0 (AH0 W0) (IW0 W0)=some goal)
  (kk:∀d l G',G d=none->Ext G G'->AhAt G' d l->ahM l=goal->(∀j,j∈goal.map (·.1)↔j∈W0)->goal.length<=16->Q (.ref d) G'):Cal X (n+5) yQ [.ref f,.ref ad] G Q:=by
 refine Cal.start (T.d 16 rfl) rfl rfl ?_;refine SnB.aB (Sn.ref (T.f 5 rfl) () (λ_ _=>rfl) (vs:=[.ref f]) () (zBI T hf hB ok hpo λwa G1 w1 x1 q1=>⟨_,(),?_⟩));refine SnB.aB (Sn.ref (T.f 4 rfl) () (λ_ _=>rfl) (vs:=[.ref f]) () (zFw T (hf.ext x1) (hB.ext x1) ok λbf las G2 x2 l2 b2 n2 q2=>⟨_,(),?_⟩));refine SnB.aB (Sn.az λah G3 h3 x3 a3=>⟨_,(),SnB.aB (Sn.az λiw G4 h4 x4 i4=>⟨_,(),?_⟩)⟩);have x02:=x1.trans x2;have x34:=x3.trans x4;have w4:=x34 _ _ (x2 _ _ w1);have s0:NaS G wa bf ah iw las (zp Bs) G4 W0 [] []:=⟨w4,l2.exts x1 x34,x34 _ _ b2,⟨x4 _ _ a3,λ_ h=>nomatch h⟩,i4,x02.trans x34,q1,x02.none h3,x02.none (x3.none h4),ne_new w1 q2,l2.dI w1,ne_new a3 h4⟩
 clear x02 x34 h3 x3 a3 h4 x4 i4 x2 l2 b2 n2 q2 w1 x1 q1;refine SnB.forM .int () w4 (Na1 G f ad wa bf ah iw las (zp Bs) W0) (.mk s0 rfl rfl (le_trans (le_of_eq (zero_add _)) hW.1) (le_trans (le_of_eq (zero_add _)) hW.1)) (λr m G' hI=>hI (λ_=>_) λx l IW s _ _ _ _=>s.hw) (λi r m G5 QT hI hN hR=>?_) λm G5 hI=>?_
 ·apply hI;intro x l IW s ea eb l1 l2;refine⟨_,.name (Upd.put ()),?_⟩;refine SnB.aN (Sn.ty (id:="set") T.blt () () () (λ_ _=>rfl) (Rds.nil.to (Blt.cL λc G6 hc x6 s6=>⟨ah,_,i,(),(),x6 _ _ s.ha.d,zH3 l1,λG7 x7 a7=>?_⟩)));rw[zH2 l i c 0] at a7;have s7:=(s.ext x6).dG x7 a7 λe he=>(zEk he).elim (λq=>(s.ha.s e q).ext x6) λq=>by rw[q];exact s6
  refine SnB.aN (Rd.av.to ⟨iw,_,i,(),(),s7.hi,zEx l2,λG8 x8 i8=>?_⟩);rw[zEw] at i8;exact .nil (hN (.mk (s7.cW x8 i8) (by rw[zH1];exact ea) eb (uk (ul l i (c,0)) l1) (uk (ul IW i true) l2)))
 apply hI;intro x l IW s ea eb l1 l2;have ea':ahM l=AH0 W0:=ea;have eb':IW=IW0 W0:=eb;refine SnB.assign (v:=.int ((0:Nat):Int)) .int () ?_;refine SnB.bR (Na2 G f ad wa bf ah iw las (zp Bs) (λk W a AH IW=>naGo sl am Bs (zp Bs) k W a AH IW=some goal) W0) 100 (.mk s (by rw[ea'];rw[eb'];exact hgo) (λj=>by rw[ea'];exact(zAN 0 W0 [] j).trans ⟨λq=>q.elim (λq=>nomatch q) id,.inr⟩) (λj=>by rw[eb'];exact(zAN true W0 [] j).trans ⟨λq=>q.elim (λq=>nomatch q) id,.inr⟩) (λj h=>h) l1 l2 (add_le_add hW.1 (by decide:1600<=1884))) λk m G6 QT hI hN hR=>?_;clear s0 ea eb l1 l2 ea' eb' s;apply hI;intro x y z o W a l IW s go ka ki kw l1 l2 l3;have hWl:=length_map (f:=Val.int) (as:=W);refine SnT.mono (RdT.cmp (v:=.int (a:Int)) () (.fn (id:="len") T.blt () () () (λ_ _=>rfl) (vs:=[.ref wa]) () (Blt.aw s.hw (by rw[hWl];exact zDB l3 ()) qA)) (.lt qA)) λt G7 ee=>?_;obtain⟨e,e'⟩:=ee;subst e;subst e';rw[hWl];cases k with
 | zero=>cases go
 | succ k=>
 refine⟨λe=>?_,λe=>?_⟩
 ·have hlt:a<W.length:=Int.ofNat_lt.mp (of_decide_eq_true e);have hi:W[a]?=some W[a]:=getElem?_eq_getElem hlt;generalize W[a]=i at hi;have hiW:=kw i (mem_of_getElem? hi);obtain⟨i0,B,hB0,hways⟩:=hW.2 i hiW;have hi1:=(List.getElem?_eq_some_iff.mp hB0).1;have hBm:=ok.blks B (mem_of_getElem? hB0);have hic:i.natAbs<cap:=wD i0 (lt_of_lt_of_le hi1 (le_trans ok.few ()));refine SnB.assign (v:=.int i) (.aF () s.hw () (Nat.lt_trans hlt (zDB l3 ())) (zY hi)) () ?_;refine SnB.aug (v:=.int (a:Int)) (w:=.int 1) () .int (Op2.iadd ⟨_,(),?_⟩);refine SnB.aN (Rd.av.to ⟨iw,_,i,(),(),s.hi,zEx (k:=0) l2,λG8 x8 i8=>?_⟩);rw[zEw] at i8;have s8:=s.cW x8 i8;obtain⟨k1,k2⟩:=u8 (v:=false) ((ki i).mpr hiW);have k2:=λj=>(k2 j).trans (ki j);have k1:=le_trans (le_of_eq k1) l2;obtain⟨b,hb0,⟨sts,eo,hb1,hb2,hb3,hb4⟩⟩:=hB.get hB0;obtain⟨ff,fp,fl,fb,f1,⟨g1,g2,g3⟩,f2,f3,f4⟩:=hf.ext s8.x;refine SnB.assign (v:=.ref b) (.aF () f4 () hic (zA6 i0 hb0)) () ?_;refine SnB.aB (Sn.call (T.f 11 rfl) () (λ_ _=>rfl) (SnEs.cons (Rd.to (v:=.ref f) () (SnEs.cons (Rd.to (v:=.ref ad) () (SnEs.cons (Rd.to (v:=.ref b) () (SnEs.cons (Sn.ref (T.f 12 rfl) () (λ_ _=>rfl) (vs:=[.ref b,.ref ah]) () (jF T (hb1.ext s8.x) (hb3.ext s8.x) (hb4.ext s8.x) s8.ha (λj hj=>(ka j).mpr (hways j hj)) λc G9 c9 x9 s9=>SnEs.nil ?_))))))))));have y9:=s8.x.trans x9;refine zAZ T (hf.ext y9) (y9 _ _ ha) hok (hb1.ext y9) (hb2.ext y9) hBm.wf (hb3.ext y9) hBm.ends s9 λG10 s10 x10=>⟨_,(),?_⟩
  have y10:Ext G8 G10:=x9.fresh c9 x10;have t10:=s8.ext y10;refine zC (s8.ha.look (k:=i) ((ka i).mpr hiW)) λo1 o2 o3=>?_;have hne:=Ne.symm (o3.ne_new c9);have o3:=o3.ext y10;clear y10 x10 y9 x9 c9 s9 s8 x8 i8 s f1 f2 f3 f4 g1 g2 g3 hb1 hb2 hb3 hb4 hb0;refine SnB.ifs (r:=!Nat.beq (needP sl am B.steps B.fin.args (zJ (ahM l) B.ways)) (zV (ahM l) i)) (.cmp () (.ax () t10.ha.d () o2) (.eT s10 o3 hne)) (λe=>?_) λe=>.nil (.next (.nil (hN (lt_succ_self k) (.mk t10 ((zEi hi hB0 e).symm.trans go) ka k2 kw l1 k1 (le_trans (le_add_right _ 16) l3)))));rw[zG0 hi hB0 e] at go;have hbl:=zBa (L:=zp Bs) (i:=i.toNat) (by rw[zD5];exact hi1);refine zU (t10.hL.get hbl) λla la1 la2 la3=>?_;refine SnB.aN (Rd.to (v:=.ref c) () ⟨ah,_,i,(),(),t10.ha.d,zH3 (k:=0) l1,λG11 x11 a11=>?_⟩);generalize needP sl am B.steps B.fin.args (zJ (ahM l) B.ways)=N at *;rw[zH2 l i c N] at a11;have s11:=t10.dG x11 a11 λe he=>(zEk he).elim (t10.ha.s e) λq=>by rw[q];exact s10
  have la11:=x11.kind t10.ha.d la2;have hLl:=hL _ (mem_of_getElem? hbl);obtain⟨k3,k4⟩:=u8 (v:=N) ((ka i).mpr hiW);obtain⟨k5,_⟩:=u8 (l:=l) (v:=(c,N)) (by rw[<-zAw] at ka;exact zK3.mpr ((ka i).mpr hiW));have k5:=le_trans (le_of_eq k5) l1;have k4:=λj=>(k4 j).trans (ka j);generalize (zp Bs).getD i.toNat []=pl at *;rw[<-zH1 l i c N] at go k4;generalize st l i (c,N)=l' at *;have hK:W.length+16<=1900:=le_trans (add_le_add_left (le_add_left 16 (16 * k)) _) l3;clear t10 x11 a11 s10 la2 hbl k3 ka ki l1 l2 o2 o3 hne hlt e hi hways hB0 hBm;refine SnB.forM .int (.aF () s11.hb () hic (zA6 i0 la1)) la11 (Na3 (λo=>neL f ad wa bf ah iw (some (.int i)) (some (.int ((a+1:Nat):Int))) (some (.ref b)) (some (.ref c)) o) (λW IW G'=>NaS G wa bf ah iw las (zp Bs) G' W l' IW) W0 la pl (W.length+16) (wake (ahM l')) (pl.foldl (wake (ahM l')) (W,st IW i false))) (.mk s11 rfl k2 kw k1 (add_le_add_left hLl _) la11) (λr m G' hI=>hI (λ_=>_) λ_ _ _ _ _ _ _ _ _ e=>e) (λj r m G12 QU hI hM hS=>?_) λm G12 hI=>?_
  ·apply hI;intro o W' IW' s go ki kw l2 l3 hla;refine⟨_,.name (Upd.put ()),?_⟩;have hin:(lk (ahM l') j).isSome=true->j∈W0:=λq=>(k4 j).mp ((wO _ _).mp q);refine SnB.ifs (r:=(lk (ahM l') j).isSome&&!((lk IW' j).getD false)) (RdT.and (zKE▸RdT.cmp () () (.inDict s.ha.d qA)) λq=>RdT.aX (RdT.not (RdT.val (v:=.bool ((lk IW' j).getD false)) (.ax () s.hi () (zI5 ki (hin q))) (.bool _)))) (λe=>?_) λe=>.nil (.next (.nil (hM (.mk s (by rw[<-go];rw[foldl_cons];rw[zHa e]) ki kw l2 (le_of_succ_le l3) hla))));have q:=hin (Bool.and_eq_true_iff.mp e).1;refine SnB.aN (Rd.av.to ⟨iw,_,j,(),(),s.hi,zEx (k:=0) l2,λG13 x13 i13=>?_⟩);rw[zEw] at i13;have s13:=s.cW x13 i13;obtain⟨k6,k7⟩:=u8 (v:=true) ((ki j).mpr q);refine SnB.bF (a:=wa) (v:=.int j) () s13.hw () (by rw[length_map];exact zAJ l3 hK) λG14 x14 w14=>?_;exact .nil (.next (.nil (hM (.mk (W:=W'++[j]) (s13.dg x14 (w14.trans (by rw[List.map_append];rfl))) (by rw[<-go];rw[foldl_cons];rw[zFl e]) (λz=>(k7 z).trans (ki z)) (λz hz=>(List.mem_append.mp hz).elim (kw z) λhz=>by rw[List.mem_singleton.mp hz];exact q) (le_trans (le_of_eq k6) l2) (by rw[length_append];rw[length_singleton];rw[add_assoc];rw[Nat.add_comm 1];exact l3) (x14 _ _ (λz=>s13.n2 (z▸la3)) (x13.kind s.hi hla))))))
  ·apply hI;intro o W' IW' s go' ki kw l2 l3' hla;have e3:(W',IW')=pl.foldl (wake (ahM l')) (W,st IW i false):=go';rw[<-e3] at go;exact .nil (.next (.nil (hN (lt_succ_self k) (.mk s go k4 ki kw k5 l2 (zIW l3' l3)))))
 ·rw[zG1 (getElem?_eq_none (le_of_not_lt λq=>of_decide_eq_false e (Int.ofNat_lt.mpr q)))] at go;have go:=Option.some.inj go;exact SnB.aH (Rd.to (v:=.ref ah) () (kk ah l _ s.q2 s.x s.ha go (by rw[<-go];exact ka) (by rw[<-go];unfold ahM;rw[length_map];exact l1)))
end
section
variable {X:Cx}{n:Nat}{G:Gh}{sc:Scope}{os:List (Option Val)}{m:M}
def ExtB (bls:List Addr)(G G':Gh):Prop:=∀x o,x∉bls->G x=some o->G' x=some o
theorem ExtB.refl:ExtB bls G G:=λ_ _ _ e=>e
theorem ExtB.trans (a:ExtB bls G G')(b:ExtB bls G' G''):ExtB bls G G'':=λx o n e=>b x o n (a x o n e)
theorem Ext.bP (a:Ext G G'):ExtB bls G G':=λx o _ e=>a x o e
theorem Ext1.bP (a:Ext1 b G G')(h:b∈bls):ExtB bls G G':=λx o n e=>a x o (λq=>n (q▸h)) e
noncomputable def GObj.bJ:GObj->Bool | .inst .block _=>true | _=>false
theorem Zd.mem {i:Int}{bls:List Addr}{Bs:List PB}(h:Zd G i bls Bs):∀b∈bls,∃fs,G b=some (.inst .block fs):=by
 induction h with
 | nil=>exact zH
 | cons a _ _ _ _ ih=>obtain⟨fs,_,h1,_⟩:=a;exact zB ⟨fs,h1⟩ ih
theorem Zd.off {i:Int}{bls:List Addr}{Bs:List PB}(h:Zd G i bls Bs){o:GObj}(e:G x=some o)(hk:o.bJ=false):x∉bls:=λq=>by
 obtain⟨fs,e'⟩:=h.mem x q;rw[e] at e';cases e';cases hk
theorem Zh.bh {G':Gh}{f:Addr}{ps:List Int}{sl:Za}{bls:List Addr}{i:Int}{Bs:List PB}(h:Zh G f ps sl bls)(hB:Zd G i bls Bs)(x:ExtB bls G G'):Zh G' f ps sl bls:=by obtain⟨fs,p,s,b,h1,h2,h3,h4,h5⟩:=h;exact⟨fs,p,s,b,x _ _ (hB.off h1 rfl) h1,h2,x _ _ (hB.off h3 rfl) h3,x _ _ (hB.off h4 rfl) h4,x _ _ (hB.off h5 rfl) h5⟩
theorem Zg.keep {G':Gh}{a:Addr}{p:PS}(h:Zg G a p)(x:∀z o,o.bJ=false->G z=some o->G' z=some o):Zg G' a p:=by obtain⟨⟨fs,la,h1,h2,h3⟩,o⟩:=h;exact⟨⟨fs,la,x _ _ rfl h1,h2,x _ _ rfl h3⟩,o⟩
theorem Zt.keep {G':Gh}{p:PS}{js:List Int}(h:Zt G p js)(x:∀z o,o.bJ=false->G z=some o->G' z=some o):Zt G' p js:=by
 cases h with
 | jump h e=>exact .jump h e
 | branch h e=>exact .branch h e
 | table h e hl hj=>exact .table h e (x _ _ rfl hl) hj
 | other a b c=>exact .other a b c
theorem Ext1.nb (x:Ext1 b G G')(e:G b=some (.inst .block fs)):∀z o,o.bJ=false->G z=some o->G' z=some o:=λz o h e'=>x _ _ (λq=>by rw[q] at e';rw[e] at e';cases e';cases h) e'
noncomputable def zx (sl:Za)(am:Zc)(AH:List (Int×Nat))(B:PB):List (PS×Bool):=jX sl am B.steps B.fin.args (zJ AH B.ways)
noncomputable def chgB (kq:List (PS×Bool))(B:PB):Bool:=Nat.blt kq.length B.steps.length||kq.any (·.2)
noncomputable def withSt (B:PB)(ss:List PS):PB:=⟨ss,B.fin,B.ways⟩
noncomputable def swB (sl:Za)(am:Zc)(AH:List (Int×Nat))(B:PB):PB:=if chgB (zx sl am AH B) B then withSt B ((zx sl am AH B).map (·.1)) else B
noncomputable def zX (F:PB->PB)(p:Int->Bool):Int->List PB->List PB
 | _,[]=>[]
 | i,B::Bs=>(if p i then F B else B)::zX F p (i+1) Bs
noncomputable def zf (c:PB->Bool)(p:Int->Bool):Int->List PB->Bool
 | _,[]=>false
 | i,B::Bs=>(p i&&c B)||zf c p (i+1) Bs
noncomputable def orp (p:Int->Bool)(j:Int):Int->Bool:=λi=>p i||decide (i=j)
theorem zB9:i+((k+1:Nat):Int)=i+1+(k:Int):=by rw[Int.add_assoc];rw[Int.add_comm 1];rfl
theorem zJ6 {i z:Int}(h:i+1<=z):z≠i:=λq=>Int.lt_irrefl i (q▸h:i+1<=i)
theorem zHW (h:j=i+((k+1:Nat):Int)):i≠j:=by lia
theorem zCn (h:z≠j):orp p j z=p z:=by unfold orp;rw[decide_eq_false h];rw[Bool.or_false]
theorem zHS:orp p j j=true:=by unfold orp;rw[decide_eq_true rfl];rw[Bool.or_true]
theorem yw {F:PB->PB}{p:Int->Bool}{Bs:List PB}:∀{i:Int} {k:Nat} {B:PB},Bs[k]?=some B->(zX F p i Bs)[k]?=some (if p (i+k) then F B else B):=by
 induction Bs with
 | nil=>intro i k B e;cases e
 | cons C Bs ih=>
  intro i k B e;cases k with
  | zero=>cases e;exact congrArg (λz=>some (if p z then F C else C)) (add_zero i).symm
  | succ k=>exact(ih (i:=i+1) e).trans (congrArg (λz=>some (if p z then F B else B)) zB9.symm)
theorem y4 {F:PB->PB}{p q:Int->Bool}{Bs:List PB}:∀{i:Int},(∀j,i<=j->p j=q j)->zX F p i Bs=zX F q i Bs:=by
 induction Bs with
 | nil=>exact λ_=>rfl
 | cons B Bs ih=>intro i h;show _::_=_::_;rw[h i (Int.le_refl i)];rw[ih λj hj=>h j (Int.le_of_lt hj)]
theorem ym {c:PB->Bool}{p q:Int->Bool}{Bs:List PB}:∀{i:Int},(∀j,i<=j->p j=q j)->zf c p i Bs=zf c q i Bs:=by
 induction Bs with
 | nil=>exact λ_=>rfl
 | cons B Bs ih=>intro i h;show (_||_)=(_||_);rw[h i (Int.le_refl i)];rw[ih λj hj=>h j (Int.le_of_lt hj)]
theorem zKV:∀a b r:Bool,(true&&b||r)=(a&&b||r||b):=()
theorem zBk {c:PB->Bool}{p:Int->Bool}{j:Int}{Bs:List PB}:∀{i:Int} {k:Nat} {B:PB},Bs[k]?=some B->j=i+k->zf c (orp p j) i Bs=(zf c p i Bs||c B):=by
 induction Bs with
 | nil=>intro i k B e;cases e
 | cons C Bs ih=>
  intro i k B e hj;cases k with
  | zero=>
   cases e;obtain rfl:j=i:=hj.trans (add_zero i);show (orp p j j&&c C||zf c (orp p j) (j+1) Bs)=(p j&&c C||zf c p (j+1) Bs||c C)
   rw[ym (p:=orp p j) (q:=p) λz hz=>zCn (zJ6 hz)];rw[zHS];exact zKV ..
  | succ k=>
   show (orp p j i&&c C||zf c (orp p j) (i+1) Bs)=(p i&&c C||zf c p (i+1) Bs||c B)
   rw[ih (i:=i+1) e (hj.trans zB9)];rw[zCn (zHW hj)];rw[Bool.or_assoc]
theorem Zb.off (x:Ext1 b G G')(eb:G b=some (.inst .block fb))(h:Zb G as ps):Zb G' as ps:=h.map λ_ _ s=>s.keep (x.nb eb)
theorem Zn.off (x:Ext1 b G G')(eb:G b=some (.inst .block fb))(ne:b'≠b)(h:Zn G b' i sts eo):Zn G' b' i sts eo:=by obtain⟨fs,st,a1,a2,a3⟩:=h;exact⟨fs,st,x _ _ ne a1,a2,x.nb eb _ _ rfl a3⟩
theorem Zd.dq {fb:Fld->Option Val}{n:Int}(x:Ext1 b G G')(eb:G b=some (.inst .block fb))(hb:b∉bs)(h:Zd G n bs Cs):Zd G' n bs Cs:=by
 induction h with
 | nil=>exact .nil
 | cons a c d e' _ ih=>exact .cons (a.off x eb (Ne.symm (zEg hb))) (c.off x eb) (d.keep (x.nb eb)) (e'.keep (x.nb eb)) (ih (vE hb))
theorem Zd.one {F:PB->PB}{p:Int->Bool}{fb:Fld->Option Val}{j:Int}(x:Ext1 b G G')(eb:G b=some (.inst .block fb)){Bs:List PB}:∀{bs:List Addr} {i:Int} {k:Nat},Zd G i bs (zX F p i Bs)->bs[k]?=some b->bs.Nodup->j=i+k ->
  (∀B,Bs[k]?=some B->Ym G' b j (F B))->Zd G' i bs (zX F (orp p j) i Bs):=by
 induction Bs with
 | nil=>intro bs i k h e;cases h;cases e
 | cons B Bs ih=>
  intro bs i k h e nd hj hn;cases h with | @cons _ b' eo sts bs _ _ h1 h2 h3 h4 h5=>
  obtain⟨nd1,nd2⟩:=List.nodup_cons.mp nd;show Zd G' i (b'::bs) ((if orp p j i then F B else B)::zX F (orp p j) (i+1) Bs);cases k with
  | zero=>
   obtain rfl:b'=b:=Option.some.inj e;obtain rfl:j=i:=hj.trans (add_zero i);obtain⟨st',eo',n1,n2,n3,n4⟩:=hn B rfl;rw[zHS];rw[if_pos rfl];rw[y4 (p:=orp p j) (q:=p) λz hz=>zCn (zJ6 hz)];exact .cons n1 n2 n3 n4 (h5.dq x eb nd1)
  | succ k=>
   have ne:b'≠b:=λq=>nd1 (q▸mem_of_getElem? (show bs[k]?=some b from e));rw[zCn (zHW hj)];exact .cons (h1.off x eb ne) (h2.off x eb) (h3.keep (x.nb eb)) (h4.keep (x.nb eb)) (ih h5 e nd2 (hj.trans zB9) hn)
theorem RelK.chg (h:RelK G sts ks kq):(∀a∈sts,(G a).isSome=true)->ks.length=kq.length/\ks.length<=sts.length/\(ks.length=sts.length->((ks.zip sts).any λp=>!decide (p.1=p.2))=kq.any (·.2)):=by
 induction h with
 | nil=>exact λ_=>⟨rfl,le_refl _,λ_=>rfl⟩
 | skip _ ih=>
  intro ha;refine w3 (ih (zL ha)) λh1 h2 _=>?_;exact⟨h1,le_succ_of_le h2,λq=>by rw[length_cons] at q;lia⟩
 | same _ ih=>
  intro ha;refine w3 (ih (zL ha)) λh1 h2 h3=>?_;refine⟨congrArg (· + 1) h1,succ_le_succ h2,λq=>?_⟩;rw[List.zip_cons_cons];rw[any_cons];rw[any_cons];rw[h3 (Nat.succ.inj q)];rw[decide_eq_true rfl];rfl
 | @new a c as ks p qs hc _ ih=>
  intro ha;refine w3 (ih (zL ha)) λh1 h2 h3=>?_;refine⟨congrArg (· + 1) h1,succ_le_succ h2,λq=>?_⟩
  have:=ha _ (.head _);rw[List.zip_cons_cons];rw[any_cons];rw[any_cons];rw[decide_eq_false (λq:c=a=>by rw[<-q,hc] at this;cases this)];rfl
theorem Zb.some {as:List Addr}{ps:List PS}(h:Zb G as ps):∀a∈as,(G a).isSome=true:=by
 induction h with
 | nil=>exact zH
 | cons a _ ih=>obtain⟨⟨fs,la,h1,_⟩,_⟩:=a;exact zB (by rw[h1];rfl) ih
theorem KsAt.steps (q:KsAt G0 G as qs)(hs:Ze G0 h k)(x:Ext1 h G0 G):Zb G as (qs.map (·.1)):=by
 induction q with
 | nil=>exact .nil
 | cons a _ ih=>obtain⟨⟨fs,la,h1,h2,h3⟩,o⟩:=a;exact .cons ⟨⟨fs,la,h1,h2,hs.kind x h3⟩,o⟩ ih
theorem SnB.aY (hc:Z0 X)(ha:Zr attr f)(h:Rd X n sc e m G v)(ho:Rd X n sc o m G (.ref a))(e1:G a=some (.inst c fs))
  (k:∀G',Ext1 a G G'->G' a=some (.inst c (fput fs f v))->SnB X n sc sts m G' Q) (hsw:∀env,swapsWith e (some (.Attribute o attr p)) pos.line env=pure false:=by intro _;rfl):SnB X n sc (.Assign [.Attribute o attr p] e pos::sts) m G Q:=
 .cons (.setAttr hc f ha.eq (h.to (ho.to ⟨a,c,fs,rfl,e1,.next (k _ .upd (Gh.aA ..))⟩)) hsw)
end
section
variable {X:Cx}{n:Nat}{G:Gh}{sc:Scope}{os:List (Option Val)}{m:M}
abbrev spL (f ad ah:Addr)(c:Bool)(i b k:Option Val):M:=L jI [some (.ref f),some (.ref ad),some (.ref ah),some (.bool c),i,b,k,none,none,none,none,none,none,none]
structure Sw1 (G0:Gh)(bls:List Addr)(F:PB->PB)(C:PB->Bool)(Bs:List PB)(ah la:Addr)(l:AhL)(rs:List Val)(K:List Int)(p:Int->Bool)(c:Bool)(r:List Int)(G:Gh):Prop where
 x:ExtB bls G0 G
 hB:Zd G 0 bls (zX F p 0 Bs)
 ha:AhAt G ah l
 hl:G la=some (.list rs)
 hc:c=zf C p 0 Bs
 nd:r.Nodup
 dj:∀j∈r,p j=false
 me:∀j,j∈K↔j∈r\/p j=true
theorem uh {F:PB->PB}{Bs:List PB}:∀{i:Int},zX F (λ_=>false) i Bs=Bs:=by
 induction Bs with
 | nil=>exact rfl
 | cons B Bs ih=>exact congrArg (B::·) ih
theorem vP {C:PB->Bool}{Bs:List PB}:∀{i:Int},zf C (λ_=>false) i Bs=false:=by
 induction Bs with
 | nil=>exact rfl
 | cons B Bs ih=>exact ih
theorem AhAt.bh {d i:_}{l:AhL}{bls:List Addr}{Bs:List PB}(h:AhAt G d l)(hB:Zd G i bls Bs)(x:ExtB bls G G'):AhAt G' d l:=
 h.keep (x _ _ (hB.off h.d rfl) h.d) λa k s=>by obtain⟨f,s⟩:=s;exact⟨f,x _ _ (hB.off s rfl) s⟩
def Sw2I (G0:Gh)(f ad:Addr)(bls:List Addr)(F:PB->PB)(C:PB->Bool)(Bs:List PB)(ah la:Addr)(l:AhL)(rs:List Val)(K:List Int)(r:List Int)(m:M)(G:Gh):Prop:=
 ∀D:M->Prop,(∀(p:Int->Bool) (c:Bool) (i b k:Option Val),Sw1 G0 bls F C Bs ah la l rs K p c r G->D (spL f ad ah c i b k))->D m
theorem Sw2I.mk {G0:Gh}{f ad:Addr}{bls:List Addr}{F:PB->PB}{C:PB->Bool}{Bs:List PB}{ah la:Addr}{l:AhL}{rs:List Val}{K r:List Int}{p:Int->Bool}{c:Bool}{i b k:Option Val}(h:Sw1 G0 bls F C Bs ah la l rs K p c r G):Sw2I G0 f ad bls F C Bs ah la l rs K r (spL f ad ah c i b k) G:=λ_ q=>q p c i b k h
theorem Sw1.step {bls:List Addr}{F:PB->PB}{C:PB->Bool}{Bs:List PB}{l:AhL}{rs:List Val}{K r:List Int}{p:Int->Bool}{c c':Bool}{j:Int}{B:PB}(h:Sw1 G0 bls F C Bs ah la l rs K p c (j::r) G)(j0:0<=j)(hB0:Bs[j.toNat]?=some B)(x:ExtB bls G G')(hB:Zd G' 0 bls (zX F (orp p j) 0 Bs))(ec:c'=(c||C B)):Sw1 G0 bls F C Bs ah la l rs K (orp p j) c' r G':=by
 obtain⟨nj,nd⟩:=List.nodup_cons.mp h.nd;refine⟨h.x.trans x,hB,h.ha.bh h.hB x,x _ _ (h.hB.off h.hl rfl) h.hl,by rw[ec];rw[h.hc];rw[zBk (j:=j) (i:=0) hB0 (by rw[toNat_of_nonneg j0,Int.zero_add])],nd,λz hz=>?_,λz=>?_⟩
 ·show (p z||decide (z=j))=false;rw[h.dj z (.tail _ hz)];rw[decide_eq_false (λq:z=j=>nj (q▸hz))];rfl
 ·rw[h.me z];rw[mem_cons];show _↔z∈r\/(p z||decide (z=j))=true;rw[or_eq_true];rw[decide_eq_true_iff];exact⟨λq=>q.elim (λq=>q.elim (λq=>.inr (.inr q)) .inl) λq=>.inr (.inl q),λq=>q.elim (λq=>.inl (.inr q)) λq=>q.elim .inr λq=>.inl (.inl q)⟩
theorem zIq {ks sts:List Addr}{S:List (PS×Bool)}{ps:List PS}(z1:ks.length=S.length)(hsl:sts.length=ps.length)(z3:ks.length=sts.length->((ks.zip sts).any λp=>!decide (p.1=p.2))=S.any (·.2))(le:ks.length<=sts.length):(decide (((ks.map Val.ref).length:Int)<((sts.map Val.ref).length:Int))||((ks.zip sts).any λp=>!decide (p.1=p.2)))=(Nat.blt S.length ps.length||S.any (·.2)):=by
 rw[length_map];rw[length_map];rw[zFX];rw[<-z1];rw[<-hsl];rcases Nat.lt_or_eq_of_le le with q | q
 ·rw[show Nat.blt ks.length sts.length=true from Nat.ble_eq_true_of_le q];rfl
 ·rw[z3 q]
theorem v4 {f ad:Addr}{pr:List Int}{sl:Za}{bls:List Addr}{am:Zc}{Bs:List PB}{W0:List Int}{AH:List (Int×Nat)}{Q:QE}(T:Tops X)(hf:Zh G f pr sl bls)(ha:G ad=some (.dict (adE am)))(hok:AdOK am sl)
  (hB:Zd G 0 bls Bs) (hnd:bls.Nodup) (ok:FnOK Bs) (hpo:zD6 Bs=some W0) (hW:PoOK Bs W0) (hL:∀l∈zp Bs,l.length<=16) (hgo:naGo sl am Bs (zp Bs) 100 W0 0 (AH0 W0) (IW0 W0)=some AH)
  (kk:∀G',ExtB bls G G'->Zd G' 0 bls (zX (swB sl am AH) (λi=>(lk AH i).isSome) 0 Bs)->Q (.bool (zf (λB=>chgB (zx sl am AH B) B) (λi=>(lk AH i).isSome) 0 Bs)) G'):Cal X (n+6) yP [.ref f,.ref ad] G Q:=by
 refine Cal.start (T.d 19 rfl) rfl rfl ?_;refine SnB.aB (Sn.ref (T.f 13 rfl) () (λ_ _=>rfl) (vs:=[.ref f,.ref ad]) () (v5 T hf ha hok hB ok hpo hW hL hgo λah l G1 h1 x1 a1 hl hAH hAl=>⟨_,(),?_⟩));subst hl;refine SnB.assign (v:=.bool false) .av () ?_;have hkeys:∀j,(zm (ahE l) j).isSome=true↔j∈W0:=λj=>by rw[zAl];rw[wO];rw[zAw];exact hAH j
 refine SnB.bN (Sn.fn (id:="sorted") T.blt () () () (λ_ _=>rfl) (Rds.to (vs:=[.ref ah]) () (Blt.sorted a1.d (by unfold ahE;unfold ahM at hAl;rw[length_map] at hAl ⊢;exact lt_of_le_of_lt hAl ()) λks hk1 hk2 la hla=>?_)));have x2:=Ext.new (o:=.list (ks.map .int)) hla;refine .mapM (f:=.int) (Gh.aA ..) rfl (Sw2I G f ad bls (swB sl am (ahM l)) (λB=>chgB (zx sl am (ahM l) B) B) Bs ah la l (ks.map .int) W0)
  (.mk (p:=λ_=>false) ⟨(x1.trans x2).bP,by rw[uh];exact hB.ext (x1.trans x2),a1.ext x2,Gh.aA ..,vP.symm,hk1.imp λh=>Int.ne_of_lt h,λ_ _=>rfl,λj=>by rw[hk2];rw[hkeys];exact⟨.inl,λq=>q.elim id λq=>nomatch q⟩⟩) (λr m G' hI=>hI (λ_=>_) λ_ _ _ _ _ h=>h.hl) (λj r m G3 QT hI hN hR=>?_) λm G3 hI=>?_
 ·apply hI;intro p c i b' k h;have pj:=h.dj j (.head _);obtain⟨j0,B,hB0,hways⟩:=hW.2 j ((h.me j).mpr (.inl (.head _)));have hBm:=ok.blks B (mem_of_getElem? hB0);have jj:((j.toNat:Nat):Int)=j:=toNat_of_nonneg j0;have hcur:=yw (F:=swB sl am (ahM l)) (p:=p) (i:=0) hB0;rw[jj] at hcur;rw[Int.zero_add] at hcur;rw[pj] at hcur;obtain⟨b,hb0,⟨sts,eo,hb1,hb2,hb3,hb4⟩⟩:=h.hB.get hcur;rw[jj] at hb1;rw[Int.zero_add] at hb1;have hb2:Zb G3 sts B.steps:=hb2;have hb3:Zg G3 eo B.fin:=hb3;have hb4:Zt G3 B.fin B.ways:=hb4;have hbm:=mem_of_getElem? hb0;have hf3:=hf.bh hB h.x;have ha3:=h.x _ _ (hB.off ha rfl) ha;obtain⟨ff,fp,fl,fb,f1,⟨g1,g2,g3⟩,f2,f3,f4⟩:=id hf3;have hsl:=hb2.length;have hlen:sts.length<1000:=by rw[hsl];exact lt_of_le_of_lt hBm.len ()
  have hcp:sts.length<cap:=Nat.lt_trans hlen ();have next:∀(c':Bool) (k':Option Val) (G5 G6:Gh) (fb:Fld->Option Val),Ext G3 G5->G5 b=some (.inst .block fb)->Ext1 b G5 G6->c'=(c||chgB (zx sl am (ahM l) B) B)->Ym G6 b j (swB sl am (ahM l) B)->QT .next (spL f ad ah c' (some (.int j)) (some (.ref b)) k') G6:=λc' k' G5 G6 fb x35 e1 x6 ec hbk=>hN (.mk (h.step j0 hB0 (x35.bP.trans (x6.bP hbm)) ((h.hB.ext x35).one x6 e1 hb0 hnd (by rw[jj];rw[Int.zero_add]) (λB' q=>by rw[hB0] at q;cases q;exact hbk)) ec))
  refine⟨_,.name (Upd.put ()),SnB.assign (v:=.ref b) (.aF () f4 () (wD j0 (lt_of_lt_of_le (List.getElem?_eq_some_iff.mp hB0).1 (le_trans ok.few ()))) (zA6 j0 hb0)) () ?_⟩;refine SnB.aB (Sn.call (T.f 15 rfl) () (λ_ _=>rfl) (SnEs.cons (Rd.to (v:=.ref f) () (SnEs.cons (Rd.to (v:=.ref ad) () (SnEs.cons (Rd.to (v:=.ref b) () (SnEs.cons (Sn.ref (T.f 12 rfl) () (λ_ _=>rfl) (vs:=[.ref b,.ref ah]) () (jF T hb1 hb3 hb4 h.ha (λj hj=>(hAH j).mpr (hways j hj)) λhh G4 c4 x4 s4=>SnEs.nil ?_))))))))));clear f1 f2 f3 f4 g1 g2 g3 hcur pj hways hb0 h hI;refine vZ T (hf3.ext x4) (x4 _ _ ha3) hok (hb1.ext x4) (hb2.ext x4) hBm.wf hlen (hb3.ext x4) hBm.ends s4 λc5 ks5 G5 n5 x5 l5 r5 k5 len5=>⟨_,(),?_⟩
  have x35:Ext G3 G5:=x4.fresh c4 x5;obtain⟨fbb,stl,e1,⟨b1,b2,b3⟩,e3⟩:=id (hb1.ext x35);refine w3 (r5.chg (hb2.ext x4).some) λz1 z2 z3=>?_;have hk5:=k5.steps s4 x5;have hC:_=chgB (zx sl am (ahM l) B) B:=zIq z1 hsl z3 len5;have next:=λc' k' G6=>next c' k' G5 G6 _ x35 e1
  have hb3:=hb3.ext x35;have hb4:=hb4.ext x35;have hb2:=hb2.ext x35;clear x4 s4 c4 x5 n5 r5 k5 hb1 z1 z2 z3 x35 hf3 ha3;refine SnB.ifs (r:=chgB (zx sl am (ahM l) B) B) (hC▸RdT.or (RdT.cmp (.fn (id:="len") T.blt () () () (λ_ _=>rfl) (vs:=[.ref c5]) () (Blt.aw l5 (by rw[length_map];exact lt_of_le_of_lt len5 hcp) qA)) (.fn (id:="len") T.blt () () () (λ_ _=>rfl) (vs:=[.ref stl]) () (Blt.aw e3 (by rw[length_map];exact hcp) qA)) (.lt qA)) λ_=>RdT.bG (RdT.val (Sn.cz T.blt () () (λ_ _=>rfl) (by decide +kernel) (by decide +kernel) (by decide +kernel) (by decide +kernel) (by decide +kernel) (Rds.to (vs:=[.ref c5,.ref stl]) () ⟨c5,stl,ks5,sts,rfl,l5,e3,lt_of_le_of_lt len5 hcp,hcp,hk5.some,hb2.some,rfl,rfl⟩)) (.bool _))) (λe=>?_) λe=>.nil (.next (.nil (next c _ G5 .refl (by rw[e];rw[Bool.or_false]) ?_)))
  ·refine SnB.aY (f:=.steps) T.cls () (v:=.ref c5) () () e1 λG6 x6 e6=>SnB.assign (v:=.bool true) .av () (.nil (.next (.nil (next true _ G6 x6 (by rw[e];rw[Bool.or_true]) ?_))));have kp:=x6.nb e1;rw[show swB sl am (ahM l) B=withSt B ((zx sl am (ahM l) B).map (·.1)) from if_pos e];exact⟨ks5,eo,⟨_,c5,e6,⟨b1,rfl,b3⟩,kp _ _ rfl l5⟩,hk5.map λ_ _ s=>s.keep kp,hb3.keep kp,hb4.keep kp⟩
  ·rw[show swB sl am (ahM l) B=B from if_neg (by rw[e];decide)];exact⟨sts,eo,⟨fbb,stl,e1,⟨b1,b2,b3⟩,e3⟩,hb2,hb3,hb4⟩
 ·apply hI;intro p c i b' k h;have hp:∀j:Int,p j=(lk (ahM l) j).isSome:=λj=>by
   rw[Bool.eq_iff_iff];rw[wO];refine Iff.trans ?_ (hAH j).symm;rw[h.me j];exact⟨.inr,λq=>q.elim (λq=>nomatch q) id⟩
  refine SnB.aH (Rd.to (v:=.bool c) () ?_);rw[h.hc];rw[ym λj _=>hp j];have hB3:=h.hB;rw[y4 λj _=>hp j] at hB3;exact kk G3 h.x hB3
end
section
variable {X:Cx}{n:Nat}{G:Gh}{sc:Scope}{os:List (Option Val)}{m:M}
section
variable {α:Type}
def FbO (sc:Scope)(F:α->Option Val->Option Val->List (Option Val))(G:Gh)(Bs:List PB)(JB:List PB->Gh->Prop)(bs:List Addr)(m:M)(G':Gh):Prop:=
 ∀C:M->Prop,(∀(i:Int) (Cs:List PB) (z:α) (x y:Option Val),Zd G i bs Cs->(∀B∈Cs,B∈Bs)->JB Cs G'->C (L sc (F z x y)))->C m
def FbI (sc:Scope)(F:α->Option Val->Option Val->List (Option Val))(G:Gh)(B:PB)(x:Option Val)(J:List PS->Gh->Prop)(ss:List Addr)(m:M)(G':Gh):Prop:=
 ∀C:M->Prop,(∀(ps:List PS) (z:α) (y:Option Val),Zb G ss ps->(∀p∈ps,p∈B.steps)->J ps G'->C (L sc (F z x y)))->C m
theorem SnB.aa {body tl sts:List Stmt}{pr:List Int}{sl:Za}{bls:List Addr}{Bs:List PB}{z0:α}{x0 y0:Option Val}(hc:Z0 X)(F:α->Option Val->Option Val->List (Option Val))
  (ub:∀z x y v,Upd false sc.names (F z x y) "block" v (F z (some v) y)) (us:∀z x y v,Upd false sc.names (F z x y) "step" v (F z x (some v))) (lb:∀z v y,Loc sc.names (F z (some v) y) "block" v) (lf:∀z x y,Loc sc.names (F z x y) "func" (.ref f))
  (hf:Zh G f pr sl bls) (hB:Zd G 0 bls Bs) (JB:List PB->Gh->Prop) (JS:PB->List PB->List PS->Gh->Prop) (h0:JB Bs G1) (kb:∀Cs G',JB Cs G'->Ext G G') (ks:∀B Cs r G',JS B Cs r G'->Ext G G')
  (start:∀B Cs G',JB (B::Cs) G'->JS B Cs B.steps G')
  (turn:∀B Cs p r z x a G' (QT:QS),B∈Bs->p∈B.steps->Zg G a p->JS B Cs (p::r) G'->(∀{z y G2},JS B Cs r G2->QT .next (L sc (F z x y)) G2/\QT .cont (L sc (F z x y)) G2)->SnB X n sc body (L sc (F z x (some (.ref a)))) G' QT)
  (tail:∀B Cs z y b fb eo G' (QT:QS),B∈Bs->G b=some (.inst .block fb)->fb .end_=some (.ref eo)->Zg G eo B.fin->JS B Cs [] G'->(∀{z x y G2},JB Cs G2->QT .next (L sc (F z x y)) G2)->SnB X n sc tl (L sc (F z (some (.ref b)) y)) G' QT)
  (k:∀z x y G',JB [] G'->SnB X n sc sts (L sc (F z x y)) G' Q) :
  SnB X n sc (.For (.Name "block" p1) (.Attribute (.Name "func" p2) "blocks" p3) (.For (.Name "step" p4) (.Attribute (.Name "block" p5) "steps" p6) body [] p7::tl) [] p8::sts) (L sc (F z0 x0 y0)) G1 Q:=by
 obtain⟨ff,fp,fl,fb,f1,⟨g1,g2,g3⟩,f2,f3,f4⟩:=hf;refine SnB.cq .ref (.attr hc .blocks (.var (lf _ _ _)) (kb _ _ h0 _ _ f1) g3) (kb _ _ h0 _ _ f4) (FbO sc F G Bs JB) (λ_ k=>k 0 Bs z0 x0 y0 hB (λ_ h=>h) h0) (λr m G' hI=>hI (λ_=>_) λ_ _ _ _ _ _ _ hJ=>kb _ _ hJ _ _ f4) (λb bs m G' QT hI kN _=>?_) λm G' hI=>?_
 ·clear h0 hB f1 f4 k;apply hI;intro i Cs z x y hb hm hJ;revert hm hJ;apply hb.uc;intro eo as B Cs a1 a2 a3 _ a5 hm hJ;obtain⟨fs,st,b1,⟨b2,b3,b4⟩,b5⟩:=a1;have hJ':=start _ _ _ hJ;have hm':=hm B (.head _);have hm:=λC h=>hm C (.tail _ h);clear start hJ hI hb;refine⟨_,.name (Upd.put (ub z x y _)),?_⟩;refine SnB.cq .ref (.attr hc .steps (.var (lb _ _ _)) (ks _ _ _ _ hJ' _ _ b1) b3) (ks _ _ _ _ hJ' _ _ b5) (FbI sc F G B (some (.ref b)) (JS B Cs)) (λ_ k=>k B.steps z y a2 (λ_ h=>h) hJ') (λr m G2 hI=>hI (λ_=>_) λ_ _ _ _ _ hJ=>ks _ _ _ _ hJ _ _ b5) (λa ss m G2 QU hI k1 _=>?_) λm G2 hI=>?_
  ·apply hI;intro ps z y hs hp hJ2;revert hp hJ2;apply hs.uc;intro p ps s1 s2 hp hJ2;exact⟨_,.name (Upd.put (us z _ y _)),turn B Cs p ps z _ a G2 QU hm' (hp _ (.head _)) s1 hJ2 λ{z y G3} h=>k1 λ_ k=>k ps z y s2 (λp h=>hp p (.tail _ h)) h⟩
  ·apply hI;intro ps z y hs _ hJ2;cases hs.un;exact tail B Cs z y b fs eo G2 QT hm' b1 b4 a3 hJ2 λ{z x y G3} h=>(kN λ_ k=>k _ Cs z x y a5 hm h).1
 ·apply hI;intro i Cs z x y hb _ hJ;cases hb.un;exact k z x y G' hJ
end
end
section
variable {X:Cx}{n:Nat}{G:Gh}{sc:Scope}{os:List (Option Val)}{m:M}
noncomputable def zR (Bs:List PB):List PS:=Bs.flatMap (·.steps)
noncomputable def zg (ss:List PS):List PS:=ss.filter λp=>Nat.beq p.op 9
theorem zET (h:Nat.beq p.op 9=true):zg (p::r)=p::zg r:=List.filter_cons_of_pos (p:=λp:PS=>Nat.beq p.op 9) h
theorem zEU (h:Nat.beq p.op 9=false):zg (p::r)=zg r:=List.filter_cons_of_neg (p:=λp:PS=>Nat.beq p.op 9) (by rw[h];decide)
theorem wj (B:PB)(Bs:List PB):zR (B::Bs)=B.steps++zR Bs:=List.flatMap_cons ..
theorem Zb.snoc (h:Zb G as ps)(s:Zg G a p):Zb G (as++[a]) (ps++[p]):=h.append (.cons s .nil)
def SlJ (G0 Gs:Gh)(fo:Addr)(goal:List PS)(r:List PS)(G:Gh):Prop:=
 ∀C:Prop,(∀(as:List Addr) (ps:List PS),Ext G0 G->Ext Gs G->G fo=some (.list (as.map .ref))->Zb G0 as ps->ps++zg r=goal->as.length+r.length<=900->C)->C
theorem SlJ.mk {G0 Gs:Gh}{fo:Addr}{goal r:List PS}{as:List Addr}{ps:List PS}(x:Ext G0 G)(y:Ext Gs G)(hl:G fo=some (.list (as.map .ref)))(hs:Zb G0 as ps)(hg:ps++zg r=goal)(hc:as.length+r.length<=900):SlJ G0 Gs fo goal r G:=λ_ k=>k as ps x y hl hs hg hc
theorem SlJ.x (h:SlJ G0 Gs fo goal r G):Ext G0 G:=h _ λ_ _ x _ _ _ _ _=>x
theorem zA2 {α:Type}{l:List α}{a:α}{b k:Nat}(h:l.length+(b+1)<=k):(l++[a]).length+b<=k:=by rw[length_append];exact zGF h
theorem zAY {pr:List Int}{sl:Za}{bls:List Addr}{Bs:List PB}(T:Tops X)(hf:Zh G0 f pr sl bls)(hB:Zd G0 0 bls Bs)(x0:Ext G0 G)(ht:(zR Bs).length<=900)
  (kk:∀c as G',G c=none->Ext G G'->G' c=some (.list (as.map .ref))->Zb G0 as (zg (zR Bs))->as.length<=900->Q (.ref c) G'):Cal X (n+1) yp [.ref f] G Q:=by
 refine Cal.start (T.d 10 rfl) rfl rfl ?_;refine SnB.aB (Sn.aJ .nil λfo G1 h1 x1 l1=>⟨_,(),?_⟩);refine SnB.aa (α:=Unit) (z0:=Unit.unit) T.cls (λ_ x y=>[some (.ref f),some (.ref fo),x,y]) (λ_ _ _ _=>()) (λ_ _ _ _=>()) (λ_ _ _=>()) (λ_ _ _=>()) hf hB (λCs=>SlJ G0 G fo (zg (zR Bs)) (zR Cs)) (λB Cs r=>SlJ G0 G fo (zg (zR Bs)) (r++zR Cs))
  (.mk (as:=[]) (ps:=[]) (x0.trans x1) x1 l1 .nil rfl (le_trans (le_of_eq (zero_add _)) ht)) (λ_ _ h=>h.x) (λ_ _ _ _ h=>h.x) (λB Cs G' h=>by rw[<-wj];exact h) (λB Cs p r z x a G' QT _ _ hs hJ kN=>?_) (λB Cs z y b fb eo G' QT _ _ _ _ h kN=>.nil (kN (z:=z) h)) λz x y G' h=>?_
 ·apply hJ;intro as ps x' y' hl hs' hg hc;obtain⟨⟨fs,la,s1,⟨f1,f2,f3,f4,f5,_⟩,s2⟩,so⟩:=hs.ext x';rw[List.cons_append] at hc;rw[length_cons] at hc;refine SnB.ifs (r:=Nat.beq p.op 9) ?_ (λe=>?_) λe=>.nil (.next (.nil (kN (z:=z) (.mk x' y' hl hs' ?_ (zJT hc))).1))
  ·rw[<-zIF p.op so];exact .cmp () () (.bH qA)
  ·refine SnB.bF (a:=fo) (v:=.ref a) () hl () (by rw[length_map];exact zAJ hc ()) λG2 x2 l2=>?_;refine .nil (.next (.nil (kN (z:=z) (.mk (as:=as++[a]) (ps:=ps++[p]) (x'.fresh (x0.none h1) x2) (y'.fresh h1 x2) (by rw[l2];rw[List.map_append];rfl) (hs'.snoc hs) ?_ (zA2 hc))).1));rw[<-hg];rw[append_assoc];exact congrArg (ps++·) (zET (r:=r++zR Cs) e).symm
  ·rw[<-hg];rw[List.cons_append];rw[zEU e]
 ·apply h;intro as ps x' y' hl hs' hg hc;have e:ps=zg (zR Bs):=by rw[<-hg];exact(append_nil ps).symm
  exact SnB.aH (Rd.to (v:=.ref fo) () (kk fo as G' h1 y' hl (e▸hs') hc))
noncomputable def z5 (rg:Zc)(T:List (Int×Int))(p:PS):List (Int×Int):=if (lk rg p.dst).isSome then st T p.dst ((lk T p.dst).getD 0+1) else T
noncomputable def wu (pa:List Int)(rg:Zc)(ss:List PS):List (Int×Int):=ss.foldl (z5 rg) (pa.foldl (λT r=>st T r 1) [])
theorem zDO (l:Zc)(k v:Int):st (adE l) k (.int v)=adE (st l k v):=(zBE Val.int l k v).symm
theorem zFf (l:Zc):(adE l).length=l.length:=length_map ..
theorem yK (l:Zc)(k:Int):zm (adE l) k=(lk l k).map .int:=zEp Val.int l k
theorem yn (l:Zc)(k:Int):(zm (adE l) k).isSome=(lk l k).isSome:=by rw[yK];rw[isSome_map]
def TsJ (G0:Gh)(fo:Addr)(rg:Zc)(goal:List (Int×Int))(r:List PS)(G:Gh):Prop:=
 ∀C:Prop,(∀T:List (Int×Int),Ext G0 G->G fo=some (.dict (adE T))->r.foldl (z5 rg) T=goal->T.length+r.length<=1000->C)->C
theorem TsJ.mk {G0:Gh}{fo:Addr}{rg:Zc}{goal:List (Int×Int)}{r:List PS}{T:List (Int×Int)}(x:Ext G0 G)(hl:G fo=some (.dict (adE T)))(hg:r.foldl (z5 rg) T=goal)(hc:T.length+r.length<=1000):TsJ G0 fo rg goal r G:=λ_ k=>k T x hl hg hc
theorem TsJ.x (h:TsJ G0 fo rg goal r G):Ext G0 G:=h _ λ_ x _ _ _=>x
def TsI (G0:Gh)(f rd fo:Addr)(goal:List (Int×Int))(K:Nat)(r:List Int)(m:M)(G:Gh):Prop:=
 ∀C:M->Prop,(∀(z:Option Val) (T:List (Int×Int)),Ext G0 G->G fo=some (.dict (adE T))->r.foldl (λT r=>st T r 1) T=goal->T.length+r.length<=K->C (L uV [some (.ref f),some (.ref rd),some (.ref fo),z,none,none]))->C m
theorem zJI (e:(lk rg p.dst).isSome=true)(h:(p::r).foldl (z5 rg) T=goal):r.foldl (z5 rg) (st T p.dst ((lk T p.dst).getD 0+1))=goal:=by rw[foldl_cons] at h;rw[show z5 rg T p=st T p.dst ((lk T p.dst).getD 0+1) from if_pos e] at h;exact h
theorem zKG (e:(lk rg p.dst).isSome=false)(h:(p::r).foldl (z5 rg) T=goal):r.foldl (z5 rg) T=goal:=by rw[foldl_cons] at h;rw[show z5 rg T p=T from if_neg (by rw[e];decide)] at h;exact h
theorem zDa (T:List (Int×Int))(k:Int):(zm (adE T) k).getD (.int 0)=.int ((lk T k).getD 0):=by rw[yK];cases lk T k<;>rfl
theorem zFe {b k:Nat}(h:T.length+b<=k)(q:k<=1900):(adE T).length<=2000:=by rw[zFf];exact zAJ h q
theorem zBH {pr:List Int}{sl:Za}{bls:List Addr}{Bs:List PB}{rg:Zc}(T:Tops X)(hf:Zh G f pr sl bls)(hr:G rd=some (.dict (adE rg)))(hB:Zd G 0 bls Bs)(ht:(zR Bs).length<=900)(hp:pr.length<=50)
  (kk:∀c G',G c=none->Ext G G'->G' c=some (.dict (adE (wu pr rg (zR Bs))))->Q (.ref c) G'):Cal X (n+1) jP [.ref f,.ref rd] G Q:=by
 obtain⟨ff,fp,fl,fb,f1,⟨g1,g2,g3⟩,f2,f3,f4⟩:=id hf;refine Cal.start (T.d 11 rfl) rfl rfl ?_;refine SnB.aB (Sn.az λfo G1 h1 x1 l1=>⟨_,(),?_⟩);have f1':=x1 _ _ f1;refine SnB.forM (a:=fp) .int () (x1 _ _ f2) (TsI G f rd fo (pr.foldl (λT r=>st T r 1) []) 60) (λ_ k=>k none [] x1 l1 rfl (le_trans (le_of_eq (zero_add _)) (le_trans hp ()))) (λr m G' hI=>hI (λ_=>_) λ_ _ x _ _ _=>x _ _ f2) (λi r m G' QT hI kN _=>?_) (λm G' hI=>?_)
 ·apply hI;intro z T' x hl hg hc;refine⟨_,.name (Upd.put ()),?_⟩;exact SnB.aN (Rd.int.to ⟨fo,_,i,(),(),hl,zFe hc (),λG2 x2 l2=>.nil (kN λ_ k=>k _ (st T' i 1) (x.fresh h1 x2) (by rw[l2];rw[zDO]) hg (uk (ul T' i 1) hc))⟩)
 ·apply hI;intro z T' x hl hg hc;refine SnB.aa (α:=Unit) (z0:=Unit.unit) T.cls (λ_ x y=>[some (.ref f),some (.ref rd),some (.ref fo),z,x,y]) (λ_ _ _ _=>()) (λ_ _ _ _=>()) (λ_ _ _=>()) (λ_ _ _=>()) hf hB (λCs=>TsJ G fo rg (wu pr rg (zR Bs)) (zR Cs)) (λB Cs r=>TsJ G fo rg (wu pr rg (zR Bs)) (r++zR Cs))
   (.mk (T:=T') x hl (by rw[show T'=_ from hg];rfl) (add_le_add (le_trans hc (by decide:(60:Nat)<=100)) ht)) (λ_ _ h=>h.x) (λ_ _ _ _ h=>h.x) (λB Cs G' h=>by rw[<-wj];exact h) (λB Cs p r z x a G' QT _ _ hs hJ kN=>?_) (λB Cs z y b fb eo G' QT _ _ _ _ h kN=>.nil (kN (z:=z) h)) λz x y G' h=>?_
  ·apply hJ;intro T2 x' hl' hg' hc';obtain⟨⟨fs,la,s1,⟨f1,f2,f3,f4,f5,_⟩,s2⟩,so⟩:=hs.ext x';rw[List.cons_append] at hc';rw[length_cons] at hc';rw[List.cons_append] at hg';rw[foldl_cons] at hg';have hr':=x' _ _ hr;refine SnB.ifs (r:=(lk rg p.dst).isSome) (yn rg p.dst▸RdT.cmp () () (.inDict hr' qA)) (λe=>?_) λe=>.nil (.next (.nil (kN (z:=z) (.mk x' hl' (zKG e hg') (zJT hc'))).1));exact SnB.aN (Rd.to (Rd.bin (v:=.int ((lk T2 p.dst).getD 0)) (w:=.int 1) (Sn.aV .get (λ_ _=>rfl) (Rd.to (v:=.ref fo) () ⟨.dict hl',Rds.to (vs:=[.int p.dst,.int 0]) () (Meth.get hl' ⟨zDa T2 p.dst,rfl⟩)⟩)) .int (.add qA)) ⟨fo,_,p.dst,(),(),hl',zFe hc' (),λG2 x2 l2=>.nil (.next (.nil (kN (z:=z) (.mk (x'.fresh h1 x2) (by rw[l2];rw[zDO]) (zJI e hg') (uk (ul T2 _ _) hc'))).1))⟩)
  ·apply h;intro T2 x' hl' hg' _;exact SnB.aH (Rd.to (v:=.ref fo) () (kk fo G' h1 x' (by rw[hl'];rw[show T2=_ from hg'])))
end
section
variable {X:Cx}{n:Nat}{G:Gh}{sc:Scope}{os:List (Option Val)}{m:M}
def FaI {α:Type}(sc:Scope)(F:α->Option Val->List (Option Val))(G:Gh)(ps0:List PS)(J:List PS->Gh->Prop)(ss:List Addr)(m:M)(G':Gh):Prop:=
 ∀C:M->Prop,(∀(ps:List PS) (z:α) (y:Option Val),Zb G ss ps->(∀p∈ps,p∈ps0)->J ps G'->C (L sc (F z y)))->C m
theorem SnB.cR {α:Type}{z0:α}(F:α->Option Val->List (Option Val))(us:∀z y v,Upd false sc.names (F z y) "step" v (F z (some v)))
  (he:Rd X n sc e (L sc (F z0 y0)) G1 (.ref a)) (hs:Zb G as ps) (J:List PS->Gh->Prop) (kl:∀r G',J r G'->G' a=some (.list (as.map .ref))) (h0:J ps G1)
  (turn:∀p r z b G' (QT:QS),p∈ps->Zg G b p->J (p::r) G'->(∀{z y G2},J r G2->QT .next (L sc (F z y)) G2)->SnB X n sc body (L sc (F z (some (.ref b)))) G' QT) (k:∀z y G',J [] G'->SnB X n sc sts (L sc (F z y)) G' Q) (hfs:∀env x,foldedSetIterable e env x=pure x:=by intro _ _;rfl) :
  SnB X n sc (.For (.Name "step" p1) e body [] p2::sts) (L sc (F z0 y0)) G1 Q:=by
 refine SnB.forM .ref he (kl _ _ h0) (FaI sc F G ps J) (λ_ k=>k ps z0 y0 hs (λ_ h=>h) h0) (λr m G' hI=>hI (λ_=>_) λ_ _ _ _ _ h=>kl _ _ h) (λb ss m G2 QT hI kN _=>?_) (λm G2 hI=>?_) hfs
 ·apply hI;intro ps' z y hs hp hJ;revert hp hJ;apply hs.uc;intro p r s1 s2 hp hJ;exact⟨_,.name (Upd.put (us z y _)),turn p r z b G2 QT (hp _ (.head _)) s1 hJ λ{z y G3} h=>kN λ_ k=>k r z y s2 (λp h=>hp p (.tail _ h)) h⟩
 ·apply hI;intro ps z y hs _ hJ;cases hs.un;exact k z y G2 hJ
noncomputable def ye (ps:List PS):Zc:=ps.foldl (λl p=>st l p.dst (wI p.more)) []
noncomputable def zT (often:List (Int×Int))(s:Zc×Nat)(p:PS):Zc×Nat:=if (lk often p.dst).getD 0 == 1 then s else(s.1.filter λe=>decide (e.1≠p.dst),setb s.2 (wI p.more))
noncomputable def zK (pa:List Int)(ss:List PS):Zc×Nat:=(zg ss).foldl (zT (wu pa (ye (zg ss)) ss)) (ye (zg ss),0)
def Z6 (sl:Za)(p:PS):Prop:=p.op=9->∃i:Int,p.more=.int i/\0<=i/\i.toNat<sl.length
theorem zDv (l:Zc)(k:Int):((adE l).filter λkv=>decide (kv.1≠k))=adE (l.filter λe=>decide (e.1≠k)):=by unfold adE;rw[List.filter_map];rfl
theorem zn (h:p∈zg ss):p∈ss/\p.op=9:=by obtain⟨h1,h2⟩:=List.mem_filter.mp h;exact⟨h1,Nat.eq_of_beq_eq_true h2⟩
theorem ux (ps:List PS):∀(l:Zc) (j:Int),(j∈l.map (·.1)\/∃p∈ps,p.dst=j)->j∈(ps.foldl (λl p=>st l p.dst (wI p.more)) l).map (·.1):=by
 induction ps with
 | nil=>intro l j h;exact h.elim id λq=>q.elim λp q=>absurd q.1 not_mem_nil
 | cons p ps ih=>
  intro l j h;refine ih _ j ?_;rcases h with h | ⟨q,hq,rfl⟩
  ·exact .inl ((ju j).mpr (.inl h))
  ·rcases List.mem_cons.mp hq with rfl | hq
   ·exact .inl ((ju _).mpr (.inr rfl))
   ·exact .inr ⟨q,hq,rfl⟩
theorem zDR (rg:Zc)(ss:List PS):∀(T:List (Int×Int)) (j:Int),(j∈T.map (·.1)\/(j∈rg.map (·.1)/\∃p∈ss,p.dst=j))->j∈(ss.foldl (z5 rg) T).map (·.1):=by
 induction ss with
 | nil=>intro l j h;exact h.elim id λq=>q.2.elim λp q=>absurd q.1 not_mem_nil
 | cons p ss ih=>
  intro T j h;refine ih _ j ?_;have up:∀j,j∈T.map (·.1)->j∈(z5 rg T p).map (·.1):=λj h=>by
   unfold z5;split
   ·exact(ju j).mpr (.inl h)
   ·exact h
  rcases h with h | ⟨hr,q,hq,rfl⟩
  ·exact .inl (up _ h)
  ·rcases List.mem_cons.mp hq with rfl | hq
   ·refine .inl ?_;unfold z5;rw[if_pos ((wO _ _).mpr hr)];exact(ju _).mpr (.inr rfl)
   ·exact .inr ⟨hr,q,hq,rfl⟩
inductive OfR (G:Gh)(P:List (Int×Int)->Prop)(v:Val)(G':Gh):Prop where
 | mk (od:Addr) (O:List (Int×Int)) (e:v=.ref od) (h:G od=none) (x:Ext G G') (d:G' od=some (.dict (adE O))) (p:P O)
def SrA (G0:Gh)(sd ta so:Addr)(as:List Addr)(goal:Zc)(r:List PS)(G:Gh):Prop:=
 ∀C:Prop,(∀l:Zc,Ext G0 G->G sd=some (.dict (adE l))->r.foldl (λl p=>st l p.dst (wI p.more)) l=goal->Ze G ta 0->G so=some (.list (as.map .ref))->l.length+r.length<=900->C)->C
def SrB (G0:Gh)(sd ta so od:Addr)(as:List Addr)(often:List (Int×Int))(goal:Zc×Nat)(r:List PS)(G:Gh):Prop:=
 ∀C:Prop,(∀(l:Zc) (k:Nat),Ext G0 G->G sd=some (.dict (adE l))->Ze G ta k->G so=some (.list (as.map .ref))->G od=some (.dict (adE often))->r.foldl (zT often) (l,k)=goal->C)->C
theorem zE4 (h:ye ss=[]):ss=[]:=by
 cases ss with
 | nil=>rfl
 | cons p ps=>
  have:=ux (p::ps) [] p.dst (.inr ⟨p,.head _,rfl⟩);rw[show List.foldl _ _ (p::ps)=[] from h] at this;cases this
theorem zKF:(!(adE l).isEmpty)=false->l=[]:=by
 cases l with
 | nil=>exact λ_=>rfl
 | cons a l=>exact λe=>noB (Eq.symm e)
theorem zD7 (hm:p∈zg ss)(hO:zg ss=[]\/O=wu pr (ye (zg ss)) ss):∃v,lk O p.dst=some v:=Option.isSome_iff_exists.mp ((wO _ _).mpr (by
 rcases hO with q | q
 ·rw[q] at hm;cases hm
 ·rw[q];exact zDR _ _ _ _ (.inr ⟨ux _ _ _ (.inr ⟨p,hm,rfl⟩),p,(zn hm).1,rfl⟩)))
theorem nbt (h:(!b)=false):b=true:=Bool.not_eq_false' b▸h
theorem nbf (h:(!b)=true):b=false:=not_eq_true' b▸h
theorem zJu (hv:lk O p.dst=some v)(e:(!(v == 1))=false)(h:(p::r).foldl (zT O) s=goal):r.foldl (zT O) s=goal:=by rw[foldl_cons] at h;rw[show zT O s p=s from if_pos (by rw[hv];exact nbt e)] at h;exact h
theorem zIk (hv:lk O p.dst=some v)(hi:wI p.more=i)(e:(!(v == 1))=true)(h:(p::r).foldl (zT O) s=goal):r.foldl (zT O) (s.1.filter λe=>decide (e.1≠p.dst),setb s.2 i)=goal:=by rw[foldl_cons] at h;rw[show zT O s p=(s.1.filter λe=>decide (e.1≠p.dst),setb s.2 i) by rw[<-hi];exact if_neg (by rw[hv];exact λq=>Bool.false_ne_true ((nbf e).symm.trans q))] at h;exact h
theorem zKa (hg:l=ye (zg ss))(hO:zg ss=[]\/O=wu pr (ye (zg ss)) ss):(zg ss).foldl (zT O) (l,0)=zK pr ss:=by
 unfold zK;rw[hg];rcases hO with q | q
 ·rw[q];rfl
 ·rw[q]
theorem jv {pr:List Int}{sl:Za}{bls:List Addr}{Bs:List PB}(T:Tops X)(hf:Zh G f pr sl bls)(hB:Zd G 0 bls Bs)(ht:(zR Bs).length<=900)(hp:pr.length<=50)(hw:∀p∈zR Bs,Z6 sl p)(hsl:sl.length<=16)
  (kk:∀d t G',Ext G G'->G' d=some (.dict (adE (zK pr (zR Bs)).1))->Ze G' t (zK pr (zR Bs)).2->Q (.tup [.ref d,.ref t]) G'):Cal X (n+2) w6 [.ref f] G Q:=by
 refine Cal.start (T.d 12 rfl) rfl rfl ?_;refine SnB.aB (Sn.az λsd G1 h1 x1 d1=>⟨_,(),?_⟩);refine SnB.aB (Sn.ty (id:="set") T.blt () () () (λ_ _=>rfl) (Rds.nil.to (Blt.cL λta G2 h2 x2 s2=>⟨_,(),?_⟩)));have x12:=x1.trans x2;refine SnB.aB (Sn.ref (T.f 7 rfl) () (λ_ _=>rfl) (vs:=[.ref f]) () (zAY T hf hB x12 ht λso as G3 h3 x3 l3 s3 len3=>⟨_,(),?_⟩));have t0:=x1.none h2;have hlen:=s3.length;refine SnB.cR (α:=Unit) (z0:=Unit.unit) (λ_ y=>[some (.ref f),some (.ref sd),some (.ref ta),some (.ref so),y,none,none,none,none]) (λ_ _ _=>()) () s3 (SrA G sd ta so as (ye (zg (zR Bs)))) (λ_ _ h=>h _ λ_ _ _ _ _ h _=>h) (λ_ k=>k [] (x12.trans x3) (x3 _ _ (x2 _ _ d1)) rfl (s2.ext x3) l3 (le_trans (le_of_eq (zero_add _)) (hlen▸len3))) (λp r z b G4 QT hm hs hJ kN=>?_) λz y G4 hJ=>?_
 ·apply hJ;intro l x hl hg hta ho hc;obtain⟨⟨fs,la,e1,⟨f1,f2,f3,f4,f5,_⟩,e2⟩,so'⟩:=hs.ext x;refine zU (hw p (zn hm).1 (zn hm).2) λi q1 q2 q3=>?_;rw[q1] at f4;refine SnB.aN (Rd.to (v:=.int i) () ⟨sd,_,p.dst,(),(),hl,zFe hc (),λG5 x5 l5=>.nil (kN (z:=z) λ_ k=>k (st l p.dst (wI p.more)) (x.fresh h1 x5) ?_ hg (hta.cD x5 hl) (x5.kind hl ho) (uk (ul _ _ _) hc))⟩);rw[l5];rw[<-zDO];rw[q1];rfl
 ·apply hJ;intro l x hl hg hta ho _;have hg:l=ye (zg (zR Bs)):=hg;refine SnB.aB (Sn.mono (Q:=OfR G4 (λO=>zg (zR Bs)=[]\/O=wu pr l (zR Bs))) (Sn.ite (SnT.mono (RdT.val (v:=.ref sd) () (.dict hl)) λt G' ee=>?_)) λv G5 hO=>?_)
  ·obtain⟨e,e'⟩:=ee;subst e;subst e';refine⟨λe=>?_,λe=>?_⟩
   ·exact Sn.ref (T.f 8 rfl) () (λ_ _=>rfl) (vs:=[.ref f,.ref sd]) () (zBH T (hf.ext x) hl (hB.ext x) ht hp λod G5 h5 x5 d5=>.mk od _ rfl h5 x5 d5 (.inr rfl))
   ·exact Sn.az λod G5 h5 x5 d5=>.mk od [] rfl h5 x5 d5 (.inl (zE4 (hg.symm.trans (zKF e))))
  obtain⟨od,O,rfl,h5,x5,d5,hO⟩:=hO;have nsd:=ne_new hl h5;refine⟨_,(),?_⟩;refine SnB.cR (α:=Unit) (z0:=Unit.unit) (λ_ y=>[some (.ref f),some (.ref sd),some (.ref ta),some (.ref so),y,some (.ref od),none,none,none]) (λ_ _ _=>()) () s3 (SrB G sd ta so od as O (zK pr (zR Bs))) (λ_ _ h=>h _ λ_ _ _ _ _ h _ _=>h) (λ_ k=>k l 0 (x.trans x5) (x5 _ _ hl) (hta.ext x5) (x5 _ _ ho) d5 (zKa hg (hg▸hO))) (λp r z b G6 QT hm hs hJ kN=>?_) λz y G6 hJ=>?_
  ·apply hJ;intro l' k x' hl' hta' ho' hd' hg';obtain⟨⟨fs,la,e1,⟨f1,f2,f3,f4,f5,_⟩,e2⟩,so'⟩:=hs.ext x';refine zU (hw p (zn hm).1 (zn hm).2) λi q1 q2 q3=>?_;have hi:wI p.more=i:=by rw[q1];rfl
   rw[q1] at f4;obtain⟨v,hv⟩:=zD7 (pr:=pr) hm (hg▸hO);refine SnB.ifs (r:=!(v == 1)) (.cmp (.ax () hd' () (by rw[yK];rw[hv];rfl)) .int (.d6 qA)) (λe=>?_) λe=>.nil (.next (.nil (kN (z:=z) λ_ c=>c l' k x' hl' hta' ho' hd' (zJu hv e hg'))));refine SnB.expr (Sn.aV .add (λ_ _=>rfl) (Rd.to (v:=.ref ta) () ⟨hta'.has,Rds.to (vs:=[.int i]) () (Meth.bO hta' ⟨q2,lt_trans (toNat_lt q2 |>.mp (lt_of_lt_of_le q3 hsl)) ()⟩ λG7 x7 t7=>?_)⟩));have l7:=hta'.kind x7 hl';have e7:=hta'.kind x7 e1;refine SnB.expr (Sn.aV .cx (λ_ _=>rfl) (Rd.to (v:=.ref sd) () ⟨.dict l7,Rds.to (vs:=[.int p.dst,.none]) () (Meth.cx l7 ?_)⟩));have x8:Ext1 sd G7 (G7.upd sd (.dict ((adE l').filter λkv=>decide (kv.1≠p.dst)))):=.upd;exact .nil (.next (.nil (kN (z:=z) λ_ c=>c (l'.filter λe=>decide (e.1≠p.dst)) (setb k i) ((x'.fresh t0 x7).fresh h1 x8) (by rw[Gh.aA];rw[zDv]) (t7.cD x8 l7) (x8.kind l7 (hta'.kind x7 ho')) (x8 _ _ (Ne.symm nsd) (hta'.kind x7 hd')) (zIk hv hi e hg'))))
  ·apply hJ;intro l' k x' hl' hta' _ _ hg';have hg':(l',k)=zK pr (zR Bs):=hg';exact SnB.aH (Rd.to (v:=.tup [.ref sd,.ref ta]) () (kk sd ta G6 x' (by rw[<-hg'];exact hl') (by rw[<-hg'];exact hta')))
end
section
variable {X:Cx}{n:Nat}{G:Gh}{sc:Scope}{os:List (Option Val)}{m:M}
noncomputable def zN (sl:Za)(p:PS)(place:Nat)(slot:Int):Bool:=if !(Nat.beq p.op 1)||!(Nat.beq place 0)||p.vol then false else decide (wI p.more<=zP sl slot)
theorem jw {pr:List Int}{place:Nat}{slot:Int}(T:Tops X)(hf:Zh G f pr sl bls)(h:Zg G a p)(w:Zl p)(hs:0<=slot/\slot.toNat<sl.length)(hl:sl.length<=16)(k:Q (.bool (zN sl p place slot)) G):Cal X (n+1) w7 [.ref f,.ref a,.int place,.int slot] G Q:=by
 obtain⟨⟨fs,la,h1,⟨f1,f2,f3,f4,f5,_⟩,h2⟩,ho⟩:=id h;obtain⟨ff,pa,sa,ba,h3,⟨g1,g2,g3⟩,h4,h5,h6⟩:=hf;refine Cal.start (T.d 20 rfl) rfl rfl ?_;refine SnB.ifs (r:=!(Nat.beq p.op 1)||(!(Nat.beq place 0)||p.vol)) ?_ (λe=>.aR (Rd.to Rd.av ?_)) λe=>.aK ?_
 ·rw[<-zCq p.op ho];have e0:Nat.beq place 0=((place:Int) == 0):=by cases place<;>rfl
  rw[e0];refine RdT.or (RdT.cmp ?_ ?_ (.dZ qA)) λ_=>RdT.or (RdT.cmp ?_ ?_ (.d6 qA)) λ_=>RdT.bG (RdT.val ?_ (.bool _))<;>walk_at"r"
 ·have:zN sl p place slot=false:=if_pos (by rw[Bool.or_assoc];exact e);rw[<-this];exact k
 have e1:Nat.beq p.op 1=true:=by have:=(Bool.or_eq_false_iff.mp e).1;rw[Bool.not_eq_false'] at this;exact this
 obtain⟨_,wd,hm⟩:=w.store (Nat.eq_of_beq_eq_true e1);rw[hm] at f4;obtain⟨sz,hsz⟩:∃z,sl[slot.toNat]?=some z:=⟨_,getElem?_eq_getElem hs.2⟩
 have hc:zN sl p place slot=decide (wd<=sz.1):=by
  unfold zN zP;rw[if_neg (by rw[Bool.or_assoc,e];decide)];rw[hm];rw[hsz];rfl
 have hsv':((slot.toNat:Nat):Int)=slot:=toNat_of_nonneg hs.1;refine SnB.aH (Rd.to (Rd.cmp (v:=.int wd) () (Rd.aW (vs:=[.int sz.1,.int sz.2]) (Rd.aF (j:=slot) () h5 () (wD hs.1 (lt_of_lt_of_le hs.2 (le_trans hl ()))) (by have:=zY (f:=wX) hsz;rw[hsv'] at this;exact this)) .int () rfl) (.le qA)) (hc▸k))
noncomputable def wP (am:Zc)(t:Nat)(p:PS):Bool:=if !(Nat.beq p.op 1) then false else match p.args[0]? with
 | some o=>o.1&&(match lk am o.2 with | some s=>!zD t s | none=>false)
 | none=>false
theorem v9 {a ad ta:Addr}{am:Zc}{t:Nat}{p:PS}{Q:QE}(T:Tops X)(h:Zg G a p)(w:Zl p)(ha:G ad=some (.dict (adE am)))(ht:Ze G ta t)(k:Q (.bool (wP am t p)) G):Cal X (n+1) yW [.ref a,.ref ad,.ref ta] G Q:=by
 obtain⟨⟨fs,la,h1,⟨f1,f2,f3,f4,f5,_⟩,h2⟩,ho⟩:=id h;refine Cal.start (T.d 22 rfl) rfl rfl ?_;refine SnB.ifs (r:=!(Nat.beq p.op 1)) ?_ (λe=>.aR (Rd.to Rd.av ?_)) λe=>.aK ?_
 ·rw[<-zCq p.op ho];refine RdT.cmp ?_ ?_ (.dZ qA)<;>walk_at"r"
 ·have:wP am t p=false:=if_pos e;rw[<-this];exact k
 have e1:Nat.beq p.op 1=true:=by rw[Bool.not_eq_false'] at e;exact e
 obtain⟨hlen,_⟩:=w.store (Nat.eq_of_beq_eq_true e1);obtain⟨o,ho'⟩:∃o,p.args[0]?=some o:=⟨_,getElem?_eq_getElem hlen⟩
 refine' SnB.bB (v:=.str (rk o.1)) (w:=.int o.2) (Rd.aF ?h1 h2 .int () (zY ho')) ?h3 ?h4 ?h5
 case h1=>walk_at"r"
 case h3=>walk_at"r"
 case h4=>walk_at"r"
 have hc:wP am t p=(rk o.1 == Str.ofString "r"&&((zm (adE am) o.2).isSome&&(match lk am o.2 with | some s=>!zD t s | none=>false))):=by
  unfold wP;rw[if_neg (by rw[e];decide)];rw[ho'];rw[rk_r];rw[yn];show (o.1&&_)=(o.1&&_)
  cases lk am o.2<;>rfl
 refine SnB.aH (Rd.to ?_ (hc▸k));refine Rd.and (Rd.cmp () () (.bH qA)) λ_=>Rd.and (Rd.cmp () () (.inDict ha qA)) λhs=>Rd.aX ?_;rw[yn] at hs;obtain⟨sv,hsv⟩:=Option.isSome_iff_exists.mp hs;rw[hsv];exact .cmp (.ax () ha () (by rw[yK];rw[hsv];rfl)) () (.bZ ht)
end
section
variable {X:Cx}{n:Nat}{G:Gh}{sc:Scope}{os:List (Option Val)}{m:M}
theorem Rd.eO (h:Rd X n sc e m G (opdV o))(hs:∀x y,subscripted (.Constant (.int 0) k p) false x y=operate [x,y] (getItem x y):=by intro _ _;rfl):Rd X n sc (.Subscript e (.Constant (.int 0) k p) pos) m G (.str (rk o.1)):=Rd.aW (vs:=[.str (rk o.1),.int o.2]) h .int () rfl hs
theorem Rd.cX (h:Rd X n sc e m G (opdV o))(hs:∀x y,subscripted (.Constant (.int 1) k p) false x y=operate [x,y] (getItem x y):=by intro _ _;rfl):Rd X n sc (.Subscript e (.Constant (.int 1) k p) pos) m G (.int o.2):=Rd.aW (vs:=[.str (rk o.1),.int o.2]) h .int () rfl hs
noncomputable def enF {α:Type}(f:α->Val):Nat->List α->List Val
 | _,[]=>[]
 | i,x::r=>.tup [.int i,f x]::enF f (i+1) r
theorem zFS (f:α->Val)(l:List α):zBg (l.map f)=enF f 0 l:=by
 have:∀(l:List α) (k:Nat),((l.map f).zipIdx k).map (λp=>Val.tup [.int p.2,p.1])=enF f k l:=λl=>by
  induction l with
  | nil=>intro k;rfl
  | cons o l ih=>intro k;show _::_=_;rw[ih];rfl
 exact this l 0
inductive Yx {α:Type}(f:α->Val)(X:Cx)(n:Nat)(sc:Scope)(tgt:Expr)(body sts:List Stmt)(m:M)(Q:QS)(v:Val)(G':Gh):Prop where
 | mk (a:Addr) (as:List α) (e:v=.ref a) (e1:G' a=some (.list (as.map f))) (I:Nat->List α->M->Gh->Prop) (h0:I 0 as m G') (gd:∀i r m G',I i r m G'->G' a=some (.list (as.map f)))
  (turn:∀i x r m G (QT:QS),I i (x::r) m G->(∀{m G},I (i+1) r m G->QT .next m G)->(∀{v m G},Q (.ret v) m G->QT (.ret v) m G)->BT X n sc tgt (.tup [.int i,f x]) m body G QT) (z:∀i m G,I i [] m G->SnB X n sc sts m G Q)
theorem SnB.a9 (f:α->Val)(hx:Zv X)(hk:Zf sc "enumerate")(hn:Zj [e])(he:Sn X n sc e m G (Yx f X n sc (.Tuple ts k tp) body sts m Q))
  (hs:∀env x,foldedSetIterable (.Call (.Name "enumerate" p1) [e] [] p2) env x=pure x:=by intro _ _;rfl) (hp:∀env,starEach [e] env=(false,eval e env)::starEach [] env:=by intro _;rfl):SnB X n sc (.For (.Tuple ts k tp) (.Call (.Name "enumerate" p1) [e] [] p2) body [] pos::sts) m G Q:=by
 refine .cons (.cG (.enum hx hk hn (SnEs.cons (he.mono λv G' q=>?_) hp)) hs);obtain⟨a,as,e1,e2,I,h0,gd,turn,z⟩:=q;refine SnEs.nil ⟨a,as.map f,by rw[e1],e2,λxs m G=>∃i r,xs=enF f i r/\I i r m G,⟨λx xs m G hI=>?_,λm G hI=>?_⟩,⟨0,as,zFS f as,h0⟩⟩
 ·refine vq hI λi r e1 h=>?_;cases r with
  | nil=>cases e1
  | cons o r=>
   obtain⟨rfl,rfl⟩:=List.cons.inj e1;exact⟨gd _ _ _ _ h,turn i o r m G _ h (λh=>.next ⟨_,_,rfl,h⟩) λq=>.ret (.ret q)⟩
 ·refine vq hI λi r e1 h=>?_;cases r with
  | nil=>exact⟨gd _ _ _ _ h,.next (z i m G h)⟩
  | cons o r=>cases e1
theorem Blt.bV (e:Ze G l k)(h:∀c G',G c=none->Ext G G'->Ze G' c k->Q (.ref c) G'):Blt X n (.type "set") [.ref l] G Q:=by obtain⟨f,e⟩:=e;exact .cV e λc hc=>h c _ hc (.new hc) ⟨false,Gh.aA ..⟩
noncomputable def zu (sl:Za)(am:Zc)(p:PS)(i:Nat)(o:Opd)(t:Nat):Nat:=if o.1 then(match lk am o.2 with | some s=>if zN sl p i s then t else setb t s | none=>t) else t
noncomputable def z9 (sl:Za)(am:Zc)(p:PS):Nat->List Opd->Nat->Nat
 | _,[],t=>t
 | i,o::r,t=>z9 sl am p (i+1) r (zu sl am p i o t)
noncomputable def zl (sl:Za)(am:Zc)(t:Nat)(p:PS):Nat:=z9 sl am p 0 p.args t
noncomputable def zW (am:Zc)(t:Nat)(o:Opd):Nat:=if o.1 then(match lk am o.2 with | some s=>setb t s | none=>t) else t
noncomputable def zd (sl:Za)(am:Zc)(Bs:List PB)(t:Nat):Nat:=Bs.foldl (λt B=>B.fin.args.foldl (zW am) (B.steps.foldl (zl sl am) t)) t
def StJ (G0:Gh)(fo:Addr)(f:Nat->Nat)(goal:Nat)(G:Gh):Prop:=∀C:Prop,(∀t:Nat,Ext G0 G->Ze G fo t->f t=goal->C)->C
theorem StJ.mk {G0:Gh}{fo:Addr}{f:Nat->Nat}{goal t:Nat}(x:Ext G0 G)(hs:Ze G fo t)(hg:f t=goal):StJ G0 fo f goal G:=λ_ k=>k t x hs hg
theorem StJ.x (h:StJ G0 fo f goal G):Ext G0 G:=h _ λ_ x _ _=>x
theorem zH0 {o:Opd}{am:Zc}{f:Int->Nat}{t:Nat}(e:(o.1&&(lk am o.2).isSome)=false):(if o.1 then(match lk am o.2 with | some s=>f s | none=>t) else t)=t:=by
 cases h1:o.1 with
 | false=>rfl
 | true=>rw[h1] at e;cases h2:lk am o.2 with
  | none=>rfl
  | some s=>rw[h2] at e;cases e
theorem zKK {sl:Za}{am:Zc}{p:PS}{i t goal:Nat}{o:Opd}{r:List Opd}{g:Nat->Nat}(e:(o.1&&(lk am o.2).isSome)=false)(h:g (z9 sl am p i (o::r) t)=goal):g (z9 sl am p (i+1) r t)=goal:=by rw[show z9 sl am p i (o::r) t=z9 sl am p (i+1) r (zu sl am p i o t) from rfl] at h;rw[show zu sl am p i o t=t from zH0 e] at h;exact h
theorem zED {i t:Nat}{s:Int}{u:Nat}(q:o.1=true)(hs:lk am o.2=some s)(hu:(if zN sl p i s then t else setb t s)=u){g:Nat->Nat}{goal:Nat}(h:g (z9 sl am p i (o::r) t)=goal):g (z9 sl am p (i+1) r u)=goal:=by rw[show z9 sl am p i (o::r) t=z9 sl am p (i+1) r (zu sl am p i o t) from rfl] at h;rw[show zu sl am p i o t=u by unfold zu;rw[if_pos q,hs];exact hu] at h;exact h
theorem zKJ {am:Zc}{t goal:Nat}{o:Opd}{r:List Opd}{g:Nat->Nat}(e:(o.1&&(lk am o.2).isSome)=false)(h:g ((o::r).foldl (zW am) t)=goal):g (r.foldl (zW am) t)=goal:=by rw[foldl_cons] at h;rw[show zW am t o=t from zH0 e] at h;exact h
theorem zHf {t goal:Nat}{s:Int}{g:Nat->Nat}(q:o.1=true)(hs:lk am o.2=some s)(h:g ((o::r).foldl (zW am) t)=goal):g (r.foldl (zW am) (setb t s))=goal:=by rw[foldl_cons] at h;rw[show zW am t o=setb t s by unfold zW;rw[if_pos q,hs]] at h;exact h
theorem AdOK.small (hok:AdOK am sl)(h:lk am r=some s):0<=s/\s<32:=⟨(hok.lo _ _ h).1,by have:=(hok.lo _ _ h).2;have:=hok.few;lia⟩
noncomputable abbrev F5 (f ad tk fo:Addr)(z:Option Val×Option Val×Option Val×Option Val×Option Val)(x y:Option Val):List (Option Val):=[some (.ref f),some (.ref ad),some (.ref tk),some (.ref fo),x,y,z.1,z.2.1,z.2.2.1,z.2.2.2.1,z.2.2.2.2,none,none,none]
def TkI (F:Option Val×Option Val×Option Val×Option Val×Option Val->Option Val->Option Val->List (Option Val))(x:Option Val)(J:List Opd->Gh->Prop)(r:List Opd)(m:M)(G:Gh):Prop:=
 ∀C:M->Prop,(∀(z:Option Val×Option Val×Option Val×Option Val×Option Val) (y:Option Val),J r G->C (L wz (F z x y)))->C m
def TkE (F:Option Val×Option Val×Option Val×Option Val×Option Val->Option Val->Option Val->List (Option Val))(x y:Option Val)(J:Nat->List Opd->Gh->Prop)(i:Nat)(r:List Opd)(m:M)(G:Gh):Prop:=
 ∀C:M->Prop,(∀z:Option Val×Option Val×Option Val×Option Val×Option Val,J i r G->C (L wz (F z x y)))->C m
theorem vY {f ad ta:Addr}{pr:List Int}{sl:Za}{bls:List Addr}{Bs:List PB}{am:Zc}{t:Nat}{Q:QE}(T:Tops X)(hf:Zh G f pr sl bls)(hB:Zd G 0 bls Bs)(ok:FnOK Bs)(ha:G ad=some (.dict (adE am)))(hok:AdOK am sl)(ht:Ze G ta t)
  (kk:∀c G',G c=none->Ext G G'->Ze G' c (zd sl am Bs t)->Q (.ref c) G'):Cal X (n+2) yN [.ref f,.ref ad,.ref ta] G Q:=by
 refine Cal.start (T.d 21 rfl) rfl rfl ?_;refine SnB.aB (Sn.ty (id:="set") T.blt () () () (λ_ _=>rfl) (Rds.to (vs:=[.ref ta]) () (Blt.bV ht λfo G1 h1 x1 s1=>⟨_,(),?_⟩)));refine SnB.aa (z0:=(none,none,none,none,none)) T.cls (F5 f ad ta fo) (λ_ _ _ _=>()) (λ_ _ _ _=>()) (λ_ _ _=>()) (λ_ _ _=>()) hf hB (λCs=>StJ G fo (zd sl am Cs) (zd sl am Bs t)) (λB Cs r=>StJ G fo (λt=>zd sl am Cs (B.fin.args.foldl (zW am) (r.foldl (zl sl am) t))) (zd sl am Bs t))
  (.mk x1 s1 rfl) (λ_ _ h=>h.x) (λ_ _ _ _ h=>h.x) (λB Cs G' h=>h) (λB Cs p r z x a G' QT hB hp hs hJ kN=>?_) (λB Cs z y b fb eo G' QT hBm hb hfe he hJ kN=>?_) λz x y G' h=>?_
 ·apply hJ;intro t' x' s' hg;obtain⟨⟨fs,la,e1,⟨f1,f2,f3,f4,f5,_⟩,e2⟩,so⟩:=id hs;have hwf:=(ok.blks B hB).wf p hp;have e1':=x' _ _ e1;refine SnB.a9 opdV T.blt () (λ_ _=>rfl) (Rd.to (v:=.ref la) () ⟨la,p.args,rfl,x' _ _ e2,TkE (F5 f ad ta fo) x (some (.ref a)) (λi r'=>StJ G fo (λt=>zd sl am Cs (B.fin.args.foldl (zW am) (r.foldl (zl sl am) (z9 sl am p i r' t)))) (zd sl am Bs t)),λ_ k=>k z (.mk x' s' hg),λi r' m G2 hI=>hI (λ_=>_) λz h=>h.x _ _ e2,λi o r' m G2 QU hI kM _=>?_,λi m G2 hI=>by apply hI;intro z h;exact .nil (kN h).1⟩)
  ·apply hI;intro z hJ2;apply hJ2;intro t2 x2 s2 hg2;have a2:=x2 _ _ ha;refine⟨_,.tup (.two (os':=F5 f ad ta fo (some (.int i),z.2) x (some (.ref a))) (os'':=F5 f ad ta fo (some (.int i),some (opdV o),z.2.2) x (some (.ref a))) () ()),?_⟩;refine SnB.ifs (r:=o.1&&(lk am o.2).isSome) ?_ (λe=>?_) λe=>.nil (.next (.nil (kM λ_ k=>k _ (.mk x2 s2 (zKK (g:=λt=>zd sl am Cs (B.fin.args.foldl (zW am) (r.foldl (zl sl am) t))) e hg2)))))
   ·rw[<-rk_r o.1];rw[<-yn];exact RdT.and (.cmp (.eO ()) .str (.bH qA)) λ_=>RdT.aX (.cmp (.cX (o:=o) ()) () (.inDict a2 qA))
   ·obtain⟨q1,q2⟩:=Bool.and_eq_true_iff.mp e;obtain⟨s,hs'⟩:=Option.isSome_iff_exists.mp q2;have sm:=hok.small hs';refine SnB.assign (v:=.int s) (.ax () a2 (.cX (o:=o) ()) (by rw[yK];rw[hs'];rfl)) () ?_;refine SnB.ifs (r:=!zN sl p i s) (.not (.val (.ref (T.f 17 rfl) () (λ_ _=>rfl) (vs:=[.ref f,.ref a,.int i,.int s]) () (jw T (hf.ext x2) (hs.ext x2) hwf (hok.lo _ _ hs') hok.few qA)) (.bool _))) (λe'=>?_) λe'=>.nil (.next (.nil (.next (.nil (kM λ_ k=>k ((some (.int i)),some (opdV o),some (.int s),z.2.2.2) (.mk x2 s2 ?_))))))
    ·exact SnB.expr (Sn.aV .add (λ_ _=>rfl) (Rd.to (v:=.ref fo) () ⟨s2.has,Rds.to (vs:=[.int s]) () (Meth.bO s2 sm λG3 x3 s3=>.nil (.next (.nil (.next (.nil (kM λ_ k=>k ((some (.int i)),some (opdV o),some (.int s),z.2.2.2) (.mk (x2.fresh h1 x3) s3 (zED (g:=λt=>zd sl am Cs (B.fin.args.foldl (zW am) (r.foldl (zl sl am) t))) q1 hs' (if_neg (by rw[not_eq_true'] at e';rw[e'];decide)) hg2))))))))⟩))
    ·exact zED (g:=λt=>zd sl am Cs (B.fin.args.foldl (zW am) (r.foldl (zl sl am) t))) q1 hs' (if_pos (nbt e')) hg2
 ·apply hJ;intro t' x' s' hg;obtain⟨⟨es,la,e1,⟨f1,f2,f3,f4,f5,_⟩,e2⟩,so⟩:=id he;have e1':=x' _ _ e1;have hb':=x' _ _ hb;refine SnB.forM opdV (.attr T.cls .args (.attr T.cls .end_ () hb' hfe) e1' f3) (x' _ _ e2) (TkI (F5 f ad ta fo) (some (.ref b)) (λr=>StJ G fo (λt=>zd sl am Cs (r.foldl (zW am) t)) (zd sl am Bs t))) (λ_ k=>k z y (.mk x' s' hg)) (λr m G2 hI=>hI (λ_=>_) λz y h=>h.x _ _ e2) (λo r m G2 QU hI kM _=>?_) (λm G2 hI=>by apply hI;intro z y h;exact .nil (kN h))
  ·apply hI;intro z y hJ2;apply hJ2;intro t2 x2 s2 hg2;have a2:=x2 _ _ ha;refine⟨_,.tup (.two (os':=F5 f ad ta fo (z.1,z.2.1,z.2.2.1,some (.str (rk o.1)),z.2.2.2.2) (some (.ref b)) y) (os'':=F5 f ad ta fo (z.1,z.2.1,z.2.2.1,some (.str (rk o.1)),some (.int o.2)) (some (.ref b)) y) () ()),?_⟩;refine SnB.ifs (r:=o.1&&(lk am o.2).isSome) ?_ (λe=>?_) λe=>.nil (.next (.nil (kM λ_ k=>k _ _ (.mk x2 s2 (zKJ (g:=zd sl am Cs) e hg2)))))
   ·have e0:(o.1&&(lk am o.2).isSome)=((rk o.1 == Str.ofString "r")&&(zm (adE am) o.2).isSome):=by rw[rk_r];rw[yn]
    rw[e0];exact RdT.and (.cmp () .str (.bH qA)) λ_=>RdT.aX (.cmp () () (.inDict a2 qA))
   ·obtain⟨q1,q2⟩:=Bool.and_eq_true_iff.mp e;obtain⟨s,hs'⟩:=Option.isSome_iff_exists.mp q2;have hgt:=zHf (g:=zd sl am Cs) q1 hs' hg2;exact SnB.expr (Sn.aV .add (λ_ _=>rfl) (Rd.to (v:=.ref fo) () ⟨s2.has,Rds.to (vs:=[.int s]) (.cons (.ax () a2 () (by rw[yK];rw[hs'];rfl)) .nil) (Meth.bO s2 (hok.small hs') λG3 x3 s3=>.nil (.next (.nil (kM λ_ k=>k _ _ (.mk (x2.fresh h1 x3) s3 hgt)))))⟩))
 ·apply h;intro t' x' s' hg;have hg:t'=_:=hg;exact SnB.aH (Rd.to (v:=.ref fo) () (kk fo G' h1 x' (hg▸s')))
end
section
variable {X:Cx}{n:Nat}{G:Gh}{sc:Scope}{os:List (Option Val)}{m:M}
noncomputable def zq (am:Zc)(t:Nat)(ss:List PS):List PS:=ss.filter λp=>!wP am t p
noncomputable def chS (am:Zc)(t:Nat)(B:PB):Bool:=Nat.blt (zq am t B.steps).length B.steps.length
noncomputable def swS (am:Zc)(t:Nat)(B:PB):PB:=if chS am t B then withSt B (zq am t B.steps) else B
theorem jr {F:PB->PB}{p:Int->Bool}{Bs:List PB}:∀{i:Int},(zX F p i Bs).length=Bs.length:=by
 induction Bs with
 | nil=>exact rfl
 | cons B Bs ih=>exact congrArg (· + 1) ih
theorem zEm:i<i+((k+1:Nat):Int):=by lia
theorem zEJ {F:PB->PB}{p q:Int->Bool}{Bs:List PB}:∀{i:Int},(∀j,i<=j->j<i+Bs.length->p j=q j)->zX F p i Bs=zX F q i Bs:=by
 induction Bs with
 | nil=>exact λ_=>rfl
 | cons B Bs ih=>intro i h;show _::_=_::_;rw[h i (Int.le_refl i) zEm];rw[ih λj hj hj'=>h j (Int.le_of_lt hj) (zB9▸hj':j<i+((Bs.length+1:Nat):Int))]
theorem zF3 {c:PB->Bool}{p q:Int->Bool}{Bs:List PB}:∀{i:Int},(∀j,i<=j->j<i+Bs.length->p j=q j)->zf c p i Bs=zf c q i Bs:=by
 induction Bs with
 | nil=>exact λ_=>rfl
 | cons B Bs ih=>intro i h;show (_||_)=(_||_);rw[h i (Int.le_refl i) zEm];rw[ih λj hj hj'=>h j (Int.le_of_lt hj) (zB9▸hj':j<i+((Bs.length+1:Nat):Int))]
theorem jq {F:PB->PB}{p:Int->Bool}{P:PB->Prop}(hF:∀B,P B->P (F B)){Bs:List PB}:∀{i:Int},(∀B∈Bs,P B)->∀B∈zX F p i Bs,P B:=by
 induction Bs with
 | nil=>exact λ_=>zH
 | cons B Bs ih=>exact λ{i} h=>zB (by cases q:p i;exact h _ (.head _);exact hF _ (h _ (.head _))) (ih (zL h))
theorem FnOK.sw {F:PB->PB}{p:Int->Bool}{Bs:List PB}(ok:FnOK Bs)(hF:∀B,BOK Bs.length B->BOK Bs.length (F B)):FnOK (zX F p 0 Bs):=by refine⟨by rw[jr];exact ok.one,by rw[jr];exact ok.few,?_⟩;rw[jr];exact jq hF ok.blks
theorem BOK.withSt (h:BOK N B)(hl:ss.length<=B.steps.length)(hs:∀p∈ss,Zl p):BOK N (withSt B ss):=⟨le_trans hl h.len,hs,h.ends,h.ways,h.goals⟩
noncomputable def wK (p:PS):PS:=⟨p.op,-1,p.args,p.more,false⟩
theorem vw {P:PS->Prop}(hP:∀p,P p->wT p.op=true->P (wK p)){k:Nat}(h:∀p∈ss,P p):(jX sl am ss ends k).length<=ss.length/\∀q∈jX sl am ss ends k,P q.1:=by
 have key:∀(ts:List PS) (s:Nat×List (PS×Bool)) (N:Nat),(∀p∈ts,P p)->s.2.length<=N->(∀q∈s.2,P q.1)->(ts.foldl (zI sl am) s).2.length<=N+ts.length/\∀q∈(ts.foldl (zI sl am) s).2,P q.1:=λts=>by
  induction ts with
  | nil=>exact λs N _ h1 h2=>⟨h1,h2⟩
  | cons p ts ih=>
   intro s N h h1 h2;rw[foldl_cons];rw[length_cons];rw[Nat.add_comm ts.length];rw[<-add_assoc];have hp:=h p (.head _);refine ih _ _ (zL h) ?_ ?_
   ·unfold zI;split
    ·split
     ·exact le_succ_of_le h1
     ·exact succ_le_succ h1
    ·split
     ·exact le_succ_of_le h1
     ·split
      ·exact succ_le_succ h1
      ·exact succ_le_succ h1
   ·unfold zI;split
    ·split
     ·exact h2
     ·exact zB hp h2
    ·split
     ·exact h2
     ·split
      ·rename_i hc;exact zB (hP p hp (Bool.and_eq_true_iff.mp hc).2) h2
      ·exact zB hp h2
 have:=key ss.reverse (addA k ends,[]) 0 (λp hp=>h p (List.mem_reverse.mp hp)) (le_refl _) zH;rw[length_reverse] at this;rw[zero_add] at this;exact this
theorem Zl.freed (h:Zl p)(hc:wT p.op=true):Zl (wK p):=by have e:p.op=3\/p.op=4:=(Bool.or_eq_true_iff.mp hc).imp Nat.eq_of_beq_eq_true Nat.eq_of_beq_eq_true;refine⟨λq=>h.div q,λq=>?_,λq=>?_,λq=>?_,h.few,h.regs⟩<;>(have q:p.op=_:=q;lia)
theorem FnOK.swB {sl:Za}{am:Zc}{AH:List (Int×Nat)}{p:Int->Bool}{Bs:List PB}(ok:FnOK Bs):FnOK (zX (swB sl am AH) p 0 Bs):=ok.sw λB h=>by
 unfold Mine.Internal.swB;split
 ·obtain⟨h1,h2⟩:=vw (sl:=sl) (am:=am) (λp w c=>Zl.freed w c) (ends:=B.fin.args) (k:=zJ AH B.ways) h.wf;refine h.withSt (by rw[length_map];exact h1) λp hp=>?_;refine zC (List.mem_map.mp hp) λq hq eq2=>?_;subst eq2;exact h2 q hq
 ·exact h
end
section
variable {X:Cx}{n:Nat}{G:Gh}{sc:Scope}{os:List (Option Val)}{m:M}
abbrev stL (f ad tk:Addr)(c:Bool)(b k:Option Val):M:=L yc [some (.ref f),some (.ref ad),some (.ref tk),some (.bool c),b,k,none,none]
noncomputable def upTo (i:Nat):Int->Bool:=λj=>decide (j<i)
def SoI (G0:Gh)(f ad tk:Addr)(bls:List Addr)(Bs:List PB)(am:Zc)(t:Nat)(r:List Addr)(m:M)(G:Gh):Prop:=
 ∀C:M->Prop,(∀(i:Nat) (c:Bool) (b k:Option Val),r=bls.drop i->ExtB bls G0 G->Zd G 0 bls (zX (swS am t) (upTo i) 0 Bs)->c=zf (chS am t) (upTo i) 0 Bs->C (stL f ad tk c b k))->C m
theorem SoI.mk {G0:Gh}{f ad tk:Addr}{bls:List Addr}{Bs:List PB}{am:Zc}{t:Nat}{r:List Addr}{c:Bool}{b k:Option Val}(i:Nat)(e1:r=bls.drop i)(x:ExtB bls G0 G)(hB:Zd G 0 bls (zX (swS am t) (upTo i) 0 Bs))(hc:c=zf (chS am t) (upTo i) 0 Bs):SoI G0 f ad tk bls Bs am t r (stL f ad tk c b k) G:=λ_ h=>h i c b k e1 x hB hc
structure CoI (G0:Gh)(am:Zc)(t:Nat)(goal:List PS)(N:Nat)(r:List PS)(ks:List Addr)(G:Gh):Prop where
 e:G0=G
 w:∀p∈r,Zl p
 h:∃qs,Zb G0 ks qs/\qs++zq am t r=goal
 l:ks.length+r.length<=N
theorem zEt (h:wP am t p=false):zq am t (p::r)=p::zq am t r:=List.filter_cons_of_pos (p:=λp=>!wP am t p) (by rw[h];rfl)
theorem zEu (h:wP am t p=true):zq am t (p::r)=zq am t r:=List.filter_cons_of_neg (p:=λp=>!wP am t p) (by rw[h];decide)
theorem zBA (i:Nat):orp (upTo i) (i:Int)=upTo (i+1):=by
 funext j
 show (decide (j<(i:Int))||decide (j=(i:Int)))=decide (j<((i+1:Nat):Int));rw[Bool.eq_iff_iff];rw[or_eq_true];rw[decide_eq_true_iff];rw[decide_eq_true_iff];rw[decide_eq_true_iff];exact Int.le_iff_lt_or_eq.symm.trans Int.lt_add_one_iff.symm
theorem um {f ad ta:Addr}{pr:List Int}{sl:Za}{bls:List Addr}{Bs:List PB}{am:Zc}{t:Nat}{Q:QE}(T:Tops X)(hf:Zh G f pr sl bls)(hB:Zd G 0 bls Bs)(hnd:bls.Nodup)(ok:FnOK Bs)(ha:G ad=some (.dict (adE am)))(hok:AdOK am sl)(ht:Ze G ta t)
  (k1:am.isEmpty=true->Q (.bool false) G) (k2:am.isEmpty=false->∀G',ExtB bls G G'->Zd G' 0 bls (zX (swS am (zd sl am Bs t)) (λ_=>true) 0 Bs)->Q (.bool (zf (chS am (zd sl am Bs t)) (λ_=>true) 0 Bs)) G'):Cal X (n+3) yB [.ref f,.ref ad,.ref ta] G Q:=by
 refine Cal.start (T.d 23 rfl) rfl rfl ?_;refine SnB.ifs (r:=!(!(adE am).isEmpty)) (.not (.val (v:=.ref ad) () (.dict ha))) (λe=>.aR (Rd.to Rd.av (k1 ?_))) λe=>.aK ?_
 ·cases am with
  | nil=>rfl
  | cons _ _=>cases e
 have hne:am.isEmpty=false:=by
  cases am with
  | nil=>cases e
  | cons _ _=>rfl
 refine SnB.aB (Sn.ref (T.f 18 rfl) () (λ_ _=>rfl) (vs:=[.ref f,.ref ad,.ref ta]) () (vY T hf hB ok ha hok ht λtk G1 h1 x1 s1=>⟨_,(),?_⟩));generalize zd sl am Bs t=t2 at *;refine SnB.assign (v:=.bool false) .av () ?_;have hf1:=hf.ext x1;have x1':=x1.bP (bls:=bls);have hB1:=hB.ext x1;have ha1:=x1 _ _ ha;obtain⟨ff,fp,fl,fb,f1,⟨g1,g2,g3⟩,f2,f3,f4⟩:=id hf1;have hlen:=hB1.length;have e0:∀{i:Int},0<=i->upTo 0 i=false:=λh=>decide_eq_false (Int.not_lt.mpr h);clear hB ha hf x1 h1 ht hok k1 e f2 g1 g2 hf1;refine SnB.forM .ref () f4 (SoI G1 f ad tk bls Bs am t2) (.mk 0 rfl .refl (by rw[y4 (q:=λ_=>false) λj hj=>e0 hj];rw[uh];exact hB1) (by rw[ym (q:=λ_=>false) λj hj=>e0 hj];rw[vP])) (λr m G' hI=>hI (λ_=>_) λ_ _ _ _ _ x _ _=>x _ _ (hB1.off f4 rfl) f4) (λb r m G2 QT hI hN hR=>?_) λm G2 hI=>?_
 ·apply hI;intro i c bv kv e3 x hb hc;have hlt:i<bls.length:=lt_of_not_le λq=>by rw[drop_eq_nil_of_le q] at e3;cases e3
  rw[List.drop_eq_getElem_cons hlt] at e3;obtain⟨eb,er⟩:=List.cons.inj e3;have hb0:bls[i]?=some b:=by rw[getElem?_eq_getElem hlt];rw[eb]
  have hB0:Bs[i]?=some (Bs[i]'(hlen▸hlt)):=getElem?_eq_getElem _;generalize (Bs[i]'(hlen▸hlt))=B at hB0;have hBm:=ok.blks B (mem_of_getElem? hB0);have hcur:=yw (F:=swS am t2) (p:=upTo i) (i:=0) hB0;rw[if_neg (by rw[Int.zero_add];rw[show upTo i (i:Int)=false from decide_eq_false (Int.lt_irrefl _)];decide)] at hcur;obtain⟨b',hb0',⟨sts,eo,hb1,hb2,hb3,hb4⟩⟩:=hb.get hcur;rw[hb0] at hb0';obtain rfl:b=b':=Option.some.inj hb0';rw[Int.zero_add] at hb1;have hbm:=mem_of_getElem? hb0;obtain⟨fbb,stl,q1,⟨b1,b2,b3⟩,q3⟩:=id hb1;have hsl:=hb2.length;have hcp:sts.length<cap:=by rw[hsl];exact lt_of_le_of_lt hBm.len ()
  have ha2:=x _ _ (hB1.off ha1 rfl) ha1;have hs2:Ze G2 tk t2:=by obtain⟨fr,s⟩:=s1;exact⟨fr,x _ _ (hB1.off s rfl) s⟩
  refine⟨_,.name (Upd.put ()),.cons (SnS.aQ (by decide +kernel) (.seq (Rd.to (v:=.ref stl) () ⟨_,_,.list q3,by rw[length_map];exact hcp,_,.cap (sc':=j4) [none,none,none,some (.ref ad),some (.ref tk)] (.stM G2 .ref (CoI G2 am t2 (zq am t2 B.steps) B.steps.length) (λa p ps ks G3 P1 P2 s1' hI k1 k2'=>?_) (λks G3 hI=>?_)) ?_,⟨sts,[],rfl,rfl,B.steps,hb2,rfl,hBm.wf,⟨[],.nil,rfl⟩,le_of_eq (zero_add _)⟩⟩)))⟩
  ·obtain⟨rfl,hw,⟨qs,hk,hg⟩,hl⟩:=hI;refine⟨q3,_,Upd.aM (),.cons (SnT.mono (RdT.not (t:=wP am t2 p) (.val (.ref (T.f 19 rfl) () (λ_ _=>rfl) (vs:=[.ref a,.ref ad,.ref tk]) () (v9 T s1' (hw p (.head _)) ha2 hs2 qA)) (.bool _))) λtt G' ee=>?_)⟩;obtain⟨rfl,rfl⟩:=ee;refine⟨λe=>.nil ⟨λ_=>Rd.to (v:=.ref a) () (k1 ⟨rfl,zL hw,⟨qs++[p],hk.snoc s1',?_⟩,by rw[length_append];rw[length_singleton];rw[add_assoc];rw[Nat.add_comm 1];exact hl⟩),λq=>nomatch q⟩,λe=>⟨(λq=>nomatch q),λ_=>k2' ⟨rfl,zL hw,⟨qs,hk,?_⟩,le_of_succ_le hl⟩⟩⟩
   ·rw[not_eq_true'] at e;rw[zEt e] at hg;rw[<-hg];rw[append_assoc];rfl
   ·rw[Bool.not_eq_false'] at e;rw[zEu e] at hg;exact hg
  ·obtain⟨rfl,_,⟨qs,hk,hg⟩,hl⟩:=hI;obtain rfl:qs=zq am t2 B.steps:=by rw[<-hg];exact(append_nil qs).symm
   refine⟨q3,λkp hkp=>⟨_,Upd.put (),.next ?_⟩⟩;have x4:=Ext.new (o:=.list (ks.map .ref)) hkp;have l4:=Gh.aA G2 kp (.list (ks.map .ref));generalize G2.upd kp (.list (ks.map .ref))=G4 at x4 l4;have q1':=x4 _ _ q1;have next:∀(c':Bool) (G5:Gh),Ext1 b G4 G5->c'=(c||chS am t2 B)->Ym G5 b i (swS am t2 B)->QT .next (stL f ad tk c' (some (.ref b)) (some (.ref kp))) G5:=λc' G5 x5 ec hbk=>hN (.mk (i+1) er (x.trans (x4.bP.trans (x5.bP hbm))) (by rw[<-zBA];exact(hb.ext x4).one x5 q1' hb0 hnd (by rw[Int.zero_add]) λB' q=>by rw[hB0] at q;cases q;exact hbk) (by rw[ec];rw[hc];rw[<-zBA];rw[zBk (j:=(i:Int)) (i:=0) hB0 (by rw[Int.zero_add])]))
   have hC:decide (((ks.map Val.ref).length:Int)<((sts.map Val.ref).length:Int))=chS am t2 B:=by rw[length_map];rw[length_map];rw[hk.length];rw[hsl];exact zFX
   refine SnB.ifs (r:=chS am t2 B) (hC▸RdT.cmp (.fn (id:="len") T.blt () () () (λ_ _=>rfl) (vs:=[.ref kp]) () (Blt.aw l4 (by rw[length_map];exact lt_of_le_of_lt hl (hsl▸hcp)) qA)) (.fn (id:="len") T.blt () () () (λ_ _=>rfl) (vs:=[.ref stl]) () (Blt.aw (x4 _ _ q3) (by rw[length_map];exact hcp) qA)) (.lt qA)) (λe=>?_) λe=>.nil (.next (.nil (next c G4 .refl (by rw[e];rw[Bool.or_false]) ?_)))
   ·refine SnB.aY (f:=.steps) T.cls () (v:=.ref kp) () () q1' λG5 x5 e5=>SnB.assign (v:=.bool true) .av () (.nil (.next (.nil (next true G5 x5 (by rw[e];rw[Bool.or_true]) ?_))));have kk:=x5.nb q1';rw[show swS am t2 B=withSt B (zq am t2 B.steps) from if_pos e];exact⟨ks,eo,⟨_,kp,e5,⟨b1,rfl,b3⟩,kk _ _ rfl l4⟩,(hk.ext x4).map λ_ _ s=>s.keep kk,(hb3.ext x4).keep kk,(hb4.ext x4).keep kk⟩
   ·rw[show swS am t2 B=B from if_neg (by rw[e];decide)];exact⟨sts,eo,hb1.ext x4,hb2.ext x4,hb3.ext x4,hb4.ext x4⟩
  ·exact capn (capn (capn (capv ⟨by walk_at"0",by walk_at"0",()⟩ (capv ⟨by walk_at"0",by walk_at"0",()⟩ cap0))))
 ·apply hI;intro i c bv kv e1 x hb hc;have hi2:bls.length<=i:=List.drop_eq_nil_iff.mp e1.symm;have hall:∀j:Int,0<=j->j<0+Bs.length->upTo i j=true:=λj h0 h1=>decide_eq_true (Int.lt_of_lt_of_le (by rwa [Int.zero_add] at h1) (Int.ofNat_le.mpr (hlen▸hi2)));rw[zEJ hall] at hb;rw[zF3 hall] at hc;exact SnB.aH (Rd.to (v:=.bool c) () (hc▸k2 hne G2 (x1'.trans x) hb))
end
section
variable {X:Cx}{n:Nat}{G:Gh}{sc:Scope}{os:List (Option Val)}{m:M}
inductive A2P (X:Cx)(n:Nat)(sc:Scope)(os:List (Option Val))(x y:Str)(sts:List Stmt)(Q:QS)(v:Val)(G':Gh):Prop where
 | mk (v1 v2:Val) (os' os'':List (Option Val)) (e:v=.tup [v1,v2]) (u1:Upd false sc.names os x v1 os') (u2:Upd false sc.names os' y v2 os'') (q:SnB X n sc sts (L sc os'') G' Q)
theorem SnB.bt (h:Sn X n sc e (L sc os) G (A2P X n sc os x y sts Q))
  (hsw:∀env,swapsWithSole [.Tuple [.Name x p1,.Name y p2] k p] e pos.line env=pure false:=by intro _;rfl) (hw:∀env,swappedStores [.Tuple [.Name x p1,.Name y p2] k p] e env=pure .none:=by intro _;rfl):SnB X n sc (.Assign [.Tuple [.Name x p1,.Name y p2] k p] e pos::sts) (L sc os) G Q:=
 .cons (.aP (h.mono λv G' q=>by obtain⟨v1,v2,os',os'',rfl,u1,u2,q⟩:=q;exact⟨_,.tup (.two u1 u2),.next q⟩) hsw hw)
theorem zHg {β:Type}{P:β->Prop}{l:List (Int×β)}{k:Int}{v:β}(h:∀e∈l,P e.2)(hv:P v):∀e∈st l k v,P e.2:=λe he=>(zEk he).elim (h e) λq=>q▸hv
theorem zHv {sl:Za}{pa:List Int}{ss:List PS}(hw:∀p∈ss,Z6 sl p)(hs:sl.length<=16):AdOK (zK pa ss).1 sl:=by
 have h1:∀(ps:List PS) (l:Zc),(∀p∈ps,p∈ss/\p.op=9)->(∀e∈l,0<=e.2/\e.2.toNat<sl.length)->∀e∈ps.foldl (λl p=>st l p.dst (wI p.more)) l,0<=e.2/\e.2.toNat<sl.length:=λps=>by
  induction ps with
  | nil=>exact λ_ _ h=>h
  | cons p ps ih=>
   intro l hp h;refine ih _ (zL hp) (zHg (P:=λi:Int=>0<=i/\i.toNat<sl.length) h ?_);obtain⟨q1,q2⟩:=hp p (.head _);refine zC (hw p q1 q2) λi e z=>?_;rw[e];exact z
 have h2:∀(O:List (Int×Int)) (ps:List PS) (s:Zc×Nat),(∀e∈s.1,0<=e.2/\e.2.toNat<sl.length)->∀e∈(ps.foldl (zT O) s).1,0<=e.2/\e.2.toNat<sl.length:=λO ps=>by
  induction ps with
  | nil=>exact λ_ h=>h
  | cons p ps ih=>
   intro s h;refine ih _ ?_;unfold zT;split
   ·exact h
   ·exact λe he=>h e (List.mem_filter.mp he).1
 refine⟨λk s e=>?_,hs⟩
 have:=h2 (wu pa (ye (zg ss)) ss) (zg ss) (ye (zg ss),0) (h1 _ [] (λp h=>zn h) λe h=>nomatch h);unfold zB2 at e;refine zC (Option.map_eq_some_iff.mp e) λkv h3 h4=>?_;rw[<-h4];exact this kv (List.mem_of_find?_eq_some h3)
noncomputable def vy (sl:Za)(R:Zc×Nat)(Bs:List PB)(c:Bool):List PB×Bool:=
 if R.1.isEmpty then(Bs,c) else(zX (swS R.1 (zd sl R.1 Bs R.2)) (λ_=>true) 0 Bs,c||zf (chS R.1 (zd sl R.1 Bs R.2)) (λ_=>true) 0 Bs)
noncomputable def w9 (sl:Za)(R:Zc×Nat)(AH:List (Int×Nat))(Bs:List PB):List PB×Bool:=
 vy sl R (zX (swB sl R.1 AH) (λi=>(lk AH i).isSome) 0 Bs) (zf (λB=>chgB (zx sl R.1 AH B) B) (λi=>(lk AH i).isSome) 0 Bs)
theorem FnOK.swS {am:Zc}{t:Nat}{p:Int->Bool}{Bs:List PB}(ok:FnOK Bs):FnOK (zX (swS am t) p 0 Bs):=ok.sw λB h=>by
 unfold Mine.Internal.swS;split
 ·exact h.withSt (length_filter_le _ _) λp hp=>h.wf p (List.mem_filter.mp hp).1
 ·exact h
theorem zAX {pr:List Int}{sl:Za}{bls:List Addr}{Bs:List PB}{W0:List Int}{AH:List (Int×Nat)}(T:Tops X)(hf:Zh G f pr sl bls)(hB:Zd G 0 bls Bs)(hnd:bls.Nodup)(ok:FnOK Bs)(ht:(zR Bs).length<=900)(hp:pr.length<=50)(hw:∀p∈zR Bs,Z6 sl p)(hsl:sl.length<=16)
  (hpo:zD6 Bs=some W0) (hW:PoOK Bs W0) (hL:∀l∈zp Bs,l.length<=16) (hgo:naGo sl (zK pr (zR Bs)).1 Bs (zp Bs) 100 W0 0 (AH0 W0) (IW0 W0)=some AH)
  (kk:∀G',ExtB bls G G'->Zd G' 0 bls (w9 sl (zK pr (zR Bs)) AH Bs).1->Q (.bool (w9 sl (zK pr (zR Bs)) AH Bs).2) G'):Cal X (n+7) yo [.ref f] G Q:=by
 refine Cal.start (T.d 24 rfl) rfl rfl ?_;have hok:=zHv (pa:=pr) hw hsl;refine SnB.bt (Sn.ref (T.f 9 rfl) () (λ_ _=>rfl) (vs:=[.ref f]) () (jv T hf hB ht hp hw hsl λad ta G1 x1 a1 s1=>⟨.ref ad,.ref ta,_,_,rfl,(),(),?_⟩));generalize zK pr (zR Bs)=R at *;refine SnB.aB (Sn.ref (T.f 16 rfl) () (λ_ _=>rfl) (vs:=[.ref f,.ref ad]) () (v4 T (hf.ext x1) a1 hok (hB.ext x1) hnd ok hpo hW hL hgo λG2 x2 hB2=>⟨_,(),?_⟩));have hB1:=hB.ext x1;have a2:=x2 _ _ (hB1.off a1 rfl) a1;have s2:Ze G2 ta R.2:=by obtain⟨fr,s⟩:=s1;exact⟨fr,x2 _ _ (hB1.off s rfl) s⟩
 have hf2:=(hf.ext x1).bh hB1 x2;have x12:ExtB bls G G2:=x1.bP.trans x2;have ok2:=FnOK.swB (sl:=sl) (am:=R.1) (AH:=AH) (p:=λi=>(lk AH i).isSome) ok;unfold w9 at kk;generalize zX (swB sl R.1 AH) (λi=>(lk AH i).isSome) 0 Bs=Bs1 at *;generalize zf (λB=>chgB (zx sl R.1 AH B) B) (λi=>(lk AH i).isSome) 0 Bs=c1 at *;refine .cons (.ifs (.val (Sn.ref (T.f 20 rfl) () (λ_ _=>rfl) (vs:=[.ref f,.ref ad,.ref ta]) () (um T hf2 hB2 hnd ok2 a2 hok s2 (λe=>⟨false,.bool _,(λq=>Bool.noConfusion q),λ_=>.aK ?_⟩) λhne G3 x3 hB3=>⟨_,.bool _,λe=>?_,λe=>.aK ?_⟩))))
 ·have e':vy sl R Bs1 c1=(Bs1,c1):=if_pos e;rw[e'] at kk;exact SnB.aH (Rd.to (v:=.bool c1) () (kk G2 x12 hB2))
 all_goals
  have e':vy sl R Bs1 c1=(zX (swS R.1 (zd sl R.1 Bs1 R.2)) (λ_=>true) 0 Bs1,c1||zf (chS R.1 (zd sl R.1 Bs1 R.2)) (λ_=>true) 0 Bs1):=if_neg (by rw[hne];decide);rw[e'] at kk;rw[e] at kk;have kk:=kk G3 (x12.trans x3) hB3
 ·rw[Bool.or_true] at kk;exact SnB.assign (v:=.bool true) .av () (.aK (SnB.aH (Rd.to (v:=.bool true) () kk)))
 ·rw[Bool.or_false] at kk;exact SnB.aH (Rd.to (v:=.bool c1) () kk)
end
section
variable {X:Cx}{n:Nat}{G:Gh}{sc:Scope}{os:List (Option Val)}{m:M}
inductive RowV (G:Gh)(p:PS)(v:Val):Prop where
 | mk (la:Addr) (e:v=.tup [.str (opS p.op),.int p.dst,.ref la,p.more,.bool p.vol]) (h:G la=some (.list (p.args.map opdV))) (ho:p.op<36)
inductive Zk (G:Gh):List PS->List Val->Prop where
 | nil:Zk G [] []
 | cons {p:PS} {ps:List PS} {v:Val} {vs:List Val}:RowV G p v->Zk G ps vs->Zk G (p::ps) (v::vs)
inductive RowL (G:Gh)(ps:List PS)(a:Addr):Prop where
 | mk (vs:List Val) (e:G a=some (.list vs)) (h:Zk G ps vs)
theorem RowV.ext (h:RowV G p v)(x:Ext G G'):RowV G' p v:=by obtain⟨la,e,h,ho⟩:=h;exact⟨la,e,x _ _ h,ho⟩
theorem Zk.ext (h:Zk G ps vs)(x:Ext G G'):Zk G' ps vs:=by
 induction h with
 | nil=>exact .nil
 | cons a _ ih=>exact .cons (a.ext x) ih
theorem RowL.ext (h:RowL G ps a)(x:Ext G G'):RowL G' ps a:=by obtain⟨vs,e,h⟩:=h;exact⟨vs,x _ _ e,h.ext x⟩
theorem Zk.append (h:Zk G ps vs)(k:Zk G qs ws):Zk G (ps++qs) (vs++ws):=by
 induction h with
 | nil=>exact k
 | cons a _ ih=>exact .cons a ih
theorem Zk.length (h:Zk G ps vs):vs.length=ps.length:=by
 induction h with
 | nil=>rfl
 | cons _ _ ih=>exact congrArg (· + 1) ih
theorem Sn.dJ {Q:QE}{k:Cls}{fi:Addr}{id:Str}{es:List Expr}{vs:List Val}{p pos:Pos}(hc:Zx X id k fi)(hco:Z0 X)(hk:Zf sc id)(hn:Zj es)(h:Rds X n sc es m G vs)
  (q:∀a G',G a=none->Ext G G'->G' a=some (.inst k λ_=>none)->Cal X n fi (.ref a::vs) G' λv G2=>v=.none/\Q (.ref a) G2):Sn X n sc (.Call (.Name id p) es [] pos) m G Q:=
 Sn.new hc hco hk hn (h.to λa ha=>q a _ ha (.new ha) (Gh.aA ..))
inductive SAP (X:Cx)(n:Nat)(sc:Scope)(o:Expr)(f:Fld)(sts:List Stmt)(m:M)(Q:QS)(v:Val)(G₁:Gh):Prop where
 | mk (a:Addr) (c:Cls) (fs:Fld->Option Val) (h1:Rd X n sc o m G₁ (.ref a)) (h2:G₁ a=some (.inst c fs)) (q:∀G',Ext1 a G₁ G'->G' a=some (.inst c (fput fs f v))->SnB X n sc sts m G' Q)
theorem SnB.ay (hc:Z0 X)(ha:Zr attr f)(h:Sn X n sc e m G (SAP X n sc o f sts m Q))
  (hsw:∀env,swapsWith e (some (.Attribute o attr p)) pos.line env=pure false:=by intro _;rfl):SnB X n sc (.Assign [.Attribute o attr p] e pos::sts) m G Q:=
 .cons (.setAttr hc f ha.eq (h.mono λv G1 q=>by obtain⟨a,c,fs,ho,e1,k⟩:=q;exact ho.to ⟨a,c,fs,rfl,e1,.next (k _ .upd (Gh.aA ..))⟩) hsw)
theorem Sn.newBlock (T:Tops X)(hk:Zf sc "Block")(hn:Zj [e])(h:Rds X (n+1) sc [e] m G [.int i])
  (k:∀b st fs G',G b=none->G st=none->b≠st->Ext G G'->G' b=some (.inst .block fs)->fs .number=some (.int i)->fs .steps=some (.ref st)->G' st=some (.list [])->Q (.ref b) G'):Sn X (n+1) sc (.Call (.Name "Block" p) [e] [] pos) m G Q:=by refine Sn.dJ T.f_Block T.cls hk hn h λb G1 hb x1 b1=>?_;refine Cal.start (T.d 1 rfl) rfl rfl ?_;refine SnB.aY (f:=.number) T.cls () () () b1 λG2 x2 b2=>?_;refine SnB.ay (f:=.steps) T.cls () (Sn.aJ .nil λst G3 hst x3 s3=>⟨b,.block,_,(),x3 _ _ b2,λG4 x4 b4=>?_⟩);refine SnB.aY (f:=.end_) T.cls () (v:=.none) () () b4 λG5 x5 b5=>?_;have x12:=x1.fresh hb x2;have bs:=ne_new b2 hst;exact .nil (.next ⟨rfl,k b st _ G5 hb (x12.none hst) bs ((x12.trans x3).fresh hb (x4.trans x5)) b5 rfl rfl (x5 _ _ (Ne.symm bs) (x4 _ _ (Ne.symm bs) s3))⟩)
theorem Sn.bE {es:List Expr}{s:PS}(T:Tops X)(hk:Zf sc "Step")(hn:Zj es)(h:SnEs X (n+1) sc es m G λvs G1=>∃la,vs=[.str (opS s.op),.int s.dst,.ref la,s.more]/\∀a fs G',G1 a=none->Ext G1 G'->Zu fs ⟨s.op,s.dst,s.args,s.more,false⟩ la->G' a=some (.inst .step fs)->Q (.ref a) G') :
  Sn X (n+1) sc (.Call (.Name "Step" p) es [] pos) m G Q:=Sn.new T.f_Step T.cls hk hn ⟨λhy=>h.use hy λys s₁ vs G1 hv hy1 f₁ q=>.mk vs G1 hv hy1.hr f₁ (by obtain⟨la,e,k⟩:=q;subst e;exact λa ha=>zEP T λfs hfs=>⟨rfl,k a fs _ ha (.new ha) hfs (Gh.aA ..)⟩)⟩
end
section
noncomputable def Sub (a b:Nat):Prop:=∀r:Nat,a.testBit r=true->b.testBit r=true
theorem Sub.refl {a:Nat}:Sub a a:=λ_ h=>h
theorem Sub.trans {a b c:Nat}(h:Sub a b)(k:Sub b c):Sub a c:=λr q=>k r (h r q)
theorem Sub.or {a b c d:Nat}(h:Sub a b)(k:Sub c d):Sub (a ||| c) (b ||| d):=λr q=>by
 rw[Nat.testBit_or,or_eq_true] at q ⊢;exact q.elim (λq=>.inl (h r q)) λq=>.inr (k r q)
theorem Sub.setb {a b:Nat}(h:Sub a b)(k:Int):Sub (setb a k) (setb b k):=h.or .refl
theorem u7 {a:Nat}(k:Int):Sub a (Mine.Internal.setb a k):=λr q=>by
 unfold Mine.Internal.setb;rw[Nat.testBit_or];rw[q];rfl
theorem Sub.addA:∀{a b:Nat},Sub a b->Sub (addA a args) (addA b args):=by
 induction args with
 | nil=>exact λh=>h
 | cons o l ih=>
  intro a b h;refine ih (a:=if o.1 then Mine.Internal.setb a o.2 else a) (b:=if o.1 then Mine.Internal.setb b o.2 else b) ?_;split
  ·exact h.setb _
  ·exact h
theorem yy:∀{a:Nat},Sub a (Mine.Internal.addA a args):=by
 induction args with
 | nil=>exact Sub.refl
 | cons o l ih=>
  intro a;refine Sub.trans ?_ (ih (a:=if o.1 then Mine.Internal.setb a o.2 else a));split
  ·exact u7 _
  ·exact .refl
theorem yL {m:Nat}{k:Int}(h:zD m k=true)(r:Nat):(clrb m k).testBit r=(m.testBit r&&!decide (k.toNat=r)):=by
 unfold zD at h;obtain⟨_,h⟩:=Bool.and_eq_true_iff.mp h;unfold clrb;rw[Nat.testBit_xor];rw[Nat.testBit_two_pow];by_cases q:k.toNat=r
 ·subst q;rw[h];simp
 ·rw[decide_eq_false q];simp
theorem wE {a b:Nat}(h:Sub a b){k:Int}(q:zD a k=true):zD b k=true:=by unfold zD at q ⊢;obtain⟨q1,q2⟩:=Bool.and_eq_true_iff.mp q;exact Bool.and_eq_true_iff.mpr ⟨q1,h _ q2⟩
theorem Sub.needStep {ad:Zc}{a b:Nat}(h:Sub a b):Sub (needStep sl ad a p) (needStep sl ad b p):=by
 unfold Mine.Internal.needStep;cases qa:zD a p.dst with
 | true=>
  rw[wE h qa];rw[if_pos rfl];rw[if_pos rfl];refine Sub.addA λr q=>?_;rw[yL qa] at q;rw[yL (wE h qa)];obtain⟨q1,q2⟩:=Bool.and_eq_true_iff.mp q;exact Bool.and_eq_true_iff.mpr ⟨h _ q1,q2⟩
 | false=>
  rw[if_neg Bool.false_ne_true];cases qb:zD b p.dst with
  | false=>
   rw[if_neg Bool.false_ne_true];split
   ·exact h
   ·exact h.addA
  | true=>
   have ne:∀r,a.testBit r=true->(clrb b p.dst).testBit r=true:=λr q=>by
    rw[yL qb];rw[h r q];rw[Bool.true_and];rw[not_eq_true'];rw[decide_eq_false_iff_not];intro e;unfold zD at qa qb;rw[(Bool.and_eq_true_iff.mp qb).1] at qa;rw[e] at qa;rw[q] at qa;cases qa
   rw[if_pos rfl];split
   ·exact Sub.trans ne yy
   ·exact Sub.addA ne
theorem Sub.needP {ad:Zc}{a b:Nat}(h:Sub a b):Sub (needP sl ad ps en a) (needP sl ad ps en b):=by
 unfold Mine.Internal.needP;have key:∀(l:List PS) {a b:Nat},Sub a b->Sub (l.foldl (Mine.Internal.needStep sl ad) a) (l.foldl (Mine.Internal.needStep sl ad) b):=λl=>by
  induction l with
  | nil=>exact λh=>h
  | cons p l ih=>exact λh=>ih h.needStep
 exact key _ h.addA
end
section
variable {X:Cx}{n:Nat}{G:Gh}{sc:Scope}{os:List (Option Val)}{m:M}
theorem Blt.ak (e:G a=some (.list xs))(hl:xs.length<=2000)(q:NewL xs G Q):Blt X n (.type "list") [.ref a] G Q:=Blt.cQ e (lt_of_le_of_lt hl ()) q.nl
inductive EndV (G:Gh)(e:PS)(v:Val):Prop where
 | mk (el:Addr) (h:v=.tup [.str (opS e.op),.ref el,e.more]) (ha:G el=some (.list (e.args.map opdV))) (ho:e.op<36)
theorem EndV.ext (h:EndV G e v)(x:Ext G G'):EndV G' e v:=by obtain⟨el,h,ha,ho⟩:=h;exact⟨el,h,x _ _ ha,ho⟩
inductive RLs (G:Gh):List (List PS)->List Addr->Prop where
 | nil:RLs G [] []
 | cons {ps:List PS} {a:Addr} {qs:List (List PS)} {as:List Addr}:RowL G ps a->RLs G qs as->RLs G (ps::qs) (a::as)
theorem RLs.map (h:RLs G qs as)(k:∀ps a,RowL G ps a->RowL G' ps a):RLs G' qs as:=by
 induction h with
 | nil=>exact .nil
 | cons a _ ih=>exact .cons (k _ _ a) ih
theorem RLs.snoc (h:RLs G qs as)(r:RowL G ps a):RLs G (qs++[ps]) (as++[a]):=by
 induction h with
 | nil=>exact .cons r .nil
 | cons a _ ih=>exact .cons a ih
theorem RLs.length (h:RLs G qs as):as.length=qs.length:=by
 induction h with
 | nil=>rfl
 | cons _ _ ih=>exact congrArg (· + 1) ih
end
section
variable {X:Cx}{n:Nat}{G:Gh}{sc:Scope}{os:List (Option Val)}{m:M}
noncomputable def y3:Val->PyData
 | .bool b=>.bool b
 | .int i=>.int i
 | .str x=>.str x
 | _=>.none
noncomputable def jE:Val->PyData
 | .tup vs=>.tuple (vs.map y3)
 | v=>y3 v
noncomputable def opdD (o:Opd):PyData:=.tuple [.str (rk o.1),.int o.2]
noncomputable def psD (p:PS):PyData:=.tuple [.str (opS p.op),.int p.dst,.list (p.args.map opdD),jE p.more,.bool p.vol]
noncomputable def zGE (ps:List PS):PyData:=.list (ps.map psD)
noncomputable def lsD (qs:List (List PS)):PyData:=.list (qs.map zGE)
inductive Atom:Val->Prop where
 | none:Atom .none
 | bool (b:Bool):Atom (.bool b)
 | int (i:Int):Atom (.int i)
 | str (x:Str):PyData.strOk x=true->Atom (.str x)
inductive Zi:Val->Prop where
 | atom {v:Val}:Atom v->Zi v
 | tup {vs:List Val}:(∀v∈vs,Atom v)->Zi (.tup vs)
theorem Atom.rd (h:Atom v):RD G k v (y3 v):=by
 cases h with
 | none=>exact .none
 | bool b=>exact .bool b
 | int i=>exact .int i
 | str x h=>exact .str h
theorem Zi.rd (h:Zi v):RD G (k+1) v (jE v):=by
 cases h with
 | atom h=>
  have e:jE v=y3 v:=by cases h<;>rfl
  rw[e];exact h.rd
 | @tup vs h=>
  have:RDs G k vs (vs.map y3):=by
   have:=RDs.map (G:=G) (n:=k) id y3 vs λv hv=>(h v hv).rd;rw[map_id] at this;exact this
  exact .aU this
theorem zIK:∀k<36,PyData.strOk (opS k)=true:=by decide +kernel
theorem zKS:∀b,PyData.strOk (rk b)=true:=by decide +kernel
theorem zCp (o:Opd)(k:Nat):RD G (k+1) (opdV o) (opdD o):=.aU (.cons (.str (zKS _)) (.cons (.int _) .nil))
theorem RowV.rd (h:RowV G p v)(hm:Zi p.more):RD G (k+3) v (psD p):=by obtain⟨la,rfl,h,ho⟩:=h;exact .aU (.cons (.str (zIK _ ho)) (.cons (.int _) (.cons (.aS h (.map _ _ _ λo _=>zCp o k)) (.cons hm.rd (.cons (.bool _) .nil)))))
theorem Zk.rd (h:Zk G ps vs):(∀p∈ps,Zi p.more)->RDs G (k+3) vs (ps.map psD):=by
 induction h with
 | nil=>exact λ_=>.nil
 | cons a _ ih=>exact λhm=>.cons (a.rd (hm _ (.head _))) (ih (zL hm))
theorem RowL.rd (h:RowL G ps a)(hm:∀p∈ps,Zi p.more):RD G (k+4) (.ref a) (zGE ps):=by obtain⟨vs,e,h⟩:=h;exact .aS e (h.rd hm)
theorem RLs.rd (h:RLs G qs as):(∀ps∈qs,∀p∈ps,Zi p.more)->RDs G (k+4) (as.map .ref) (qs.map zGE):=by
 induction h with
 | nil=>exact λ_=>.nil
 | cons a _ ih=>exact λhm=>.cons (a.rd (hm _ (.head _))) (ih (zL hm))
noncomputable def eqL {α:Type}(f:α->α->Bool):List α->List α->Bool
 | [],[]=>true
 | a::l,b::r=>f a b&&eqL f l r
 | _,_=>false
theorem zC6 {α:Type}{P:α->Prop}{f:α->α->Bool}{g:α->PyData}(h:∀a b,P a->P b->(g a).eqv (g b)=f a b)(l:List α):∀r:List α,(∀a∈l,P a)->(∀a∈r,P a)->PyData.eqvAll (l.map g) (r.map g)=eqL f l r:=by
 induction l with
 | nil=>intro r _ _;cases r<;>rfl
 | cons a l ih=>
  intro r hl hr;cases r with
  | nil=>rfl
  | cons b r=>
   show (PyData.eqv (g a) (g b)&&PyData.eqvAll (l.map g) (r.map g))=(f a b&&eqL f l r)
   rw[h a b (hl _ (.head _)) (hr _ (.head _))];rw[ih r (zL hl) (zL hr)]
noncomputable def zC5 (a b:Opd):Bool:=(a.1 == b.1)&&(a.2 == b.2)
noncomputable def eqP (p q:PS):Bool:=Nat.beq p.op q.op&&((p.dst == q.dst)&&(eqL zC5 p.args q.args&&((jE p.more).eqv (jE q.more)&&(p.vol == q.vol))))
theorem zHT:∀a<36,∀b<36,(opS a == opS b)=Nat.beq a b:=by decide +kernel
theorem zJU:∀a b,(rk a == rk b)=(a == b):=by decide +kernel
theorem zAt (a b:Opd):(opdD a).eqv (opdD b)=zC5 a b:=by show ((rk a.1 == rk b.1)&&((a.2 == b.2)&&true))=_;rw[zJU];rw[Bool.and_true];rfl
theorem zHY (p q:PS)(hp:p.op<36)(hq:q.op<36):(psD p).eqv (psD q)=eqP p q:=by show ((opS p.op == opS q.op)&&((p.dst == q.dst)&&(PyData.eqvAll (p.args.map opdD) (q.args.map opdD)&&((jE p.more).eqv (jE q.more)&&((p.vol == q.vol)&&true)))))=_;rw[zHT _ hp _ hq];rw[zC6 (P:=λ_=>True) (f:=zC5) (λa b _ _=>zAt a b) _ _ (λ_ _=>trivial) (λ_ _=>trivial)];rw[Bool.and_true];rfl
noncomputable def eqLs (a b:List (List PS)):Bool:=eqL (eqL eqP) a b
def Yq (qs:List (List PS)):Prop:=∀ps∈qs,∀p∈ps,p.op<36
theorem zId (a b:List (List PS))(ha:Yq a)(hb:Yq b):(lsD a).eqv (lsD b)=eqLs a b:=
 zC6 (P:=λps:List PS=>∀p∈ps,p.op<36) (f:=eqL eqP) (g:=zGE) (λl r hl hr=>zC6 (P:=λp:PS=>p.op<36) zHY l r hl hr) a b ha hb
theorem Zk.ops (h:Zk G ps vs):∀p∈ps,p.op<36:=by
 induction h with
 | nil=>exact zH
 | cons a _ ih=>obtain⟨_,_,_,ho⟩:=a;exact zB ho ih
theorem RLs.ops (h:RLs G qs as):Yq qs:=by
 induction h with
 | nil=>exact zH
 | cons a _ ih=>obtain⟨_,_,h⟩:=a;exact zB h.ops ih
def Z4 (qs:List (List PS)):Prop:=∀ps∈qs,∀p∈ps,Zi p.more
theorem RLs.dO (h:RLs G qs as)(e:G a=some (.list (as.map .ref)))(hm:Z4 qs):RD G (k+5) (.ref a) (lsD qs):=.aS e (h.rd hm)
theorem Op2.cZ (h1:RLs G qs as)(e1:G a=some (.list (as.map .ref)))(m1:Z4 qs)(h2:RLs G rs bs)(e2:G b=some (.list (bs.map .ref)))(m2:Z4 rs):O2 X n (compareOp .NotEq) (.ref a) (.ref b) G (.bool (!eqLs qs rs)):=
 Op2.ne (h1.dO (k:=7) e1 m1) (h2.dO (k:=7) e2 m2) ⟨by rw[zId _ _ h1.ops h2.ops],rfl⟩
end
section
section
variable {β:Type}
theorem in4 (h0:0<=s)(h1:s<4):s∈([0,1,2,3]:List Int):=by obtain⟨k,rfl⟩:=Int.eq_ofNat_of_zero_le h0;exact(by decide:∀k<4,((k:Nat):Int)∈([0,1,2,3]:List Int)) k (Int.ofNat_lt.mp h1)
theorem i4 {i:Int}(h0:0<=i)(h1:i<4):i=0\/i=1\/i=2\/i=3:=by obtain⟨k,rfl⟩:=Int.eq_ofNat_of_zero_le h0;exact(by decide:∀k<4,((k:Nat):Int)=0\/((k:Nat):Int)=1\/((k:Nat):Int)=2\/((k:Nat):Int)=3) k (Int.ofNat_lt.mp h1)
theorem i3 {i:Int}(h0:0<=i)(h1:i<3):i=0\/i=1\/i=2:=by obtain⟨k,rfl⟩:=Int.eq_ofNat_of_zero_le h0;exact(by decide:∀k<3,((k:Nat):Int)=0\/((k:Nat):Int)=1\/((k:Nat):Int)=2) k (Int.ofNat_lt.mp h1)
theorem w5 (e:Int×β)(l:List (Int×β))(k:Int):lk (e::l) k=if e.1=k then some e.2 else lk l k:=by
 unfold lk;rw[find?_cons];by_cases h:e.1=k
 ·rw[decide_eq_true h];rw[if_pos h];rfl
 ·rw[decide_eq_false h];rw[if_neg h]
theorem zAm (l:List (Int×β))(k j:Int)(v:β):lk (st l k v) j=if j=k then some v else lk l j:=by
 unfold st;by_cases a:l.any (λe=>decide (e.1=k))=true
 ·rw[if_pos a];induction l with
  | nil=>cases a
  | cons e l ih=>
   rw[map_cons];rw[w5];rw[w5];by_cases h:e.1=k
   ·rw[if_pos h];by_cases q:j=k
    ·rw[if_pos q];rw[if_pos (h.trans q.symm)]
    ·rw[if_neg q];rw[if_neg (λz=>q (z.symm.trans h))];rw[if_neg (λz=>q (z.symm.trans h))];clear ih a;induction l with
     | nil=>rfl
     | cons e' l ih=>
      rw[map_cons];rw[w5];rw[w5];rw[ih];by_cases h':e'.1=k
      ·rw[if_pos h'];rw[if_neg (λz=>q (z.symm.trans h'))];rw[if_neg (λz=>q (z.symm.trans h'))]
      ·rw[if_neg h']
   ·rw[if_neg h];rw[ih (by rw[any_cons,decide_eq_false h] at a;exact a)];by_cases q:j=k
    ·rw[if_pos q];rw[if_neg (λz=>h (z.trans q))];rw[if_pos q]
    ·rw[if_neg q];rw[if_neg q]
 ·rw[if_neg a];induction l with
  | nil=>rw[List.nil_append];rw[w5];exact ite_congr (propext eq_comm) (λ_=>rfl) λ_=>rfl
  | cons e l ih=>
   rw[any_cons] at a;rw[or_eq_true] at a;rw[not_or] at a;have h:e.1≠k:=λz=>a.1 (decide_eq_true z);rw[List.cons_append];rw[w5];rw[w5];rw[ih a.2];by_cases q:j=k
   ·rw[if_pos q];rw[if_neg (λz=>h (z.trans q))];rw[if_pos q]
   ·rw[if_neg q];rw[if_neg q]
end
abbrev Kn:=List (Int×(Int×Option Int))
abbrev Me:=List (Int×Int)
abbrev Note:=Option (Nat×List Int×Val)×List Int
abbrev Nx:=List Note×Nat
abbrev MSt:=Kn×Me×Nx
abbrev Gv:=List (Int×Option Int)
noncomputable def sz:Int:=4294967296
noncomputable def argT (kn:Kn)(o:Opd):Option (Int×Option Int):=if o.1 then(lk kn o.2).bind λe=>if Int.fmod e.1 sz=e.1 then some e else none else some (o.2,none)
noncomputable def wL (kn:Kn)(args:List Opd):Option Gv:=args.foldr (λo a=>(argT kn o).bind λv=>a.map (v::·)) (some [])
noncomputable def getM (m:Me)(a:Int):Int:=(lk m a).getD 0
noncomputable def getW (m:Me)(at_:Int)(w:Nat):Int:=(List.range w).foldl (λ(v:Int) (i:Nat)=>v+getM m (at_+i) * 256 ^ i) 0
noncomputable def getS (m:Me)(at_:Int)(w:Nat)(sg:Bool):Int:=if sg&&decide (getW m at_ w >= Int.fdiv (256 ^ w) 2) then getW m at_ w - 256 ^ w else getW m at_ w
noncomputable def putM (m:Me)(at_:Int)(w:Nat)(v:Int):Me:=(List.range w).foldl (λm (i:Nat)=>st m (at_+i) (Int.fmod (Int.fdiv v (256 ^ i)) 256)) m
noncomputable def home (s:Int):Int:=3000000000+1000000 * s
theorem yi (h0:0<=s):3000000000<=home s:=Int.le_add_of_nonneg_right (Int.mul_nonneg () h0)
noncomputable def zBG (i:Nat)(sl:Za):List (Int×Int):=List.rec (motive:=λ_=>Nat->List (Int×Int)) (λ_=>[]) (λp _ r i=>(home i,p.1)::r (i+1)) sl i
noncomputable def zBF (sl:Za):List (Int×Int):=[(0,4),(8192,8)]++zBG 0 sl
noncomputable def th1 (a w:Int)(p:Int×Int):Bool:=decide (p.1<=a)&&decide (a+w<=p.1+p.2)
noncomputable def z7 (sl:Za)(a w:Int):Bool:=(zBF sl).any (th1 a w)
noncomputable def hiB (v s:Int):Bool:=decide (home s<=v)&&decide (v<home s+8)
noncomputable def offE (E:Nat)(v:Int):Bool:=([0,1,2,3]:List Int).all λs=>zD E s||!hiB v s
noncomputable def okA (E:Nat)(e:Int×Option Int):Bool:=e.2.elim (offE E e.1) λs=>(decide (0<=s)&&decide (s<4))&&decide (e.1=home s)
abbrev Eff:=Option (Option ((Int×Option Int)×Me×Nx))
noncomputable def g0 (g:Gv):Int×Option Int:=g.getD 0 (0,none)
noncomputable def g1 (g:Gv):Int×Option Int:=g.getD 1 (0,none)
noncomputable def zGV (op:Nat)(g:Gv)(more:Val)(v:Int):Note:=(some (op,g.map (·.1),more),[v])
noncomputable def accE (op:Nat)(g:Gv)(more:Val)(vol:Bool)(v:Int)(mem:Me)(nx:Nx):Eff:=some (some ((v,none),mem,if vol then(nx.1++[zGV op g more v],nx.2) else nx))
noncomputable def sgP:Val->Bool
 | .tup [_,.bool b]=>b
 | _=>false
noncomputable def uG (sl:Za)(g:Gv)(more:Val)(vol:Bool)(mem:Me)(nx:Nx):Eff:=if okA nx.2 (g0 g) then(if z7 sl (g0 g).1 (zCT more) then accE 0 g more vol (getS mem (g0 g).1 (zCT more).toNat (sgP more)) mem nx else some none) else none
noncomputable def escE (E:Nat)(t:Option Int):Nat:=t.elim E (setb E)
noncomputable def stOK (g:Gv):Bool:=(g1 g).2.isNone||(g0 g).2.elim true λs=>decide (3<=s)
noncomputable def wU (sl:Za)(g:Gv)(more:Val)(vol:Bool)(mem:Me)(nx:Nx):Eff:=if okA nx.2 (g0 g)&&stOK g then(if z7 sl (g0 g).1 (wI more) then accE 1 g more vol 0 (putM mem (g0 g).1 (wI more).toNat (g1 g).1) (nx.1,escE nx.2 (g1 g).2) else some none) else none
noncomputable def zc (sl:Za)(mem:Me)(a:Int)(w:Nat)(d:Int):Int:=if z7 sl a w then getW mem a w else d
noncomputable def farV (sl:Za)(mem:Me)(a:Int):Int:=zc sl mem a 4 0
noncomputable def seeV (sl:Za)(mem:Me)(a:Int)(k:Nat):Int:=zc sl mem a 1 300 * 5+zc sl mem (farV sl mem a) 1 400+k
noncomputable def seeN (sl:Za)(mem:Me)(a:Int):Note:=(none,[a,zc sl mem a 1 300,farV sl mem a,zc sl mem (farV sl mem a) 1 400])
noncomputable def jm (sl:Za)(g:Gv)(mem:Me)(nx:Nx):Eff:=if decide ((g0 g).1=20000) then(if okA nx.2 (g1 g)&&offE nx.2 (farV sl mem (g1 g).1) then some (some ((seeV sl mem (g1 g).1 (nx.1.length+1),none),mem,(nx.1++[seeN sl mem (g1 g).1],nx.2))) else none) else some none
noncomputable def arV (op:Nat)(g:Gv):Int:=if op=13 then(g0 g).1+(g1 g).1 else if op=14 then(g0 g).1 - (g1 g).1 else if op=18 then Builtin.bitXor (g0 g).1 (g1 g).1 else(g0 g).1
noncomputable def effT (sl:Za)(p:PS)(g:Gv)(mem:Me)(nx:Nx):Eff:=
 if p.op=0 then uG sl g p.more p.vol mem nx else if p.op=1 then wU sl g p.more p.vol mem nx
 else if p.op=9 then some (some ((home (wI p.more),some (wI p.more)),mem,nx)) else if p.op=12 then some (some ((20000,none),mem,nx)) else if p.op=4 then jm sl g mem nx else some (some ((arV p.op g,none),mem,nx))
noncomputable def setK (kn:Kn)(d:Int)(e:Int×Option Int):Kn:=if 0<=d then st kn d (Int.fmod e.1 sz,e.2) else kn
noncomputable def zBs (sl:Za)(p:PS)(s:MSt):Option (Option MSt):=(wL s.1 p.args).bind λg=>(effT sl p g s.2.1 s.2.2).map λo=>o.map λr=>(setK s.1 p.dst r.1,r.2.1,r.2.2)
noncomputable def runS (sl:Za)(ps:List PS):MSt->Option (Bool×MSt):=ps.foldr (λp k s=>(zBs sl p s).bind λo=>o.elim (some (false,s)) k) λs=>some (true,s)
abbrev Out1:=Val×List Note×Int×Int
noncomputable def outT (v:Val)(s:MSt):Out1:=(v,s.2.2.1,getW s.2.1 8192 8,getW s.2.1 0 4)
noncomputable def endV (e:PS)(kn:Kn):Option Int:=if e.op=32 then some 0 else(wL kn e.args).map λg=>(g0 g).1
noncomputable def wayI (e:PS)(v:Int):Nat:=if e.op=32 then 0 else if v=0 then 1 else 0
noncomputable def runG (sl:Za)(Bs:List PB)(k:Nat):Int->MSt->Option Out1:=
 Nat.rec (motive:=λ_=>Int->MSt->Option Out1) (λ_ s=>some (outT (.str "long") s)) (λ_ go i s=>(Bs[i.toNat]?).bind λB=>(runS sl B.steps s).bind λr=>
  if r.1 then(endV B.fin r.2.1).bind λv=>if B.fin.op=35 then some (outT (.int v) r.2) else(B.ways[wayI B.fin v]?).bind λj=>go j r.2
  else some (outT (.str "outside") r.2)) k
theorem ja (sl:Za)(Bs:List PB)(k:Nat)(i:Int)(s:MSt):runG sl Bs (k+1) i s=(Bs[i.toNat]?).bind λB=>(runS sl B.steps s).bind λr=>
  if r.1 then(endV B.fin r.2.1).bind λv=>if B.fin.op=35 then some (outT (.int v) r.2) else(B.ways[wayI B.fin v]?).bind λj=>runG sl Bs k j r.2
  else some (outT (.str "outside") r.2):=rfl
theorem wZ (sl:Za)(p:PS)(ps:List PS)(s:MSt):runS sl (p::ps) s=(zBs sl p s).bind λo=>o.elim (some (false,s)) (runS sl ps):=rfl
noncomputable def isAr (op:Nat):Bool:=Nat.beq op 13||(Nat.beq op 14||Nat.beq op 18)
inductive DrS:PS->Prop
 | ar {op:Nat} {d:Int} {a b:Opd} (h:isAr op=true):DrS ⟨op,d,[a,b],.int 0,false⟩
 | cpy {d:Int}:DrS ⟨10,d,[(true,1)],.int 0,false⟩
 | con {d k:Int}:DrS ⟨11,d,[(false,k)],.int 0,false⟩
 | load {d w:Int} {a:Opd} {sg v:Bool} (hw:w=1\/w=2\/w=4):DrS ⟨0,d,[a],.tup [.int w,.bool sg],v⟩
 | store {w:Int} {a b:Opd} {v:Bool} (hw:w=1\/w=2\/w=4):DrS ⟨1,-1,[a,b],.int w,v⟩
 | call {d:Int} {a:Opd} (ha:a.1=true):DrS ⟨4,d,[(true,5),a],.int 0,false⟩
 | slot {d s:Int} (hs:(d=2+s/\0<=s/\s<3)\/(d=0/\s=3)):DrS ⟨9,d,[],.int s,false⟩
 | name {d:Int}:DrS ⟨12,d,[],.tup [.str "see",.int 0],false⟩
structure DrW (p:PS):Prop where
 dr:DrS p
 args:∀o∈p.args,0<=o.2/\(o.1=true->o.2<11)/\o.2<sz
theorem jn {op:Nat}{P:Nat->Prop}(h:isAr op=true)(h1:P 13)(h2:P 14)(h3:P 18):P op:=by unfold isAr at h;rw[or_eq_true] at h;rw[or_eq_true] at h;rcases h with h | h | h<;>rw[Nat.eq_of_beq_eq_true h]<;>assumption
theorem vN {op:Nat}{d:Int}(h:isAr op=true)(g:Gv)(mem:Me)(nx:Nx):effT sl ⟨op,d,[a,b],.int 0,false⟩ g mem nx=some (some ((arV op g,none),mem,nx)):=
 jn (P:=λop=>effT sl ⟨op,d,[a,b],.int 0,false⟩ g mem nx=some (some ((arV op g,none),mem,nx))) h rfl rfl rfl
theorem zFb (h:isAr op=true)(hk:isAr k=false):op≠k:=λe=>by rw[e] at h;rw[hk] at h;cases h
theorem DrS.freed (h:DrS p)(hc:wT p.op=true):DrS (wK p):=by
 cases h with
 | ar h=>exact absurd hc (jn (P:=λop=>¬wT op=true) h () () ())
 | call ha=>exact .call ha
 | cpy=>cases hc
 | con=>cases hc
 | load=>cases hc
 | store=>cases hc
 | slot=>cases hc
 | name=>cases hc
theorem DrW.freed (h:DrW p)(hc:wT p.op=true):DrW (wK p):=⟨h.dr.freed hc,h.args⟩
end
section
def AgrK (m:Nat)(k1 k2:Kn):Prop:=∀r,zD m r=true->lk k1 r=lk k2 r
theorem AgrK.sub {a b:Nat}(h:AgrK b k1 k2)(s:Sub a b):AgrK a k1 k2:=λr q=>h r (wE s q)
theorem zJB (h:o.1=true->lk k1 o.2=lk k2 o.2):argT k1 o=argT k2 o:=by
 unfold argT;cases e:o.1 with
 | true=>rw[h e]
 | false=>rfl
theorem zHB (h:∀o∈args,o.1=true->lk k1 o.2=lk k2 o.2):wL k1 args=wL k2 args:=by
 induction args with
 | nil=>rfl
 | cons o l ih=>
  show (argT k1 o).bind _=(argT k2 o).bind _;rw[zJB (h o (.head _))];exact congrArg _ (funext λv=>congrArg _ (ih (zL h)))
theorem zHI (ho:o∈args)(h1:o.1=true)(h0:0<=o.2):∀{m:Nat},zD (Mine.Internal.addA m args) o.2=true:=by
 induction args with
 | nil=>cases ho
 | cons a l ih=>
  intro m;rcases List.mem_cons.mp ho with rfl | q
  ·refine wE (a:=if o.1 then Mine.Internal.setb m o.2 else m) yy ?_;rw[if_pos h1];rw[<-congrFun (yF h0 (m:=m)) o.2];rw[decide_eq_true rfl];rw[Bool.or_true]
  ·exact ih q
theorem AgrK.args {m:Nat}{args:List Opd}(h:AgrK (Mine.Internal.addA m args) k1 k2)(h0:∀o∈args,o.1=true->0<=o.2):wL k1 args=wL k2 args:=zHB λo ho h1=>h _ (zHI ho h1 (h0 o ho h1))
def KI (am:Zc)(P:Int->Prop)(kn:Kn):Prop:=∀r e,lk kn r=some e->(∀s,lk am r=some s->e.2=some s)/\∀s,e.2=some s->lk am r=some s\/P s
structure SR (am:Zc)(P:Int->Prop)(p:PS):Prop where
 only:0<=p.dst->∀s,lk am p.dst=some s->p.op=9/\p.more=.int s
 slot:p.op=9->∀s,p.more=.int s->lk am p.dst=some s\/P s
theorem zAM (h:wL kn (a::l)=some g):argT kn a=some (g0 g)/\∃g',wL kn l=some g'/\g=g0 g::g':=by refine zC (Option.bind_eq_some_iff.mp (show (argT kn a).bind _=some g from h)) λv h1 h2=>?_;refine zC (Option.map_eq_some_iff.mp h2) λg' h3 h4=>?_;subst h4;exact⟨h1,g',h3,rfl⟩
theorem jD (h:argT kn a=some e)(ha:a.1=true):lk kn a.2=some e/\Int.fmod e.1 sz=e.1:=by
 unfold argT at h;rw[if_pos ha] at h;refine zC (Option.bind_eq_some_iff.mp h) λv h1 h2=>?_;by_cases q:Int.fmod v.1 sz=v.1
 ·rw[if_pos q] at h2;cases h2;exact⟨h1,q⟩
 ·rw[if_neg q] at h2;cases h2
theorem zAR (h:argT kn a=some e)(ha:a.1=false):e=(a.2,none):=by unfold argT at h;rw[if_neg (by rw[ha];decide)] at h;exact(Option.some.inj h).symm
theorem wQ {α:Type}{c:Prop}[Decidable c]{a b:Option α}{x:α}(h:(if c then a else b)=some x)(hb:b=none):c/\a=some x:=by
 by_cases q:c
 ·rw[if_pos q] at h;exact⟨q,h⟩
 ·rw[if_neg q] at h;rw[hb] at h;cases h
theorem wg {α:Type}{c:Prop}[Decidable c]{a:Option (Option α)}{x:α}(h:(if c then a else some none)=some (some x)):c/\a=some (some x):=by
 by_cases q:c
 ·rw[if_pos q] at h;exact⟨q,h⟩
 ·rw[if_neg q] at h;cases h
theorem wJ {d j:Int}:lk (setK kn d e) j=if 0<=d/\j=d then some (Int.fmod e.1 sz,e.2) else lk kn j:=by
 unfold setK;by_cases q:0<=d
 ·rw[if_pos q];rw[zAm];by_cases z:j=d
  ·rw[if_pos z];rw[if_pos ⟨q,z⟩]
  ·rw[if_neg z];rw[if_neg λc=>z c.2]
 ·rw[if_neg q];rw[if_neg λc=>q c.1]
theorem zFh {op:Nat}{vol:Bool}{v:Int}(h:accE op g more vol v mem nx=some (some o)):o.1.2=none:=by unfold accE at h;rw[<-Option.some.inj (Option.some.inj h)]
section
variable {sl:Za}
theorem zAV (h:zBs sl p s=some o):∃g o',wL s.1 p.args=some g/\effT sl p g s.2.1 s.2.2=some o'/\o=o'.map λr=>(setK s.1 p.dst r.1,r.2.1,r.2.2):=by refine zC (Option.bind_eq_some_iff.mp h) λg h1 h2=>?_;refine zC (Option.map_eq_some_iff.mp h2) λo' h3 h4=>?_;exact⟨g,o',h1,h3,h4.symm⟩
theorem zIh {p:PS}(hd:DrS p){g:Gv}{nx:Nx}{o:(Int×Option Int)×Me×Nx}(h:effT sl p g mem nx=some (some o)){s:Int}(hs:o.1.2=some s):p.op=9/\p.more=.int s:=by
 have no:o.1.2=none->p.op=9/\p.more=.int s:=λq=>by rw[q] at hs;cases hs
 cases hd with
 | ar h1=>rw[vN h1] at h;exact no (by rw[<-Option.some.inj (Option.some.inj h)])
 | load=>
  have h:uG sl g _ _ mem nx=some (some o):=h;unfold uG at h;exact no (zFh (wg (wQ h rfl).2).2)
 | store=>
  have h:wU sl g _ _ mem nx=some (some o):=h;unfold wU at h;exact no (zFh (wg (wQ h rfl).2).2)
 | call=>
  have h:jm sl g mem nx=some (some o):=h;unfold jm at h;exact no (by rw[<-Option.some.inj (Option.some.inj (wQ (wg h).2 rfl).2)])
 | slot=>
  have h:=Option.some.inj (Option.some.inj h);rw[<-h] at hs;exact⟨rfl,congrArg Val.int (Option.some.inj hs)⟩
 | name=>exact no (by rw[<-Option.some.inj (Option.some.inj h)])
 | cpy=>exact no (by rw[<-Option.some.inj (Option.some.inj h)])
 | con=>exact no (by rw[<-Option.some.inj (Option.some.inj h)])
theorem KI.step {P:Int->Prop}(hd:DrS p)(hr:SR am P p)(h:KI am P kn)(he:effT sl p g mem nx=some (some o)):KI am P (setK kn p.dst o.1):=λr e hl=>by
 rw[wJ] at hl;by_cases q:0<=p.dst/\r=p.dst
 ·rw[if_pos q] at hl;obtain⟨q0,rfl⟩:=q;rw[<-Option.some.inj hl];refine⟨λs hs=>?_,λs hs=>?_⟩
  ·obtain⟨h1,h2⟩:=hr.only q0 s hs;have e4:effT sl p g mem nx=some (some ((home s,some s),mem,nx)):=by unfold effT;rw[h1];rw[h2];rfl
   rw[e4] at he;rw[<-Option.some.inj (Option.some.inj he)]
  ·obtain⟨h1,h2⟩:=zIh hd he hs;exact hr.slot h1 s h2
 ·rw[if_neg q] at hl;exact h r e hl
end
end
section
inductive LsK:List PS->List (PS×Bool)->Prop
 | nil:LsK [] []
 | drop {p:PS} {ps:List PS} {kq:List (PS×Bool)} (t:LsK ps kq):LsK (p::ps) kq
 | keep {p:PS} {ps:List PS} {kq:List (PS×Bool)} (t:LsK ps kq):LsK (p::ps) ((p,false)::kq)
 | free {p:PS} {ps:List PS} {kq:List (PS×Bool)} (h:p.op=4) (h0:0<=p.dst) (t:LsK ps kq):LsK (p::ps) ((wK p,true)::kq)
theorem LsK.len (h:LsK ps kq):kq.length<=ps.length:=by
 induction h with
 | nil=>exact le_refl _
 | drop _ ih=>exact le_succ_of_le ih
 | keep _ ih=>exact succ_le_succ ih
 | free _ _ _ ih=>exact succ_le_succ ih
theorem LsK.same (h:LsK ps kq)(h1:Nat.blt kq.length ps.length=false)(h2:kq.any (·.2)=false):kq.map (·.1)=ps:=by
 induction h with
 | nil=>rfl
 | @drop p ps kq t ih=>
  have:Nat.blt kq.length (p::ps).length=true:=Nat.ble_eq_true_of_le (succ_le_succ t.len);rw[this] at h1;cases h1
 | keep _ ih=>exact congrArg _ (ih h1 h2)
 | free _ _ _ ih=>cases h2
theorem LsK.map (h:LsK B.steps kq):(if chgB kq B then withSt B (kq.map (·.1)) else B)=withSt B (kq.map (·.1)):=by
 by_cases q:chgB kq B=true
 ·rw[if_pos q]
 ·rw[if_neg q];unfold chgB at q;rw[or_eq_true] at q;rw[not_or] at q;rw[not_eq_true] at q;rw[not_eq_true] at q;rw[h.same q.1 q.2];rfl
theorem zA7 (hd:DrS p)(h:p.dst≠1):zG p=false:=by
 cases hd with
 | ar h1=>exact jn (P:=λop=>zG ⟨op,_,_,_,_⟩=false) h1 rfl rfl rfl
 | cpy=>exact beq_eq_false_iff_ne.mpr λe=>h e.symm
 | con=>rfl
 | load=>rfl
 | store=>rfl
 | call=>rfl
 | slot=>rfl
 | name=>rfl
theorem vv (hs:zG p=false)(s:Nat×List (PS×Bool)):(zI sl am s p).1=needStep sl am s.1 p:=by
 unfold zI needStep;by_cases h:zD s.1 p.dst=true
 ·rw[if_pos h];rw[if_pos h];rw[if_neg (by rw[hs];decide)]
 ·rw[if_neg h];rw[if_neg h];by_cases q:z8 sl am p=true
  ·rw[if_pos q];rw[if_pos q]
  ·rw[if_neg q];rw[if_neg q];by_cases c:(decide (p.dst >= 0)&&wT p.op)=true
   ·rw[if_pos c]
   ·rw[if_neg c]
noncomputable def swF (sl:Za)(am:Zc)(ps:List PS)(m:Nat):Nat×List (PS×Bool):=ps.foldr (λp s=>zI sl am s p) (m,[])
theorem yv:jX sl am ps en m=(swF sl am ps (addA m en)).2:=by unfold jX swF;rw[List.foldl_reverse]
theorem jY (h:∀p∈ps,zG p=false):(swF sl am ps (addA m en)).1=needP sl am ps en m:=by
 unfold needP swF;rw[List.foldl_reverse];generalize addA m en=m;induction ps with
 | nil=>rfl
 | cons p ps ih=>
  show (zI sl am _ p).1=needStep sl am _ p;rw[vv (h p (.head _))];rw[<-ih (zL h)]
theorem zGg (h:z8 sl am p=true):zAo p.op=false:=by
 unfold z8 at h;have key:∀k:Nat,jB k=false->zAo k=false:=λk hk=>by
  unfold jB at hk;unfold zAo;rw[Bool.and_eq_false_iff];exact .inr (Bool.eq_false_iff.mpr λq=>Bool.eq_false_iff.mp hk (Nat.ble_eq_true_of_le (le_trans (Nat.le_of_ble_eq_true q) ())))
 by_cases q:(!jB p.op)=true
 ·exact key _ (by rw[not_eq_true'] at q;exact q)
 ·rw[if_neg q] at h;by_cases c:(!(Nat.beq p.op 0)||p.vol)=true
  ·rw[if_pos c] at h;unfold je at h
   have:=(Bool.and_eq_true_iff.mp h).1;rw[not_eq_true'] at this;rw[or_eq_false_iff] at this;exact this.1
  ·rw[or_eq_true] at c;rw[not_or] at c;rw[not_eq_true'] at c;rw[Bool.not_eq_false] at c;rw[Nat.eq_of_beq_eq_true c.1];rfl
theorem zAp (h:okA E e=true)(hs:e.2=some s):0<=s/\s<4/\e.1=home s:=by unfold okA at h;rw[hs] at h;obtain⟨h,h3⟩:=Bool.and_eq_true_iff.mp h;obtain⟨h1,h2⟩:=Bool.and_eq_true_iff.mp h;exact⟨of_decide_eq_true h1,of_decide_eq_true h2,of_decide_eq_true h3⟩
theorem zFu:∀{i:Nat} {k:Nat} {p:Int×Int},sl[k]?=some p->(home ((i+k:Nat):Int),p.1)∈zBG i sl:=by
 induction sl with
 | nil=>exact λh=>nomatch h
 | cons a l ih=>
  intro i k p h;cases k with
  | zero=>cases Option.some.inj h;exact List.mem_cons_self
  | succ k=>
   have:=ih (i:=i+1) (k:=k) h;rw[show i+1+k=i+(k+1) by rw[add_assoc];rw[Nat.add_comm 1]] at this;exact List.mem_cons_of_mem _ this
theorem zAB (h0:0<=s)(h1:s<sl.length)(hw:w<=zP sl s):z7 sl (home s) w=true:=by have hi:s.toNat<sl.length:=(toNat_lt h0).mpr h1;have e:sl[s.toNat]?=some sl[s.toNat]:=getElem?_eq_getElem hi;refine List.any_eq_true.mpr ⟨_,mem_append_right _ (zFu (i:=0) e),?_⟩;unfold zP at hw;rw[e] at hw;rw[zero_add];rw[toNat_of_nonneg h0];exact Bool.and_eq_true_iff.mpr ⟨decide_eq_true (Int.le_refl _),decide_eq_true (Int.add_le_add_left hw _)⟩
theorem zFK (h:z8 sl am ⟨0,d,[a],.tup [.int w,.bool sg],v⟩=true):v=false/\a.1=true/\∃s,lk am a.2=some s/\w<=zP sl s:=by
 cases v with
 | true=>cases h
 | false=>
  have h2:z8 sl am ⟨0,d,[a],.tup [.int w,.bool sg],false⟩=(a.1&&(match zB2 am a.2 with | some s=>decide (w<=zP sl s) | none=>false)):=rfl;rw[h2] at h;obtain⟨h1,h2⟩:=Bool.and_eq_true_iff.mp h;cases q:zB2 am a.2 with
  | none=>rw[q] at h2;cases h2
  | some s=>rw[q] at h2;exact⟨rfl,h1,s,q,of_decide_eq_true h2⟩
theorem zIi (h:zAo op=false):¬(op=1\/op=4):=λq=>by rcases q with rfl | rfl<;>cases h
theorem zGh (hsl:sl.length=4)(hd:DrS p)(hf:z8 sl am p=true)(hk:KI am P kn)(hg:wL kn p.args=some g)(he:effT sl p g mem nx=some o):∃e,o=some (e,mem,nx):=by
 have fin:∀{r},effT sl p g mem nx=some r->(∃e,r=some (e,mem,nx))->∃e,o=some (e,mem,nx):=λh q=>by rw[h] at he;rw[<-Option.some.inj he];exact q
 have ne:=zIi (zGg hf);cases hd with
 | ar h1=>exact fin (vN h1 ..) ⟨_,rfl⟩
 | cpy=>exact fin rfl ⟨_,rfl⟩
 | con=>exact fin rfl ⟨_,rfl⟩
 | @load d w a sg v _=>
  obtain⟨hv,ha,s,h1,h2⟩:=zFK hf;subst hv;have he:uG sl g (.tup [.int w,.bool sg]) false mem nx=some o:=he;unfold uG at he;obtain⟨c,he⟩:=wQ he rfl;have hs:=(hk _ _ (jD (zAM hg).1 ha).1).1 s h1;refine w3 (zAp c hs) λs0 s1 e1=>?_;rw[e1] at he;rw[if_pos (show z7 sl (home s) (zCT (.tup [.int w,.bool sg]))=true from zAB s0 (by rw[hsl];exact s1) h2)] at he;exact⟨_,(Option.some.inj he).symm⟩
 | store=>exact absurd (.inl rfl) ne
 | call=>exact absurd (.inr rfl) ne
 | slot=>exact fin rfl ⟨_,rfl⟩
 | name=>exact fin rfl ⟨_,rfl⟩
theorem zKB (hd:DrS p)(h:wT p.op=true):p.op=4:=by
 cases hd with
 | ar h1=>exact absurd h (jn (P:=λop=>¬wT op=true) h1 () () ())
 | call=>rfl
 | cpy=>cases h
 | con=>cases h
 | load=>cases h
 | store=>cases h
 | slot=>cases h
 | name=>cases h
theorem zAU:∀{ps:List PS},(∀p∈ps,DrS p)->LsK ps (swF sl am ps m).2:=λ{ps} h=>by
 induction ps with
 | nil=>exact .nil
 | cons p ps ih=>
  have t:=ih (zL h);have hd:=h p (.head _);show LsK (p::ps) (zI sl am (swF sl am ps m) p).2;generalize swF sl am ps m=s at t;unfold zI;by_cases c1:zD s.1 p.dst=true
  ·rw[if_pos c1];by_cases q:zG p=true
   ·rw[if_pos q];exact .drop t
   ·rw[if_neg q];exact .keep t
  ·rw[if_neg c1];by_cases q:z8 sl am p=true
   ·rw[if_pos q];exact .drop t
   ·rw[if_neg q];by_cases c:(decide (p.dst >= 0)&&wT p.op)=true
    ·rw[if_pos c];obtain⟨c3,c4⟩:=Bool.and_eq_true_iff.mp c;exact .free (zKB hd c4) (of_decide_eq_true c3) t
    ·rw[if_neg c];exact .keep t
inductive RelA (m:Nat)(b:Bool)(s:MSt)(o:Option (Bool×MSt)):Prop where
 | mk (kn:Kn) (e:o=some (b,(kn,s.2))) (h:b=true->AgrK m s.1 kn)
theorem AgrK.set (h:∀r,zD m r=true->r≠d->lk k1 r=lk k2 r)(h0:0<=d):AgrK m (setK k1 d e) (setK k2 d e):=λr q=>by
 rw[wJ];rw[wJ];by_cases c:0<=d/\r=d
 ·rw[if_pos c];rw[if_pos c]
 ·rw[if_neg c];rw[if_neg c];exact h r q λz=>c ⟨h0,z⟩
theorem AgrK.dD (h:AgrK m k1 k2)(n:zD m d≠true):AgrK m (setK k1 d e) k2:=λr q=>by
 rw[wJ];rw[if_neg λc:0<=d/\r=d=>n (c.2▸q)];exact h r q
theorem AgrK.de (h:AgrK m k1 k2):AgrK m (setK k1 d e) (setK k2 d e):=λr q=>by
 rw[wJ];rw[wJ];by_cases c:0<=d/\r=d
 ·rw[if_pos c];rw[if_pos c]
 ·rw[if_neg c];rw[if_neg c];exact h r q
theorem uj (h1:wL s.1 p.args=some g)(h2:effT sl p g s.2.1 s.2.2=some o):zBs sl p s=some (o.map λr=>(setK s.1 p.dst r.1,r.2.1,r.2.2)):=by unfold zBs;rw[h1];show (effT sl p g s.2.1 s.2.2).map _=_;rw[h2];rfl
theorem zFV (h:p.op=4)(g:Gv)(mem:Me)(nx:Nx):effT sl (wK p) g mem nx=effT sl p g mem nx:=by
 have e:∀q:PS,q.op=4->effT sl q g mem nx=jm sl g mem nx:=λq hq=>by unfold effT;rw[hq];rfl
 exact(e (wK p) h).trans (e p h).symm
theorem zDZ (hsl:sl.length=4):∀{ps:List PS},(∀p∈ps,DrW p/\p.dst≠1/\SR am P p)->∀{s1:MSt} {k2:Kn},KI am P s1.1->AgrK (swF sl am ps m0).1 s1.1 k2->∀{b:Bool} {s1':MSt},runS sl ps s1=some (b,s1')->RelA m0 b s1' (runS sl ((swF sl am ps m0).2.map (·.1)) (k2,s1.2))/\KI am P s1'.1:=λ{ps}=>by
 induction ps with
 | nil=>
  intro _ s1 k2 hk ha b s1' h;have h:some (true,s1)=some (b,s1'):=h;cases Option.some.inj h;exact⟨⟨k2,rfl,λ_=>ha⟩,hk⟩
 | cons p ps ih=>
  intro hp s1 k2 hk ha b s1' h;have ih:=@ih (zL hp);refine w3 (hp p (.head _)) λhd hd1 hr=>?_;refine zC (Option.bind_eq_some_iff.mp ((wZ sl p ps s1).symm.trans h)) λo h1 h2=>?_;refine wF (zAV h1) λg o' hg he eq4=>?_;subst eq4;have go:∀{kk:Kn} {q:PS} {kq:List PS},wL kk q.args=some g->effT sl q g s1.2.1 s1.2.2=some o'->(∀r,o'=some r->AgrK (swF sl am ps m0).1 (setK s1.1 p.dst r.1) (setK kk q.dst r.1))->kq=(swF sl am ps m0).2.map (·.1)->RelA m0 b s1' (runS sl (q::kq) (kk,s1.2))/\KI am P s1'.1:=λ{kk q kq} hq he' hag hkq=>by
   rw[wZ];rw[uj (s:=(kk,s1.2)) hq he'];cases o' with
   | none=>
    have h2:some (false,s1)=some (b,s1'):=h2;cases Option.some.inj h2;exact⟨⟨kk,rfl,λq=>nomatch q⟩,hk⟩
   | some r=>
    rw[hkq];exact ih (s1:=(setK s1.1 p.dst r.1,r.2.1,r.2.2)) (KI.step hd.dr hr hk he) (hag r rfl) h2
  have out:(∃e,o'=some (e,s1.2)/\AgrK (swF sl am ps m0).1 (setK s1.1 p.dst e) k2)->RelA m0 b s1' (runS sl ((swF sl am ps m0).2.map (·.1)) (k2,s1.2))/\KI am P s1'.1:=λ⟨e,h3,h4⟩=>by
   subst h3;exact ih (s1:=(setK s1.1 p.dst e,s1.2)) (KI.step hd.dr hr hk he) h4 h2
  have e0:swF sl am (p::ps) m0=zI sl am (swF sl am ps m0) p:=rfl;rw[e0] at ha ⊢;generalize swF sl am ps m0=s at *;have h0:∀o∈p.args,o.1=true->0<=o.2:=λo ho _=>(hd.args o ho).1;unfold zI at ha ⊢;by_cases c1:zD s.1 p.dst=true
  ·rw[if_pos c1] at ha ⊢;have q:¬zG p=true:=by rw[zA7 hd.dr hd1];decide
   rw[if_neg q] at ha ⊢;refine go (kk:=k2) ((ha.args h0).symm.trans hg) he (λr _=>.set (λj hj hn=>ha j ?_) (yJ c1)) rfl;refine wE yy ?_;unfold zD at hj ⊢;obtain⟨j1,j2⟩:=Bool.and_eq_true_iff.mp hj;rw[j1,yL c1,j2,decide_eq_false λz=>hn ?_];rfl
   have:=yJ c1
   have:=of_decide_eq_true j1;rw[<-toNat_of_nonneg ‹0<=j›];rw[<-toNat_of_nonneg ‹0<=p.dst›];rw[z]
  ·rw[if_neg c1] at ha ⊢;by_cases q:z8 sl am p=true
   ·rw[if_pos q] at ha ⊢;obtain⟨e,h3⟩:=zGh hsl hd.dr q hk hg he;exact out ⟨e,h3,ha.dD c1⟩
   ·rw[if_neg q] at ha ⊢;by_cases c:(decide (p.dst >= 0)&&wT p.op)=true
    ·rw[if_pos c] at ha ⊢;exact go (kk:=k2) (q:=wK p) ((ha.args h0).symm.trans hg) ((zFV (zKB hd.dr (Bool.and_eq_true_iff.mp c).2) ..).trans he) (λr _=>(ha.sub yy).dD c1) rfl
    ·rw[if_neg c] at ha ⊢;exact go (kk:=k2) ((ha.args h0).symm.trans hg) he (λr _=>(ha.sub yy).de) rfl
theorem jt (h:j∈ways):Sub (zV AH j) (zJ AH ways):=by
 unfold zJ;have up:∀(l:List Int) (m:Nat),Sub m (l.foldl (λm j=>m ||| zV AH j) m):=λl=>by
  induction l with
  | nil=>exact λ_=>.refl
  | cons a l ih=>exact λm=>Sub.trans (λr q=>by rw[Nat.testBit_or];rw[q];rfl) (ih _)
 have key:∀(l:List Int) (m:Nat),j∈l->Sub (zV AH j) (l.foldl (λm j=>m ||| zV AH j) m):=λl=>by
  induction l with
  | nil=>exact λ_ q=>nomatch q
  | cons a l ih=>
   intro m q;rcases List.mem_cons.mp q with rfl | q
   ·exact Sub.trans (λr q=>by rw[Nat.testBit_or];rw[q];rw[Bool.or_true]) (up l _)
   ·exact ih _ q
 exact key ways 0 h
structure BsOK (am:Zc)(P:Int->Prop)(Bs:List PB):Prop where
 steps:∀B∈Bs,∀p∈B.steps,DrW p/\p.dst≠1/\SR am P p
 ends : ∀ B ∈ Bs, OpOK B.fin.args
theorem zIf (h:wL k1 e.args=wL k2 e.args):endV e k1=endV e k2:=by unfold endV;rw[h]
theorem zBD (h:∀p∈B.steps,DrS p):swB sl am AH B=withSt B ((swF sl am B.steps (addA (zJ AH B.ways) B.fin.args)).2.map (·.1)):=by unfold swB zx;rw[yv];exact(zAU h).map
theorem simA {sl:Za}(hsl:sl.length=4){am:Zc}{P:Int->Prop}{Bs:List PB}{W0:List Int}{AH:List (Int×Nat)}(ok:BsOK am P Bs)(hW:PoOK Bs W0)(hk:∀i∈W0,(lk AH i).isSome=true)
  (hfix:∀i∈W0,∀B,Bs[i.toNat]?=some B->needP sl am B.steps B.fin.args (zJ AH B.ways)=zV AH i) :
  ∀(k:Nat) {i:Int},i∈W0->∀{s1:MSt} {k2:Kn},KI am P s1.1->AgrK (zV AH i) s1.1 k2->∀{o:Out1},runG sl Bs k i s1=some o->runG sl (zX (swB sl am AH) (λi=>(lk AH i).isSome) 0 Bs) k i (k2,s1.2)=some o:=λk=>by
 induction k with
 | zero=>exact λ_ _ _ _ _ o h=>h
 | succ k ih=>
  intro i hi s1 k2 hK ha o h;rw[ja] at h ⊢;refine zC (Option.bind_eq_some_iff.mp h) λB hB h=>?_;refine zC (Option.bind_eq_some_iff.mp h) λr hr h=>?_;have hBm:=mem_of_getElem? hB;have hd:=ok.steps B hBm;have hg:=yw (F:=swB sl am AH) (p:=λi=>(lk AH i).isSome) (i:=0) hB;rw[Int.zero_add] at hg;rw[toNat_of_nonneg (hW.2 i hi).1] at hg;rw[if_pos (hk i hi)] at hg;rw[zBD λp hp=>(hd p hp).1.dr] at hg;rw[hg];show (runS sl ((swF sl am B.steps (addA (zJ AH B.ways) B.fin.args)).2.map (·.1)) (k2,s1.2)).bind _=_;have hm:=jY (sl:=sl) (am:=am) (en:=B.fin.args) (m:=zJ AH B.ways) λp hp=>zA7 (hd p hp).1.dr (hd p hp).2.1;rw[hfix i hi B hB] at hm;obtain⟨b,s'⟩:=r;obtain⟨⟨kn,e,ha2⟩,hK2⟩:=zDZ hsl hd hK (hm▸ha) hr;rw[e];cases b with
  | false=>exact h
  | true=>
   have ha2:=ha2 rfl;have hend:=zIf (e:=B.fin) (ha2.args λo ho h1=>(ok.ends B hBm o ho h1).1);refine zC (Option.bind_eq_some_iff.mp (show (endV B.fin s'.1).bind _=some o from h)) λv hv h=>?_;show (endV B.fin kn).bind _=some o;rw[<-hend];rw[hv];show (if B.fin.op=35 then _ else _)=some o;by_cases q:B.fin.op=35
   ·rw[if_pos q] at h ⊢;exact h
   ·rw[if_neg q] at h ⊢;refine zC (Option.bind_eq_some_iff.mp h) λj hj h=>?_;show (B.ways[wayI B.fin v]?).bind _=some o;rw[hj];have hjm:=mem_of_getElem? hj;obtain⟨_,B',hB',hcl⟩:=hW.2 i hi;rw[hB] at hB';cases hB';exact ih (hcl j hjm) hK2 (ha2.sub (Sub.trans (jt hjm) yy)) h
end
section
theorem zI9:getM (st m k v) a=if a=k then v else getM m a:=by
 unfold getM;rw[zAm];by_cases q:a=k
 ·rw[if_pos q];rw[if_pos q];rfl
 ·rw[if_neg q];rw[if_neg q]
theorem zCZ:∀{w:Nat},(∀i:Nat,i<w->getM m1 (a+i)=getM m2 (a+i))->getW m1 a w=getW m2 a w:=λ{w}=>by
 unfold getW;induction w with
 | zero=>exact λ_=>rfl
 | succ w ih=>
  intro h;rw[range_succ];rw[List.foldl_append];rw[List.foldl_append];rw[ih λi hi=>h i (lt_succ_of_lt hi)];show _+getM m1 _ * _=_+getM m2 _ * _;rw[h w (lt_succ_self w)]
theorem zJV (h:at_<=a/\a<at_+((w+1:Nat):Int))(n:a≠at_+w):at_<=a/\a<at_+w:=⟨h.1,Int.lt_iff_le_and_ne.mpr ⟨Int.le_of_lt_add_one (by rw[Int.add_assoc];exact h.2),n⟩⟩
theorem lt_w {w:Nat}:(w:Int)<((w+1:Nat):Int):=Int.ofNat_lt.mpr (lt_succ_self w)
theorem zKC {at_ a:Int}{w:Nat}(e:a=at_+w):at_<=a/\a<at_+((w+1:Nat):Int):=by rw[e];exact⟨Int.le_add_of_nonneg_right (natCast_nonneg w),add_lt_add_left lt_w at_⟩
theorem zHx (h:¬(at_<=a/\a<at_+((w+1:Nat):Int))):a≠at_+w/\¬(at_<=a/\a<at_+w):=⟨λe=>h (zKC e),λq=>h ⟨q.1,lt_trans q.2 (add_lt_add_left lt_w at_)⟩⟩
theorem wR:∀{w:Nat},getM (putM m at_ w v) a=if at_<=a/\a<at_+w then Int.fmod (Int.fdiv v (256 ^ (a - at_).toNat)) 256 else getM m a:=λ{w}=>by
 unfold putM;induction w with
 | zero=>rw[if_neg λq=>Int.not_lt.mpr q.1 (Int.lt_of_lt_of_le q.2 (Int.le_of_eq (add_zero at_)))];rfl
 | succ w ih=>
  rw[range_succ];rw[List.foldl_append];show getM (st _ _ _) a=_;rw[zI9];by_cases q:a=at_+w
  ·rw[if_pos q];rw[if_pos (zKC q)];rw[q];rw[show at_+(w:Int) - at_=w by rw[Int.add_comm,Int.add_sub_cancel]];rfl
  ·rw[if_neg q];rw[ih];by_cases c:at_<=a/\a<at_+((w+1:Nat):Int)
   ·rw[if_pos c];rw[if_pos (zJV c q)]
   ·rw[if_neg c];rw[if_neg (zHx c).2]
structure SlOK (sl:Za):Prop where
 len:sl.length=4
 sz:∀q∈sl,q.1<=8
theorem zFs:∀{i:Nat} {p:Int×Int},p∈zBG i sl->∃(k:Nat) (q:Int×Int),p=(home ((i+k:Nat):Int),q.1)/\q∈sl/\k<sl.length:=by
 induction sl with
 | nil=>exact λh=>nomatch h
 | cons a l ih=>
  intro i p h;rcases List.mem_cons.mp h with rfl | h
  ·exact⟨0,a,rfl,.head _,succ_pos _⟩
  ·refine wF (ih h) λk q eq2 hq hk=>?_;subst eq2;exact⟨k+1,q,by rw[add_right_comm];rw[add_assoc],.tail _ hq,Nat.succ_lt_succ hk⟩
inductive Yr (t:Nat)(a:Int):Prop where
 | mk (s:Int) (h:zD t s=false) (h0:0<=s) (h1:s<4) (h2:home s<=a) (h3:a<home s+8)
def MR (t:Nat)(m1 m2:Me):Prop:=∀a,¬Yr t a->getM m1 a=getM m2 a
def GOK (t:Nat)(e:Int×Option Int):Prop:=∀s,e.2=some s->zD t s=true
def EI (t E:Nat):Prop:=∀s,zD E s=true->zD t s=true
theorem zDE {s k x:Int}(h1:home s<=x)(h2:x<home s+8)(h3:home k<=x)(h4:x<home k+8):s=k:=by unfold home at *;lia
theorem zJ4 (h:offE E v=true)(h0:0<=s)(h1:s<4)(h2:home s<=v)(h3:v<home s+8):zD E s=true:=by
 have hm:s∈([0,1,2,3]:List Int):=in4 h0 h1
 have:=List.all_eq_true.mp h s hm;rw[show hiB v s=true from Bool.and_eq_true_iff.mpr ⟨decide_eq_true h2,decide_eq_true h3⟩] at this;rw[Bool.not_true] at this;rw[Bool.or_false] at this;exact this
theorem zKX (h:okA E e=true)(g:GOK t e)(k:EI t E)(h0:0<=s)(h1:s<4)(h2:home s<=e.1)(h3:e.1<home s+8):zD t s=true:=by
 obtain⟨v,tg⟩:=e;cases tg with
 | none=>exact k s (zJ4 h h0 h1 h2 h3)
 | some s'=>
  refine w3 (zAp h rfl) λa1 a2 a3=>?_;have a3:v=home s':=a3
  have:s=s':=zDE (x:=v) h2 h3 (by rw[a3];exact Int.le_refl _) (by rw[a3];exact Int.lt_add_of_pos_right _ ());exact this▸g s' rfl
theorem zGk (h0:0<=s)(h2:home s<=x):8200<=x:=Int.le_trans () (Int.le_trans (yi h0) h2)
theorem yu (ok:SlOK sl)(h:z7 sl a w=true):(0<=a/\a+w<=4)\/(8192<=a/\a+w<=8200)\/∃k:Int,(0<=k/\k<4)/\home k<=a/\a+w<=home k+8:=by
 refine zC (List.any_eq_true.mp h) λp hp h=>?_;obtain⟨h1,h2⟩:=Bool.and_eq_true_iff.mp h;have h1:=of_decide_eq_true h1;have h2:=of_decide_eq_true h2;rcases List.mem_append.mp hp with hp | hp
 ·rcases List.mem_cons.mp hp with rfl | hp
  ·exact .inl ⟨h1,h2⟩
  ·rw[mem_singleton] at hp;subst hp;exact .inr (.inl ⟨h1,h2⟩)
 ·refine wF (zFs hp) λk q eq2 hq hk=>?_;subst eq2;rw[ok.len] at hk;exact .inr (.inr ⟨_,⟨natCast_nonneg _,by rw[zero_add];exact Int.ofNat_lt.mpr hk⟩,h1,Int.le_trans h2 (Int.add_le_add_left (ok.sz q hq) _)⟩)
theorem zFo (ok:SlOK sl)(h:z7 sl a w=true):w<=8:=by rcases yu ok h with ⟨h1,h2⟩ | ⟨h1,h2⟩ | ⟨k,_,h1,h2⟩<;>lia
theorem zJC (ok:SlOK sl)(ht:z7 sl e.1 w=true)(h:okA E e=true)(g:GOK t e)(k:EI t E)(h1:e.1<=x)(h2:x<e.1+w):¬Yr t x:=λ⟨s,f,f0,f1,f2,f3⟩=>by
 have fh:=zGk f0 f2;rcases yu ok ht with ⟨_,b2⟩ | ⟨_,b2⟩ | ⟨j,_,b1,b2⟩
 ·exact absurd (Int.lt_of_lt_of_le h2 b2) (by lia)
 ·exact absurd (Int.lt_of_lt_of_le h2 b2) (by lia)
 ·have e1:s=j:=zDE f2 f3 (Int.le_trans b1 h1) (Int.lt_of_lt_of_le h2 b2);subst e1;rw[zKX h g k f0 f1 b1 (Int.lt_of_le_of_lt h1 f3)] at f;cases f
theorem in_w {a w:Int}{i:Nat}(h:i<w.toNat):a<=a+i/\a+i<a+w:=⟨Int.le_add_of_nonneg_right (natCast_nonneg i),add_lt_add_left (Int.lt_toNat.mp h) a⟩
section
variable {sl:Za}{t:Nat}{m1 m2:Me}
theorem MR.get (h:MR t m1 m2){E:Nat}{w:Int}(ok:SlOK sl)(ht:z7 sl e.1 w=true)(ha:okA E e=true)(g:GOK t e)(k:EI t E):getW m1 e.1 w.toNat=getW m2 e.1 w.toNat:=zCZ λi hi=>h _ (zJC ok ht ha g k (in_w hi).1 (in_w hi).2)
theorem MR.put (h:MR t m1 m2):MR t (putM m1 a w v) (putM m2 a w v):=λx n=>by
 rw[wR];rw[wR];rw[h x n]
theorem MR.dh (h:MR t m1 m2){s v w:Int}(hs:zD t s=false)(h0:0<=s)(h1:s<4)(hw:w<=8):MR t (putM m1 (home s) w.toNat v) m2:=λx n=>by
 rw[wR];rw[if_neg λc=>n ⟨s,hs,h0,h1,c.1,Int.lt_of_lt_of_le c.2 (Int.add_le_add_left (Int.ofNat_le.mpr (Int.toNat_le.mpr hw)) _)⟩];exact h x n
end
inductive RelE (t:Nat):Option ((Int×Option Int)×Me×Nx)->Option ((Int×Option Int)×Me×Nx)->Prop
 | none:RelE t none none
 | some {e:Int×Option Int} {m1 m2:Me} {nx:Nx} (h:MR t m1 m2):RelE t (some (e,m1,nx)) (some (e,m2,nx))
def EqE (t:Nat)(e1 e2:Eff):Prop:=∀o,e1=some o->∃o2,e2=some o2/\RelE t o o2
section
variable {t:Nat}{m1 m2:Me}{nx:Nx}
theorem EqE.ite [Decidable c](h1:c->EqE t a1 a2)(h2:¬c->EqE t b1 b2):EqE t (if c then a1 else b1) (if c then a2 else b2):=by
 by_cases q:c
 ·rw[if_pos q];rw[if_pos q];exact h1 q
 ·rw[if_neg q];rw[if_neg q];exact h2 q
theorem EqE.same (h:MR t m1 m2):EqE t (some (some (e,m1,nx))) (some (some (e,m2,nx))):=λo q=>by
 cases Option.some.inj q;exact⟨_,rfl,.some h⟩
theorem EqE.flt:EqE t (some none) (some none):=λo q=>by
 cases Option.some.inj q;exact⟨_,rfl,.none⟩
theorem EqE.bad:EqE t none e:=λo q=>nomatch q
variable {sl:Za}{g:Gv}{more:Val}{v:Bool}
theorem EqE.acc (hm:MR t m1 m2):EqE t (accE op g more v x m1 nx) (accE op g more v x m2 nx):=EqE.same hm
theorem zK2 (ok:SlOK sl)(h0:GOK t (g0 g))(k:EI t nx.2)(hm:MR t m1 m2):EqE t (uG sl g more v m1 nx) (uG sl g more v m2 nx):=
 .ite (λc1=>.ite (λc2=>by unfold getS;rw[hm.get ok c2 c1 h0 k];exact .acc hm) λ_=>.flt) λ_=>.bad
theorem zJO (hm:MR t m1 m2):EqE t (wU sl g more v m1 nx) (wU sl g more v m2 nx):=.ite (λc1=>.ite (λc2=>.acc hm.put) λ_=>.flt) λ_=>.bad
theorem zCS (ok:SlOK sl)(ha:okA nx.2 e=true)(h0:GOK t e)(k:EI t nx.2)(hm:MR t m1 m2):zc sl m1 e.1 w d=zc sl m2 e.1 w d:=by
 unfold zc;by_cases c:z7 sl e.1 w=true
 ·rw[if_pos c];rw[if_pos c];exact hm.get (w:=(w:Int)) ok c ha h0 k
 ·rw[if_neg c];rw[if_neg c]
theorem zKh (ok:SlOK sl)(h1:GOK t (g1 g))(k:EI t nx.2)(hm:MR t m1 m2):EqE t (jm sl g m1 nx) (jm sl g m2 nx):=by
 refine .ite (λ_=>?_) λ_=>.flt;by_cases c:(okA nx.2 (g1 g)&&offE nx.2 (farV sl m1 (g1 g).1))=true
 ·obtain⟨c1,c2⟩:=Bool.and_eq_true_iff.mp c;have e1:farV sl m1 (g1 g).1=farV sl m2 (g1 g).1:=zCS (w:=4) ok c1 h1 k hm;have e2:zc sl m1 (g1 g).1 1 300=zc sl m2 (g1 g).1 1 300:=zCS (w:=1) ok c1 h1 k hm;have e3:zc sl m1 (farV sl m1 (g1 g).1) 1 400=zc sl m2 (farV sl m1 (g1 g).1) 1 400:=zCS (e:=(farV sl m1 (g1 g).1,none)) (w:=1) ok c2 (λs q=>nomatch q) k hm;unfold seeV seeN;rw[<-e1];rw[<-e2];rw[<-e3];rw[if_pos c];rw[if_pos c];exact .same hm
 ·rw[if_neg c];exact .bad
theorem effB (ok:SlOK sl)(h0:GOK t (g0 g))(h1:GOK t (g1 g))(k:EI t nx.2)(hm:MR t m1 m2):EqE t (effT sl p g m1 nx) (effT sl p g m2 nx):=
 .ite (λ_=>zK2 ok h0 k hm) λ_=>.ite (λ_=>zJO hm) λ_=>.ite (λ_=>.same hm) λ_=>.ite (λ_=>.same hm) λ_=>.ite (λ_=>zKh ok h1 k hm) λ_=>.same hm
end
def TkS (sl:Za)(am:Zc)(t:Nat)(p:PS):Prop:=∀i o,p.args[i]?=some o->o.1=true->∀s,lk am o.2=some s->zN sl p i s=true\/zD t s=true
theorem zGa (h:wP am t p=true):p.op=1/\∃o s,p.args[0]?=some o/\o.1=true/\lk am o.2=some s/\zD t s=false:=by
 unfold wP at h;by_cases q:(!(Nat.beq p.op 1))=true
 ·rw[if_pos q] at h;cases h
 ·rw[if_neg q] at h;rw[not_eq_true'] at q;rw[Bool.not_eq_false] at q;refine⟨Nat.eq_of_beq_eq_true q,?_⟩;cases e:p.args[0]? with
  | none=>rw[e] at h;cases h
  | some o=>
   rw[e] at h;obtain⟨h1,h2⟩:=Bool.and_eq_true_iff.mp h;cases e2:lk am o.2 with
   | none=>rw[e2] at h2;cases h2
   | some s=>
    rw[e2] at h2;exact⟨o,s,rfl,h1,e2,by rw[<-not_eq_true'];exact h2⟩
theorem vA (h:zN sl p i s=true):p.op=1/\i=0/\p.vol=false/\wI p.more<=zP sl s:=by
 unfold zN at h;by_cases q:(!(Nat.beq p.op 1)||!(Nat.beq i 0)||p.vol)=true
 ·rw[if_pos q] at h;cases h
 ·rw[if_neg q] at h;rw[or_eq_true] at q;rw[or_eq_true] at q;rw[not_or] at q;rw[not_or] at q;rw[not_eq_true'] at q;rw[not_eq_true'] at q;rw[Bool.not_eq_false] at q;rw[Bool.not_eq_false] at q;rw[not_eq_true] at q;exact⟨Nat.eq_of_beq_eq_true q.1.1,Nat.eq_of_beq_eq_true q.1.2,q.2,of_decide_eq_true h⟩
theorem zFC (h1:p.op=1)(h2:p.args[0]?=some o)(h3:o.1=true)(h4:lk am o.2=some s):wP am t p=!zD t s:=by unfold wP;rw[if_neg (by rw[h1];decide)];rw[h2];show (o.1&&_)=_;rw[h3];rw[h4];rfl
theorem TkS.kept {t:Nat}(h:TkS sl am t p)(n:wP am t p=false){i:Nat}(ho:p.args[i]?=some o)(h1:o.1=true){s:Int}(hs:lk am o.2=some s):zD t s=true:=by refine(h i o ho h1 s hs).elim (λq=>?_) id;refine w3 (vA q) λq1 eq1 _=>?_;subst eq1;rw[zFC q1 ho h1 hs] at n;rw[<-Bool.not_eq_false'];exact n
theorem zDM:∀{args:List Opd} {g:Gv},wL kn args=some g->∀{i:Nat} {o:Opd},args[i]?=some o->argT kn o=some (g.getD i (0,none)):=λ{args}=>by
 induction args with
 | nil=>exact λ_ _ _ h=>nomatch h
 | cons a l ih=>
  intro g h i o ho;obtain⟨h1,g',h2,h3⟩:=zAM h;rw[h3];cases i with
  | zero=>cases Option.some.inj ho;exact h1
  | succ i=>exact ih h2 ho
theorem zJn {t:Nat}(h:TkS sl am t p)(n:wP am t p=false)(hk:KI am (zD t ·=true) kn)(hg:wL kn p.args=some g){i:Nat}(hi:i<p.args.length):GOK t (g.getD i (0,none)):=λs hs=>by
 have ho:p.args[i]?=some p.args[i]:=getElem?_eq_getElem hi;have ha:=zDM hg ho;generalize p.args[i]=o at ho ha;cases c:o.1 with
 | false=>rw[zAR ha c] at hs;cases hs
 | true=>exact((hk _ _ (jD ha c).1).2 s hs).elim (λq=>h.kept n ho c q) id
theorem zBl:∀{args:List Opd} {g:Gv},wL kn args=some g->g.length=args.length:=λ{args}=>by
 induction args with
 | nil=>exact λh=>by rw[<-Option.some.inj h];rfl
 | cons a l ih=>
  intro g h;obtain⟨_,g',h2,h3⟩:=zAM h;rw[h3];exact congrArg (· + 1) (ih h2)
theorem gokN (h:TkS sl am t p)(n:wP am t p=false)(hk:KI am (zD t ·=true) kn)(hg:wL kn p.args=some g)(i:Nat):GOK t (g.getD i (0,none)):=by
 by_cases q:i<p.args.length
 ·exact zJn h n hk hg q
 ·rw[<-zBl hg] at q;rw[getD_eq_getElem?_getD];rw[getElem?_eq_none (le_of_not_lt q)];exact λs hs=>nomatch hs
theorem zKd (hd:DrS p)(h:effT sl p g mem nx=some (some o)):o.2.2.2=nx.2\/o.2.2.2=escE nx.2 (g1 g).2:=by
 have ac:∀{op:Nat} {more:Val} {v:Bool} {x:Int} {mem':Me} {nx':Nx},accE op g more v x mem' nx'=some (some o)->o.2.2.2=nx'.2:=λ{op more v x mem' nx'} q=>by
  unfold accE at q;rw[<-Option.some.inj (Option.some.inj q)];cases v<;>rfl
 cases hd with
 | ar h1=>rw[vN h1] at h;exact .inl (by rw[<-Option.some.inj (Option.some.inj h)])
 | load=>
  have h:uG sl g _ _ mem nx=some (some o):=h;unfold uG at h;exact .inl (ac (wg (wQ h rfl).2).2)
 | store=>
  have h:wU sl g _ _ mem nx=some (some o):=h;unfold wU at h;exact .inr (ac (wg (wQ h rfl).2).2)
 | call=>
  have h:jm sl g mem nx=some (some o):=h;unfold jm at h;exact .inl (by rw[<-Option.some.inj (Option.some.inj (wQ (wg h).2 rfl).2)])
 | slot=>exact .inl (by rw[<-Option.some.inj (Option.some.inj h)])
 | name=>exact .inl (by rw[<-Option.some.inj (Option.some.inj h)])
 | cpy=>exact .inl (by rw[<-Option.some.inj (Option.some.inj h)])
 | con=>exact .inl (by rw[<-Option.some.inj (Option.some.inj h)])
theorem EI.eX (h:EI t E)(g:GOK t e):EI t (escE E e.2):=by
 unfold escE;cases q:e.2 with
 | none=>exact h
 | some s=>
  intro r hr;by_cases c:r=s
  ·rw[c];exact g s q
  ·refine h r ?_;unfold zD at hr ⊢;obtain⟨h1,h2⟩:=Bool.and_eq_true_iff.mp hr;rw[h1];have hs:=g s q;unfold zD at hs;have hs:=of_decide_eq_true (Bool.and_eq_true_iff.mp hs).1;have h1:=of_decide_eq_true h1;have h2:(setb E s).testBit r.toNat=true:=h2;unfold setb at h2;rw[Nat.testBit_or] at h2;rw[Nat.testBit_two_pow] at h2;rw[decide_eq_false (λe=>c ((toNat_of_nonneg h1).symm.trans ((congrArg Int.ofNat e.symm).trans (toNat_of_nonneg hs))):¬s.toNat=r.toNat)] at h2;rw[Bool.or_false] at h2;rw[h2];rfl
theorem zEM (ok:SlOK sl){t:Nat}(hd:DrS p)(h:TkS sl am t p)(hs:wP am t p=true)(h3:∀k s,lk am k=some s->s<3)(hk:KI am (zD t ·=true) kn)(hg:wL kn p.args=some g)(he:effT sl p g mem nx=some o) :
  p.dst=-1/\∃mem',o=some ((0,none),mem',nx)/\∀m2,MR t mem m2->MR t mem' m2:=by
 obtain⟨e1,o1,s,e2,e3,e4,e5⟩:=zGa hs;refine vr (vA ((h 0 o1 e2 e3 s e4).resolve_right (by rw[e5];decide))) λ_ _ v0 wl=>?_;have hx:=jD (zDM hg e2) e3;have hs2:=(hk _ _ hx.1).1 s e4;have s3:=h3 _ _ e4;cases hd with
 | ar q=>exact absurd e1 (zFb q rfl)
 | @store w a b v _=>
  have v0:v=false:=v0;subst v0;refine⟨rfl,?_⟩;have he:wU sl g (.int w) false mem nx=some o:=he;unfold wU at he;obtain⟨c,he⟩:=wQ he rfl;obtain⟨c,c2⟩:=Bool.and_eq_true_iff.mp c;refine w3 (zAp (e:=g0 g) c hs2) λs0 s1 ea=>?_;have n1:(g1 g).2=none:=by
   unfold stOK at c2;rw[show (g0 g).2=some s from hs2] at c2;rw[show ((some s).elim true λs:Int=>decide (3<=s))=false from decide_eq_false (Int.not_le.mpr s3)] at c2;rw[Bool.or_false] at c2;exact Option.isNone_iff_eq_none.mp c2
  have wl:w<=zP sl s:=wl;have th:=zAB s0 (by rw[ok.len];exact s1) wl;have hw:w<=8:=zFo ok th;rw[ea] at he;rw[if_pos (show z7 sl (home s) (wI (.int w))=true from th)] at he;rw[n1] at he;exact⟨_,(Option.some.inj he).symm,λm2 hm=>hm.dh e5 s0 s1 hw⟩
 | cpy=>cases e1
 | con=>cases e1
 | load=>cases e1
 | call=>cases e1
 | slot=>cases e1
 | name=>cases e1
inductive RelB (t:Nat)(b:Bool)(s:MSt)(o:Option (Bool×MSt)):Prop where
 | mk (m:Me) (e:o=some (b,(s.1,m,s.2.2))) (h:MR t s.2.1 m)
theorem zDC (h:wP am t p=false):zq am t (p::r)=p::zq am t r:=List.filter_cons_of_pos (p:=λp=>!wP am t p) (by rw[h];rfl)
theorem zEs (h:wP am t p=true):zq am t (p::r)=zq am t r:=List.filter_cons_of_neg (p:=λp=>!wP am t p) (by rw[h];decide)
end
section
structure BSt (sl:Za)(am:Zc)(t:Nat)(p:PS):Prop where
 dr:DrS p
 sr:SR am (zD t ·=true) p
 tk:TkS sl am t p
theorem zDY (ok:SlOK sl)(h3:∀k s,lk am k=some s->s<3):∀{ps:List PS},(∀p∈ps,BSt sl am t p)->∀{s1:MSt} {m2:Me},KI am (zD t ·=true) s1.1->EI t s1.2.2.2->MR t s1.2.1 m2->∀{b:Bool} {s1':MSt},runS sl ps s1=some (b,s1')->RelB t b s1' (runS sl (zq am t ps) (s1.1,m2,s1.2.2))/\KI am (zD t ·=true) s1'.1/\EI t s1'.2.2.2:=λ{ps}=>by
 induction ps with
 | nil=>
  intro _ s1 m2 hk hE hm b s1' h;have h:some (true,s1)=some (b,s1'):=h;cases Option.some.inj h;exact⟨⟨m2,rfl,hm⟩,hk,hE⟩
 | cons p ps ih=>
  intro hp s1 m2 hk hE hm b s1' h;have ih:=@ih (zL hp);obtain⟨hd,hr,ht⟩:=hp p (.head _);refine zC (Option.bind_eq_some_iff.mp ((wZ sl p ps s1).symm.trans h)) λo h1 h2=>?_;refine wF (zAV h1) λg o' hg he eq4=>?_;subst eq4;cases c:wP am t p with
  | true=>
   rw[zEs c];obtain⟨d,mem',h4,h5⟩:=zEM ok hd ht c h3 hk hg he;subst h4;have hk2:=KI.step hd hr hk he;have e:setK s1.1 p.dst (0,none)=s1.1:=by unfold setK;rw[d];exact if_neg ()
   rw[e] at hk2;have h2:runS sl ps (setK s1.1 p.dst (0,none),mem',s1.2.2)=some (b,s1'):=h2;rw[e] at h2;exact ih (s1:=(s1.1,mem',s1.2.2)) hk2 hE (h5 _ hm) h2
  | false=>
   rw[zDC c];rw[wZ];have k0:GOK t (g0 g):=gokN ht c hk hg 0;have k1:GOK t (g1 g):=gokN ht c hk hg 1;refine zC (effB ok k0 k1 hE hm _ he) λo2 he2 hrel=>?_;rw[uj (s:=(s1.1,m2,s1.2.2)) hg he2];cases hrel with
   | none=>
    have h2:some (false,s1)=some (b,s1'):=h2;cases Option.some.inj h2;exact⟨⟨m2,rfl,hm⟩,hk,hE⟩
   | @some e n1 n2 nx hm2=>
    refine ih (s1:=(setK s1.1 p.dst e,n1,nx)) (KI.step hd hr hk he) ?_ hm2 h2;rcases zKd hd he with q | q
    ·rw[show nx.2=s1.2.2.2 from q];exact hE
    ·rw[show nx.2=escE s1.2.2.2 (g1 g).2 from q];exact hE.eX k1
theorem zEo (h:x<3000000000):¬Yr t x:=λ⟨s,_,f0,_,f2,_⟩=>absurd h (Int.not_lt.mpr (Int.le_trans (yi f0) f2))
theorem zCO (h:MR t m1 m2):outT v (kn,m1,nx)=outT v (k2,m2,nx):=by unfold outT;rw[show getW m1 8192 8=getW m2 8192 8 from zCZ λi _=>h _ (zEo (by lia))];rw[show getW m1 0 4=getW m2 0 4 from zCZ λi _=>h _ (zEo (by lia))]
theorem LsK.filter:LsK ps ((zq am t ps).map λp=>(p,false)):=by
 induction ps with
 | nil=>exact .nil
 | cons p ps ih=>
  cases c:wP am t p with
  | false=>rw[zDC c];exact .keep ih
  | true=>rw[zEs c];exact .drop ih
theorem zEI:swS am t B=withSt B (zq am t B.steps):=by
 have e:=(LsK.filter (am:=am) (t:=t) (ps:=B.steps)).map;have e1:((zq am t B.steps).map λp=>(p,false)).map (·.1)=zq am t B.steps:=by rw[map_map];exact map_id _
 have e2:chgB ((zq am t B.steps).map λp=>(p,false)) B=chS am t B:=by
  unfold chgB chS;rw[length_map];rw[any_map];rw[show (zq am t B.steps).any ((λx:PS×Bool=>x.2) ∘ λp=>(p,false))=false from List.any_eq_false.mpr λ_ _=>Bool.false_ne_true];rw[Bool.or_false]
 rw[e1] at e;rw[e2] at e;exact e
theorem simB {sl:Za}(sok:SlOK sl){am:Zc}{t:Nat}{Bs:List PB}(h3:∀k s,lk am k=some s->s<3)(ok:∀B∈Bs,∀p∈B.steps,BSt sl am t p)(ways:∀B∈Bs,∀j∈B.ways,(0:Int)<=j) :
  ∀(k:Nat) {i:Int},0<=i->∀{s1:MSt} {m2:Me},KI am (zD t ·=true) s1.1->EI t s1.2.2.2->MR t s1.2.1 m2->∀{o:Out1},runG sl Bs k i s1=some o->runG sl (zX (swS am t) (λ_=>true) 0 Bs) k i (s1.1,m2,s1.2.2)=some o:=λk=>by
 induction k with
 | zero=>
  intro i _ s1 m2 _ _ hm o h;exact(congrArg some (zCO (v:=.str "long") hm).symm).trans h
 | succ k ih=>
  intro i hi s1 m2 hK hE hm o h;rw[ja] at h ⊢;refine zC (Option.bind_eq_some_iff.mp h) λB hB h=>?_;refine zC (Option.bind_eq_some_iff.mp h) λr hr h=>?_;have hBm:=mem_of_getElem? hB;have hd:=ok B hBm;have hg:=yw (F:=swS am t) (p:=λ_=>true) (i:=0) hB;rw[if_pos rfl] at hg;rw[zEI] at hg;rw[hg];show (runS sl (zq am t B.steps) (s1.1,m2,s1.2.2)).bind _=_;obtain⟨b,s'⟩:=r;refine w3 (zDY sok h3 hd hK hE hm hr) λpq0 hK2 hE2=>?_;obtain⟨m',e,hm2⟩:=pq0;rw[e];cases b with
  | false=>
   have h:some (outT (.str "outside") s')=some o:=h;exact(congrArg some (zCO hm2).symm).trans h
  | true=>
   refine zC (Option.bind_eq_some_iff.mp (show (endV B.fin s'.1).bind _=some o from h)) λv hv h=>?_;show (endV B.fin s'.1).bind _=some o;rw[hv];show (if B.fin.op=35 then _ else _)=some o;by_cases q:B.fin.op=35
   ·rw[if_pos q] at h ⊢;exact(congrArg some (zCO hm2).symm).trans h
   ·rw[if_neg q] at h ⊢;refine zC (Option.bind_eq_some_iff.mp h) λj hj h=>?_;show (B.ways[wayI B.fin v]?).bind _=some o;rw[hj];exact ih (ways B hBm j (mem_of_getElem? hj)) hK2 hE2 hm2 h
end
section
def MSub (a b:Nat):Prop:=∀s,zD a s=true->zD b s=true
theorem MSub.setb:MSub a (Mine.Internal.setb a k):=λ_ h=>wE (u7 k) h
theorem jA (h:0<=k):zD (Mine.Internal.setb a k) k=true:=by rw[<-congrFun (yF h (m:=a)) k];rw[decide_eq_true rfl];rw[Bool.or_true]
theorem zBq:MSub t (zu sl am p i o t):=by
 unfold zu;by_cases c:o.1=true
 ·rw[if_pos c];cases e:lk am o.2 with
  | none=>exact λ_ h=>h
  | some s=>
   show MSub t (if _ then t else _);by_cases q:zN sl p i s=true
   ·rw[if_pos q];exact λ_ h=>h
   ·rw[if_neg q];exact .setb
 ·rw[if_neg c];exact λ_ h=>h
theorem zBC (c:o.1=true)(e:lk am o.2=some s)(h0:0<=s):zN sl p i s=true\/zD (zu sl am p i o t) s=true:=by
 unfold zu;rw[if_pos c];rw[e];show _\/zD (if _ then t else _) s=true;by_cases q:zN sl p i s=true
 ·exact .inl q
 ·rw[if_neg q];exact .inr (jA h0)
theorem uS:∀{args:List Opd} {i t:Nat},MSub t (z9 sl am p i args t):=λ{args}=>by
 induction args with
 | nil=>exact λ_ h=>h
 | cons o l ih=>exact λs h=>ih s (zBq s h)
theorem zAT:∀{args:List Opd} {i t:Nat} {k:Nat} {o:Opd},args[k]?=some o->o.1=true->∀{s:Int},lk am o.2=some s->0<=s->zN sl p (i+k) s=true\/zD (z9 sl am p i args t) s=true:=λ{args}=>by
 induction args with
 | nil=>exact λh=>nomatch h
 | cons a l ih=>
  intro i t k o hk c s e h0;cases k with
  | zero=>
   cases Option.some.inj hk;exact(zBC (p:=p) (i:=i) (t:=t) c e h0).imp id λq=>uS (args:=l) (i:=i+1) s q
  | succ k=>
   have:=ih (i:=i+1) (t:=zu sl am p i a t) (k:=k) hk c e h0;rw[add_right_comm] at this;exact this
theorem zBB:MSub t (zl sl am t p):=uS
theorem jW:∀{ps:List PS} {t:Nat},MSub t (ps.foldl (zl sl am) t):=λ{ps}=>by
 induction ps with
 | nil=>exact λ_ h=>h
 | cons p l ih=>exact λs h=>ih s (zBB s h)
theorem uR:∀{args:List Opd} {t:Nat},MSub t (args.foldl (zW am) t):=λ{args}=>by
 induction args with
 | nil=>exact λ_ h=>h
 | cons o l ih=>
  refine λs h=>ih s ?_;unfold zW;by_cases c:o.1=true
  ·rw[if_pos c];cases e:lk am o.2 with
   | none=>exact h
   | some s=>exact MSub.setb _ h
  ·rw[if_neg c];exact h
theorem zCf:∀{Bs:List PB} {t:Nat},MSub t (zd sl am Bs t):=λ{Bs}=>by
 induction Bs with
 | nil=>exact λ_ h=>h
 | cons B l ih=>exact λs h=>ih s (uR s (jW s h))
theorem vV (hpos:∀k s,lk am k=some s->0<=s):∀{ps:List PS} {t t':Nat},MSub (ps.foldl (zl sl am) t) t'->∀p∈ps,TkS sl am t' p:=λ{ps}=>by
 induction ps with
 | nil=>exact λ_ p h=>nomatch h
 | cons a l ih=>
  intro t t' h p hp;rcases List.mem_cons.mp hp with rfl | q
  ·intro i o ho c s e
   have:=zAT (sl:=sl) (p:=p) (i:=0) (t:=t) ho c e (hpos _ _ e);rw[zero_add] at this;exact this.imp id λq=>h s (jW (ps:=l) s q)
  ·exact ih (t:=zl sl am t a) h p q
theorem zEC (hpos:∀k s,lk am k=some s->0<=s):∀{Bs:List PB} {t t':Nat},MSub (zd sl am Bs t) t'->∀B∈Bs,∀p∈B.steps,TkS sl am t' p:=λ{Bs}=>by
 induction Bs with
 | nil=>exact λ_ B h=>nomatch h
 | cons A l ih=>
  intro t t' h B hB;rcases List.mem_cons.mp hB with rfl | q
  ·exact vV (t:=t) hpos λs hs=>h s (zCf (Bs:=l) s (uR s hs))
  ·exact ih h B q
theorem zB3 {β:Type}{l:List (Int×β)}{d j:Int}:lk (l.filter λe=>decide (e.1≠d)) j=if j=d then none else lk l j:=by
 induction l with
 | nil=>exact(ite_self none).symm
 | cons e l ih=>
  by_cases c:e.1=d
  ·rw[List.filter_cons_of_neg (by rw[decide_eq_true_iff];exact λh=>h c)];rw[ih];rw[w5];by_cases q:j=d
   ·rw[if_pos q];rw[if_pos q]
   ·rw[if_neg q];rw[if_neg q];rw[if_neg λz=>q (z.symm.trans c)]
  ·rw[List.filter_cons_of_pos (p:=λe:Int×β=>decide (e.1≠d)) (decide_eq_true c)];rw[w5];rw[w5];rw[ih];by_cases q:j=d
   ·rw[if_pos q];rw[if_pos q];rw[if_neg λz=>c (z.trans q)]
   ·rw[if_neg q];rw[if_neg q]
noncomputable def cntD (r:Int)(ss:List PS):Nat:=(ss.filter λp=>decide (p.dst=r)).length
theorem zBj (r:Int)(p:PS)(ss:List PS):cntD r (p::ss)=(if p.dst=r then 1 else 0)+cntD r ss:=by
 unfold cntD;by_cases q:p.dst=r
 ·rw[List.filter_cons_of_pos (p:=λp:PS=>decide (p.dst=r)) (decide_eq_true q)];rw[if_pos q];rw[Nat.add_comm];rfl
 ·rw[List.filter_cons_of_neg (by rw[decide_eq_true_iff];exact q)];rw[if_neg q];rw[zero_add]
theorem zEA (hr:(lk rg r).isSome=true):∀{ss:List PS} {T:List (Int×Int)},(lk (ss.foldl (z5 rg) T) r).getD 0=(lk T r).getD 0+cntD r ss:=λ{ss}=>by
 induction ss with
 | nil=>exact λ{T}=>(add_zero _).symm
 | cons p l ih=>
  intro T;rw[foldl_cons];rw[ih];rw[zBj];unfold z5;by_cases q:p.dst=r
  ·rw[if_pos q];rw[q];rw[if_pos hr];rw[zAm];rw[if_pos rfl];show _+1+(cntD r l:Int)=_+((1+cntD r l:Nat):Int)
   lia
  ·rw[if_neg q];rw[zero_add];by_cases c:(lk rg p.dst).isSome=true
   ·rw[if_pos c];rw[zAm];rw[if_neg λz=>q z.symm]
   ·rw[if_neg c]
theorem zGr (h:p∈ss)(e:p.dst=r):0<cntD r ss:=List.length_pos_of_mem (List.mem_filter.mpr ⟨h,decide_eq_true e⟩)
theorem zDJ (h:cntD r ss=1)(hp:p∈ss)(ep:p.dst=r)(hq:q∈ss)(eq:q.dst=r):p=q:=by obtain⟨x,hx⟩:=List.length_eq_one_iff.mp h;have h1:p∈[x]:=hx▸List.mem_filter.mpr ⟨hp,decide_eq_true ep⟩;have h2:q∈[x]:=hx▸List.mem_filter.mpr ⟨hq,decide_eq_true eq⟩;rw[List.mem_singleton.mp h1];rw[List.mem_singleton.mp h2]
theorem zHw:∀{ps:List PS} {l:Zc} {r s:Int},lk (ps.foldl (λl p=>st l p.dst (wI p.more)) l) r=some s->lk l r=some s\/∃p∈ps,p.dst=r/\wI p.more=s:=λ{ps}=>by
 induction ps with
 | nil=>exact λh=>.inl h
 | cons p ps ih=>
  intro l r s h;rcases ih h with h | ⟨q,h1,h2⟩
  ·rw[zAm] at h;by_cases q:r=p.dst
   ·rw[if_pos q] at h;exact .inr ⟨p,.head _,q.symm,Option.some.inj h⟩
   ·rw[if_neg q] at h;exact .inl h
  ·exact .inr ⟨q,.tail _ h1,h2⟩
theorem zGn {O:List (Int×Int)}:∀{ps:List PS} {s:Zc×Nat},(∀r v,lk (ps.foldl (zT O) s).1 r=some v->lk s.1 r=some v/\∀p∈ps,p.dst=r->(lk O r).getD 0=1) /\
  (∀r v,lk s.1 r=some v->(lk O r).getD 0=1->lk (ps.foldl (zT O) s).1 r=some v)/\MSub s.2 (ps.foldl (zT O) s).2/\∀p∈ps,(lk O p.dst).getD 0≠1->0<=wI p.more->zD (ps.foldl (zT O) s).2 (wI p.more)=true:=λ{ps}=>by
 induction ps with
 | nil=>exact λ{s}=>⟨λr v h=>⟨h,λp q=>nomatch q⟩,λr v h _=>h,λ_ h=>h,λp q=>nomatch q⟩
 | cons p ps ih=>
  intro s;rw[foldl_cons];have i:=@ih (zT O s p);by_cases c:(lk O p.dst).getD 0=1
  ·have e:zT O s p=s:=if_pos (beq_iff_eq.mpr c);rw[e] at i ⊢;refine vr i λi1 i2 i3 i4=>?_;refine⟨λr v h=>?_,i2,i3,λq hq n=>?_⟩
   ·obtain⟨h1,h2⟩:=i1 r v h;exact⟨h1,λq hq e=>(List.mem_cons.mp hq).elim (λz=>e▸z▸c) λz=>h2 q z e⟩
   ·exact(List.mem_cons.mp hq).elim (λz=>absurd (z▸c) n) λz=>i4 q z n
  ·have e:zT O s p=(s.1.filter λe=>decide (e.1≠p.dst),setb s.2 (wI p.more)):=if_neg λz=>c (beq_iff_eq.mp z);rw[e] at i ⊢;refine vr i λi1 i2 i3 i4=>?_;refine⟨λr v h=>?_,λr v h h1=>?_,λx hx=>i3 x (MSub.setb x hx),λq hq n h0=>?_⟩
   ·obtain⟨h1,h2⟩:=i1 r v h;rw[zB3] at h1;by_cases z:r=p.dst
    ·rw[if_pos z] at h1;cases h1
    ·rw[if_neg z] at h1;exact⟨h1,λq hq e=>(List.mem_cons.mp hq).elim (λy=>absurd (e.symm.trans (congrArg PS.dst y)) z) λy=>h2 q y e⟩
   ·refine i2 r v ?_ h1;rw[zB3];rw[if_neg λz:r=p.dst=>c (z▸h1)];exact h
   ·exact(List.mem_cons.mp hq).elim (λz=>by rw[z] at h0 ⊢;exact i3 _ (jA h0)) λz=>i4 q z n h0
theorem zBP (h:p∈ps):(lk (ye ps) p.dst).isSome=true:=(wO _ _).mpr (ux ps [] p.dst (.inr ⟨p,h,rfl⟩))
theorem zEV (h:p∈ss)(e:p.op=9):p∈zg ss:=List.mem_filter.mpr ⟨h,by rw[e];rfl⟩
theorem lk0 (v:β)(W:List Int):∀(l:List (Int×β)) (j:Int),lk (W.foldl (λl i=>st l i v) l) j=if j∈W then some v else lk l j:=by
 induction W with
 | nil=>exact λl j=>(if_neg not_mem_nil).symm
 | cons i W ih=>
  intro l j;rw[foldl_cons];rw[ih];rw[zAm];by_cases q:j∈W
  ·rw[if_pos q];rw[if_pos (List.mem_cons_of_mem _ q)]
  ·rw[if_neg q];by_cases z:j=i
   ·rw[if_pos z];rw[if_pos (z▸List.mem_cons_self)]
   ·rw[if_neg z];rw[if_neg λy=>(List.mem_cons.mp y).elim z q]
theorem zDz (hr:(lk rg r).isSome=true):(lk (wu pa rg ss) r).getD 0=(if r∈pa then 1 else 0)+(cntD r ss:Int):=by
 unfold wu;rw[zEA hr];rw[lk0];by_cases q:r∈pa
 ·rw[if_pos q];rw[if_pos q];rfl
 ·rw[if_neg q];rw[if_neg q];rfl
structure Yv (sl:Za)(pa:List Int)(ss:List PS)(R:Zc×Nat):Prop where
 only:∀p∈ss,∀s,lk R.1 p.dst=some s->p.op=9/\p.more=.int s
 slot:∀p∈ss,p.op=9->∀s,p.more=.int s->lk R.1 p.dst=some s\/zD R.2 s=true
 src:∀k s,lk R.1 k=some s->0<=s/\(∃p∈ss,p.op=9/\p.dst=k/\p.more=.int s)/\k∉pa
 tk:∀s,zD R.2 s=true->∃p∈ss,p.op=9/\p.more=.int s/\(p.dst∈pa\/cntD p.dst ss≠1)
theorem zGm:∀{ps:List PS} {s:Zc×Nat},(∀p∈ps,0<=wI p.more)->∀x,zD (ps.foldl (zT O) s).2 x=true->zD s.2 x=true\/∃p∈ps,(lk O p.dst).getD 0≠1/\wI p.more=x:=λ{ps}=>by
 induction ps with
 | nil=>exact λ_ x h=>.inl h
 | cons p ps ih=>
  intro s h0 x h;rw[foldl_cons] at h;rcases ih (zL h0) x h with h | ⟨q,hq,h1⟩
  ·by_cases c:(lk O p.dst).getD 0=1
   ·rw[show zT O s p=s from if_pos (beq_iff_eq.mpr c)] at h;exact .inl h
   ·rw[show zT O s p=(s.1.filter λe=>decide (e.1≠p.dst),setb s.2 (wI p.more)) from if_neg λz=>c (beq_iff_eq.mp z)] at h;have h:zD (setb s.2 (wI p.more)) x=true:=h;rw[<-congrFun (yF (h0 p (.head _)) (m:=s.2)) x] at h;rw[or_eq_true] at h;rw[decide_eq_true_iff] at h;exact h.elim (λq=>.inl q) λq=>.inr ⟨p,.head _,c,q.symm⟩
  ·exact .inr ⟨q,.tail _ hq,h1⟩
theorem zAD (hw:∀p∈ss,Z6 sl p):Yv sl pa ss (zK pa ss):=by
 unfold zK;refine vr (@zGn (wu pa (ye (zg ss)) ss) (zg ss) (ye (zg ss),0)) λd1 d2 _ d4=>?_;have src:∀r s,lk (ye (zg ss)) r=some s->∃q∈zg ss,q.dst=r/\wI q.more=s:=λr s h=>(zHw h).resolve_left λz=>nomatch z
 have cnt:∀q∈zg ss,(lk (wu pa (ye (zg ss)) ss) q.dst).getD 0=(if q.dst∈pa then 1 else 0)+(cntD q.dst ss:Int):=λq hq=>zDz (zBP hq);have one:∀q∈zg ss,(lk (wu pa (ye (zg ss)) ss) q.dst).getD 0=1->q.dst∉pa/\cntD q.dst ss=1:=λq hq h=>by
  have h0:=zGr (r:=q.dst) (zn hq).1 rfl;rw[cnt q hq] at h;by_cases c:q.dst∈pa
  ·rw[if_pos c] at h;lia
  ·rw[if_neg c] at h;exact⟨c,by lia⟩
 refine⟨λp hp s h=>?_,λp hp e s hs=>?_,λk s h=>?_,λs h=>?_⟩
 ·obtain⟨h1,h2⟩:=d1 _ _ h;refine zU (src _ _ h1) λq hq e1 e2=>?_;have h3:=h2 q hq e1;rw[<-e1] at h3;obtain⟨q1,q2⟩:=zn hq
  have:=zDJ (r:=q.dst) (ss:=ss) (one q hq h3).2 hp e1.symm q1 rfl;subst this;refine zC (hw p hp q2) λi ei _=>?_;rw[ei] at e2;exact⟨q2,by rw[ei];exact congrArg Val.int e2⟩
 ·have hq:=zEV hp e;refine zU (hw p hp e) λi ei h0 _=>?_;have es:i=s:=by rw[hs] at ei;cases ei;rfl
  subst es;by_cases c:(lk (wu pa (ye (zg ss)) ss) p.dst).getD 0=1
  ·refine .inl ?_;obtain⟨v,hv⟩:=Option.isSome_iff_exists.mp (zBP hq);refine zU (src _ _ hv) λq hq' e1 e2=>?_
   have:=zDJ (r:=p.dst) (ss:=ss) (one p hq c).2 (zn hq').1 e1 hp rfl;subst this;rw[hs] at e2;have e2:i=v:=e2;subst e2;exact d2 _ _ hv c
  ·have:=d4 p hq c (by rw[hs];exact h0);rw[hs] at this;exact .inr this
 ·obtain⟨h1,h2⟩:=d1 _ _ h;refine zU (src _ _ h1) λq hq e1 e2=>?_;have h3:=one q hq (by rw[e1];exact h2 q hq e1);obtain⟨q1,q2⟩:=zn hq;refine zU (hw q q1 q2) λi ei h0 _=>?_;rw[ei] at e2;have e2:i=s:=e2;exact⟨e2▸h0,⟨q,q1,q2,e1,e2▸ei⟩,e1▸h3.1⟩
 ·have hm:∀p∈zg ss,∃i:Int,p.more=.int i/\0<=i:=λp hp=>by
   refine zU (hw p (zn hp).1 (zn hp).2) λi ei h0 _=>?_;exact⟨i,ei,h0⟩
  rcases zGm (λp hp=>by refine zC (hm p hp) λi ei h0=>?_;rw[ei];exact h0) s h with h | ⟨p,hp,h1,h2⟩
  ·rw[show zD 0 s=false from by unfold zD;rw[Nat.zero_testBit];rw[Bool.and_false]] at h;cases h
  ·refine zC (hm p hp) λi ei h0=>?_;rw[ei] at h2;have h2:i=s:=h2;subst h2;refine⟨p,(zn hp).1,(zn hp).2,ei,?_⟩;by_cases c:p.dst∈pa
   ·exact .inl c
   ·refine .inr λc1=>h1 ?_;rw[cnt p hp];rw[if_neg c];rw[c1];rfl
end
section
def flW (IW:List (Int×Bool))(j:Int):Prop:=(lk IW j).getD false=true
theorem zC2:flW (st IW i b) j↔if j=i then b=true else flW IW j:=by
 unfold flW;rw[zAm];by_cases q:j=i
 ·rw[if_pos q];rw[if_pos q];exact Iff.rfl
 ·rw[if_neg q];rw[if_neg q]
structure WkR (AH:List (Int×Nat))(W:List Int)(IW:List (Int×Bool))(l:List Int)(r:List Int×List (Int×Bool))(ext:List Int):Prop where
 e:r.1=W++ext
 len:ext.length<=l.length
 inA:∀x∈ext,(lk AH x).isSome=true
 up:∀j,flW IW j->flW r.2 j
 all:∀o∈l,(lk AH o).isSome=true->flW r.2 o
 src:∀j,flW r.2 j->flW IW j\/j∈ext
theorem zFm {AH:List (Int×Nat)}:∀{l W:List Int} {IW:List (Int×Bool)},∃ext,WkR AH W IW l (l.foldl (wake AH) (W,IW)) ext:=λ{l}=>by
 induction l with
 | nil=>exact λ{W IW}=>⟨[],(append_nil W).symm,le_refl _,zH,λ_ h=>h,zH,λ_ h=>.inl h⟩
 | cons o l ih=>
  intro W IW;show ∃ext,WkR AH W IW (o::l) (l.foldl (wake AH) (wake AH (W,IW) o)) ext;by_cases c:((lk AH o).isSome&&!((lk IW o).getD false))=true
  ·have e:wake AH (W,IW) o=(W++[o],st IW o true):=if_pos c;rw[e];obtain⟨ext,r⟩:=@ih (W++[o]) (st IW o true);refine⟨o::ext,by rw[r.e];rw[append_assoc];rfl,succ_le_succ r.len,zB (Bool.and_eq_true_iff.mp c).1 r.inA,λj h=>r.up j ?_,zB (λ_=>r.up o ?_) r.all,λj h=>?_⟩
   ·rw[zC2];by_cases q:j=o
    ·rw[if_pos q]
    ·rw[if_neg q];exact h
   ·rw[zC2];rw[if_pos rfl]
   ·rcases r.src j h with h | h
    ·rw[zC2] at h;by_cases q:j=o
     ·exact .inr (q▸.head _)
     ·rw[if_neg q] at h;exact .inl h
    ·exact .inr (.tail _ h)
  ·have e:wake AH (W,IW) o=(W,IW):=if_neg c;rw[e];obtain⟨ext,r⟩:=@ih W IW;refine⟨ext,r.e,le_succ_of_le r.len,r.inA,r.up,zB (λh=>r.up o ?_) r.all,r.src⟩;rw[h] at c;rw[Bool.true_and] at c;rw[not_eq_true'] at c;rw[Bool.not_eq_false] at c;exact c
theorem zBX {sl:Za}{am:Zc}{Bs:List PB}{L:List (List Int)}{k:Nat}{W:List Int}{a:Nat}{AH:List (Int×Nat)}{IW:List (Int×Bool)}(h:W[a]?=none):naGo sl am Bs L (k+1) W a AH IW=some AH:=by show (match W[a]? with | none=>_ | some i=>_)=_;rw[h]
theorem zBW {sl:Za}{am:Zc}{Bs:List PB}{L:List (List Int)}{k:Nat}{W:List Int}{a:Nat}{AH:List (Int×Nat)}{IW:List (Int×Bool)}{i:Int}{B:PB}(h:W[a]?=some i)(hB:Bs[i.toNat]?=some B):naGo sl am Bs L (k+1) W a AH IW =
  if Nat.beq (needP sl am B.steps B.fin.args (zJ AH B.ways)) (zV AH i) then naGo sl am Bs L k W (a+1) AH (st IW i false)
  else naGo sl am Bs L k ((L.getD i.toNat []).foldl (wake (st AH i (needP sl am B.steps B.fin.args (zJ AH B.ways)))) (W,st IW i false)).1 (a+1) (st AH i (needP sl am B.steps B.fin.args (zJ AH B.ways))) ((L.getD i.toNat []).foldl (wake (st AH i (needP sl am B.steps B.fin.args (zJ AH B.ways)))) (W,st IW i false)).2:=by show (match W[a]? with | none=>_ | some i=>_)=_;rw[h];show (match Bs[i.toNat]? with | none=>_ | some B=>_)=_;rw[hB];rfl
noncomputable def pc (m:Nat):Nat:=((List.range 11).filter m.testBit).length
def B9 (m:Nat):Prop:=∀r,m.testBit r=true->r<11
theorem zFO {l:List Nat}{p q:Nat->Bool}(h:∀x∈l,p x=true->q x=true):(l.filter p).length<=(l.filter q).length:=by
 induction l with
 | nil=>exact le_refl _
 | cons a l ih=>
  have i:=ih λx hx=>h x (.tail _ hx);cases c:p a with
  | true=>rw[List.filter_cons_of_pos c];rw[List.filter_cons_of_pos (h a (.head _) c)];exact succ_le_succ i
  | false=>
   rw[List.filter_cons_of_neg (by rw[c];decide)];cases d:q a with
   | true=>rw[List.filter_cons_of_pos d];exact le_succ_of_le i
   | false=>rw[List.filter_cons_of_neg (by rw[d];decide)];exact i
theorem zFN {l:List Nat}{p q:Nat->Bool}(h:∀x∈l,p x=true->q x=true){y:Nat}(hy:y∈l)(y1:p y=false)(y2:q y=true):(l.filter p).length<(l.filter q).length:=by
 induction l with
 | nil=>cases hy
 | cons a l ih=>
  have hh:∀x∈l,p x=true->q x=true:=λx hx=>h x (.tail _ hx);rcases List.mem_cons.mp hy with rfl | z
  ·rw[List.filter_cons_of_neg (by rw[y1];decide)];rw[List.filter_cons_of_pos y2];exact Nat.lt_succ_of_le (zFO hh)
  ·have i:=ih hh z;cases c:p a with
   | true=>rw[List.filter_cons_of_pos c];rw[List.filter_cons_of_pos (h a (.head _) c)];exact Nat.succ_lt_succ i
   | false=>
    rw[List.filter_cons_of_neg (by rw[c];decide)];cases d:q a with
    | true=>rw[List.filter_cons_of_pos d];exact lt_succ_of_lt i
    | false=>rw[List.filter_cons_of_neg (by rw[d];decide)];exact i
theorem zKU:pc m<=11:=length_filter_le (p:=m.testBit) (List.range 11)
theorem zIB {a b:Nat}(h:Sub a b)(hb:B9 b)(n:b≠a):pc a<pc b:=by
 obtain⟨r,h1⟩:=Classical.not_forall.mp λz=>n (Nat.eq_of_testBit_eq z)
 have:b.testBit r=true/\a.testBit r=false:=by
  cases c:a.testBit r with
  | true=>rw[c] at h1;exact absurd (h r c) h1
  | false=>rw[c] at h1;exact⟨by rw[<-Bool.not_eq_false];exact h1,rfl⟩
 exact zFN (λx _=>h x) (List.mem_range.mpr (hb r this.1)) this.2 this.1
theorem B9.or (h:B9 a)(k:B9 b):B9 (a ||| b):=λr q=>by
 rw[Nat.testBit_or] at q;rw[or_eq_true] at q;exact q.elim (h r) (k r)
theorem B9.add:∀{m:Nat},B9 m->(∀o∈args,o.1=true->o.2.toNat<11)->B9 (addA m args):=by
 induction args with
 | nil=>exact λh _=>h
 | cons o l ih=>
  intro m h k;refine ih (m:=if o.1 then setb m o.2 else m) ?_ λx hx=>k x (.tail _ hx);by_cases c:o.1=true
  ·rw[if_pos c];refine h.or λr q=>?_;rw[Nat.testBit_two_pow] at q;rw[decide_eq_true_iff] at q;exact q▸k o (.head _) c
  ·rw[if_neg c];exact h
theorem B9.step (h:B9 m)(k:∀o∈p.args,o.1=true->o.2.toNat<11):B9 (needStep sl am m p):=by
 unfold needStep;by_cases c:zD m p.dst=true
 ·rw[if_pos c];refine B9.add (λr q=>?_) k;rw[yL c] at q;exact h r (Bool.and_eq_true_iff.mp q).1
 ·rw[if_neg c];by_cases d:z8 sl am p=true
  ·rw[if_pos d];exact h
  ·rw[if_neg d];exact h.add k
theorem B9.need (h:B9 m)(k1:∀p∈ps,∀o∈p.args,o.1=true->o.2.toNat<11)(k2:∀o∈en,o.1=true->o.2.toNat<11):B9 (needP sl am ps en m):=by
 unfold needP;rw[List.foldl_reverse];have h:=h.add k2;generalize addA m en=m at h;induction ps with
 | nil=>exact h
 | cons p ps ih=>exact B9.step (ih (zL k1)) (k1 p (.head _))
theorem B9.behind (h:∀j∈ways,B9 (zV AH j)):B9 (zJ AH ways):=by
 unfold zJ;have key:∀(l:List Int) (m:Nat),B9 m->(∀j∈l,B9 (zV AH j))->B9 (l.foldl (λm j=>m ||| zV AH j) m):=λl=>by
  induction l with
  | nil=>exact λ_ h _=>h
  | cons a l ih=>exact λm h k=>ih _ (h.or (k a (.head _))) (zL k)
 exact key ways 0 (λr q=>by rw[Nat.zero_testBit] at q;cases q) h
theorem zDt (h:∀j,Sub (zV A1 j) (zV A2 j)):Sub (zJ A1 ways) (zJ A2 ways):=by
 unfold zJ;have key:∀(l:List Int) (a b:Nat),Sub a b->Sub (l.foldl (λm j=>m ||| zV A1 j) a) (l.foldl (λm j=>m ||| zV A2 j) b):=λl=>by
  induction l with
  | nil=>exact λ_ _ h=>h
  | cons a l ih=>exact λ_ _ k=>ih _ _ (k.or (h a))
 exact key ways 0 0 .refl
theorem zF9 (h:∀j∈ways,zV A1 j=zV A2 j):zJ A1 ways=zJ A2 ways:=by
 unfold zJ;generalize 0=m;induction ways generalizing m with
 | nil=>rfl
 | cons a l ih=>rw[foldl_cons];rw[foldl_cons];rw[h a (.head _)];exact ih (zL h) _
theorem wx:zV (st AH i b) j=if j=i then b else zV AH j:=by
 show (lk (st AH i b) j).getD 0=_;rw[zAm];by_cases q:j=i
 ·rw[if_pos q];rw[if_pos q];rfl
 ·rw[if_neg q];rw[if_neg q];rfl
noncomputable def wgt (W0:List Int)(AH:List (Int×Nat)):Nat:=(W0.map λi=>11 - pc (zV AH i)).sum
theorem zHM {l:List Int}{f g:Int->Nat}(h:∀x∈l,f x<=g x):(l.map f).sum<=(l.map g).sum:=by
 induction l with
 | nil=>exact le_refl _
 | cons a l ih=>rw[map_cons];rw[map_cons];rw[List.sum_cons];rw[List.sum_cons];exact add_le_add (h a (.head _)) (ih (zL h))
theorem zJL {l:List Int}{f g:Int->Nat}(h:∀x∈l,f x<=g x){y:Int}(hy:y∈l)(k:f y<g y):(l.map f).sum<(l.map g).sum:=by
 induction l with
 | nil=>cases hy
 | cons a l ih=>
  rw[map_cons];rw[map_cons];rw[List.sum_cons];rw[List.sum_cons];rcases List.mem_cons.mp hy with rfl | z
  ·exact Nat.add_lt_add_of_lt_of_le k (zHM (zL h))
  ·exact Nat.add_lt_add_of_le_of_lt (h a (.head _)) (ih (zL h) z)
structure CfOK (am:Zc)(Bs:List PB)(W0:List Int)(L:List (List Int)):Prop where
 bl:∀i∈W0,∃B,Bs[i.toNat]?=some B/\∀j∈B.ways,j∈W0
 st9:∀B∈Bs,(∀p∈B.steps,∀o∈p.args,o.1=true->o.2.toNat<11)/\∀o∈B.fin.args,o.1=true->o.2.toNat<11
 pre:∀j∈W0,∀B,Bs[j.toNat]?=some B->∀i∈B.ways,j∈L.getD i.toNat []
 two:∀i:Int,(L.getD i.toNat []).length<=2
noncomputable def fOf (sl:Za)(am:Zc)(B:PB)(AH:List (Int×Nat)):Nat:=needP sl am B.steps B.fin.args (zJ AH B.ways)
structure NaI (sl:Za)(am:Zc)(Bs:List PB)(W0 W:List Int)(a:Nat)(AH:List (Int×Nat))(IW:List (Int×Bool)):Prop where
 keys:∀j,(lk AH j).isSome=true↔j∈W0
 queue:∀j∈W.drop a,j∈W0
 wait:∀j∈W0,flW IW j->j∈W.drop a
 fix:∀j∈W0,¬flW IW j->∀B,Bs[j.toNat]?=some B->fOf sl am B AH=zV AH j
 low:∀j∈W0,∀B,Bs[j.toNat]?=some B->Sub (zV AH j) (fOf sl am B AH)
 b9:∀j∈W0,B9 (zV AH j)
theorem zJo (h:n - a+2 * s<k+1)(ha:a<n):n - (a+1)+2 * s<k:=by rw[show n - a=(n - (a+1))+1 from(sub_add_cancel (Nat.sub_pos_of_lt ha)).symm] at h;rw[add_right_comm] at h;exact Nat.lt_of_succ_lt_succ h
theorem zKb (h:n - a+2 * s<k+1)(ha:a<n)(he:e<=2)(hs:s'<s):n+e - (a+1)+2 * s'<k:=by rw[Nat.sub_add_comm ha];rw[add_assoc];exact lt_of_le_of_lt (add_le_add_left (le_trans (add_le_add_right he _) (by rw[Nat.add_comm];exact Nat.mul_le_mul_left 2 hs)) _) (zJo h ha)
theorem zJ9 {sl:Za}{am:Zc}{Bs:List PB}{W0:List Int}{L:List (List Int)}(cf:CfOK am Bs W0 L):∀(k:Nat) {W:List Int} {a:Nat} {AH:List (Int×Nat)} {IW:List (Int×Bool)},NaI sl am Bs W0 W a AH IW->W.length - a+2 * wgt W0 AH<k ->
  ∃AH',naGo sl am Bs L k W a AH IW=some AH'/\(∀j,(lk AH' j).isSome=true↔j∈W0)/\∀j∈W0,∀B,Bs[j.toNat]?=some B->fOf sl am B AH'=zV AH' j:=λk=>by
 induction k with
 | zero=>exact λ_ h=>absurd h (not_lt_zero _)
 | succ k ih=>
  intro W a AH IW I hf;cases e:W[a]? with
  | none=>
   refine⟨AH,zBX e,I.keys,λj hj B hB=>I.fix j hj (λq=>?_) B hB⟩
   have:=I.wait j hj q;rw[drop_eq_nil_of_le (List.getElem?_eq_none_iff.mp e)] at this;cases this
  | some i=>
   obtain⟨ha,hd⟩:=yl e;have hi:i∈W0:=I.queue i (hd▸.head _);refine zC (cf.bl i hi) λB hB hw=>?_;rw[zBW e hB];show ∃AH',(if Nat.beq (fOf sl am B AH) (zV AH i)=true then naGo sl am Bs L k W (a+1) AH (st IW i false) else _)=some AH'/\_;by_cases c:Nat.beq (fOf sl am B AH) (zV AH i)=true
   ·rw[if_pos c];have c:=Nat.eq_of_beq_eq_true c;refine ih ⟨I.keys,λj hj=>I.queue j (hd▸.tail _ hj),λj hj q=>?_,λj hj q B' hB'=>?_,I.low,I.b9⟩ (zJo hf ha)
    ·rw[zC2] at q;by_cases z:j=i
     ·rw[if_pos z] at q;cases q
     ·rw[if_neg z] at q;exact(List.mem_cons.mp (hd▸I.wait j hj q)).resolve_left z
    ·by_cases z:j=i
     ·subst z;rw[hB] at hB';cases hB';exact c
     ·exact I.fix j hj (λy=>q (by rw[zC2];rw[if_neg z];exact y)) B' hB'
   ·rw[if_neg c];have c:fOf sl am B AH≠zV AH i:=λz=>c (by rw[z];exact Nat.beq_refl _);show ∃AH',naGo sl am Bs L k ((L.getD i.toNat []).foldl (wake (st AH i (fOf sl am B AH))) (W,st IW i false)).1 (a+1) (st AH i (fOf sl am B AH)) ((L.getD i.toNat []).foldl (wake (st AH i (fOf sl am B AH))) (W,st IW i false)).2=some AH'/\_;have hb9:B9 (fOf sl am B AH):=by
     obtain⟨k1,k2⟩:=cf.st9 B (mem_of_getElem? hB);exact B9.need (.behind λj hj=>I.b9 j (hw j hj)) k1 k2
    have hlow:=I.low i hi B hB;have up:∀j,Sub (zV AH j) (zV (st AH i (fOf sl am B AH)) j):=λj=>by
     rw[wx];by_cases z:j=i
     ·rw[if_pos z];rw[z];exact hlow
     ·rw[if_neg z];exact .refl
    have upF:∀B',Sub (fOf sl am B' AH) (fOf sl am B' (st AH i (fOf sl am B AH))):=λB'=>(zDt up).needP;have hkeys:∀j,(lk (st AH i (fOf sl am B AH)) j).isSome=true↔j∈W0:=λj=>by
     rw[zAm];by_cases z:j=i
     ·rw[if_pos z];exact⟨λ_=>z▸hi,λ_=>rfl⟩
     ·rw[if_neg z];exact I.keys j
    obtain⟨ext,r⟩:=@zFm (st AH i (fOf sl am B AH)) (L.getD i.toNat []) W (st IW i false);generalize (L.getD i.toNat []).foldl (wake (st AH i (fOf sl am B AH))) (W,st IW i false)=rr at r;have hdr:rr.1.drop (a+1)=W.drop (a+1)++ext:=by rw[r.e];rw[List.drop_append_of_le_length ha]
    refine ih ⟨hkeys,λj hj=>?_,λj hj q=>?_,λj hj q B' hB'=>?_,λj hj B' hB'=>?_,λj hj=>?_⟩ ?_
    ·rw[hdr] at hj;exact(List.mem_append.mp hj).elim (λz=>I.queue j (hd▸.tail _ z)) λz=>(hkeys j).mp (r.inA j z)
    ·rw[hdr];refine List.mem_append.mpr ((r.src j q).imp (λq=>?_) id);rw[zC2] at q;by_cases z:j=i
     ·rw[if_pos z] at q;cases q
     ·rw[if_neg z] at q;exact(List.mem_cons.mp (hd▸I.wait j hj q)).resolve_left z
    ·have np:i∉B'.ways:=λz=>q (r.all j (cf.pre j hj B' hB' i z) ((hkeys j).mpr hj));have ef:fOf sl am B' (st AH i (fOf sl am B AH))=fOf sl am B' AH:=congrArg (needP sl am B'.steps B'.fin.args) (zF9 λx hx=>by rw[wx];rw[if_neg λz:x=i=>np (z▸hx)]);rw[ef];rw[wx];by_cases z:j=i
     ·rw[if_pos z];subst z;rw[hB] at hB';cases hB';rfl
     ·rw[if_neg z];exact I.fix j hj (λy=>q (r.up j (by rw[zC2];rw[if_neg z];exact y))) B' hB'
    ·refine Sub.trans ?_ (upF B');rw[wx];by_cases z:j=i
     ·rw[if_pos z];subst z;rw[hB] at hB';cases hB';exact .refl
     ·rw[if_neg z];exact I.low j hj B' hB'
    ·rw[wx];by_cases z:j=i
     ·rw[if_pos z];exact hb9
     ·rw[if_neg z];exact I.b9 j hj
    ·rw[r.e];rw[length_append];refine zKb hf ha (le_trans r.len (cf.two i)) (zJL (λx _=>?_) hi ?_)
     ·rw[wx];by_cases z:x=i
      ·rw[if_pos z];rw[z];exact Nat.sub_le_sub_left (le_of_lt (zIB hlow hb9 c)) 11
      ·rw[if_neg z];exact le_refl _
     ·rw[wx];rw[if_pos rfl];exact Nat.sub_lt_sub_left (lt_of_lt_of_le (zIB hlow hb9 c) zKU) (zIB hlow hb9 c)
theorem zK0 {sl:Za}{am:Zc}{Bs:List PB}{W0:List Int}{L:List (List Int)}(cf:CfOK am Bs W0 L)(hl:W0.length<=3):∃AH,naGo sl am Bs L 100 W0 0 (AH0 W0) (IW0 W0)=some AH/\(∀j,(lk AH j).isSome=true↔j∈W0)/\∀j∈W0,∀B,Bs[j.toNat]?=some B->fOf sl am B AH=zV AH j:=by
 have hz:∀j,zV (AH0 W0) j=0:=λj=>by
  show (lk (W0.foldl (λl i=>st l i 0) []) j).getD 0=0;rw[lk0];by_cases q:j∈W0
  ·rw[if_pos q];rfl
  ·rw[if_neg q];rfl
 have n0:∀r,Nat.testBit 0 r≠true:=λr q=>by rw[Nat.zero_testBit] at q;cases q
 refine zJ9 cf 100 ⟨λj=>?_,λj h=>h,λj h _=>h,λj hj q=>absurd ?_ q,λj hj B hB=>?_,λj hj=>?_⟩ ?_
 ·show (lk (W0.foldl (λl i=>st l i 0) []) j).isSome=true↔_;rw[lk0];by_cases q:j∈W0
  ·rw[if_pos q];exact⟨λ_=>q,λ_=>rfl⟩
  ·rw[if_neg q];exact⟨λz=>(nomatch z),λz=>absurd z q⟩
 ·unfold flW IW0;rw[lk0];rw[if_pos hj];rfl
 ·rw[hz];exact λr q=>absurd q (n0 r)
 ·rw[hz];exact λr q=>absurd q (n0 r)
 ·have h1:wgt W0 (AH0 W0)<=(W0.map λ_=>11).sum:=zHM λx _=>sub_le _ _;have h2:∀l:List Int,(l.map λ_=>11).sum=11 * l.length:=λl=>by
   induction l with
   | nil=>rfl
   | cons a l ih=>rw[map_cons];rw[List.sum_cons];rw[ih];rw[length_cons];rw[Nat.mul_succ];rw[Nat.add_comm]
  rw[h2] at h1;exact lt_of_le_of_lt (add_le_add (show W0.length - 0<=3 from hl) (Nat.mul_le_mul_left 2 (le_trans h1 (Nat.mul_le_mul_left 11 hl)))) ()
end
section
inductive Lss:List PS->List PS->Prop
 | nil:Lss [] []
 | drop {p:PS} {ps qs:List PS} (t:Lss ps qs):Lss (p::ps) qs
 | keep {p:PS} {ps qs:List PS} (t:Lss ps qs):Lss (p::ps) (p::qs)
 | free {p:PS} {ps qs:List PS} (h:p.op=4) (h0:0<=p.dst) (t:Lss ps qs):Lss (p::ps) (wK p::qs)
theorem Lss.refl:Lss ps ps:=by
 induction ps with
 | nil=>exact .nil
 | cons p ps ih=>exact .keep ih
theorem LsK.lss (h:LsK ps kq):Lss ps (kq.map (·.1)):=by
 induction h with
 | nil=>exact .nil
 | drop _ ih=>exact .drop ih
 | keep _ ih=>exact .keep ih
 | free h h0 _ ih=>exact .free h h0 ih
theorem Lss.trans (h:Lss a b)(k:Lss b c):Lss a c:=by
 induction h generalizing c with
 | nil=>exact k
 | drop _ ih=>exact .drop (ih k)
 | keep _ ih=>
  cases k with
  | drop t=>exact .drop (ih t)
  | keep t=>exact .keep (ih t)
  | free h h0 t=>exact .free h h0 (ih t)
 | free h h0 _ ih=>
  cases k with
  | drop t=>exact .drop (ih t)
  | keep t=>exact .free h h0 (ih t)
  | free _ h1 t=>exact absurd h1 (by show ¬(0:Int)<=-1;decide)
noncomputable def wt1 (p:PS):Nat:=if p.op=4/\0<=p.dst then 2 else 1
noncomputable def wtS (ps:List PS):Nat:=(ps.map wt1).sum
theorem wc (p:PS)(ps:List PS):wtS (p::ps)=wt1 p+wtS ps:=by unfold wtS;rw[map_cons];rw[List.sum_cons]
theorem uf (p:PS):0<wt1 p:=by
 unfold wt1;by_cases c:p.op=4/\0<=p.dst
 ·rw[if_pos c];decide
 ·rw[if_neg c];decide
theorem zDx (h:p.op=4)(h0:0<=p.dst):wt1 (wK p)<wt1 p:=by have e:wt1 (wK p)=1:=if_neg λc=>absurd c.2 (by show ¬(0:Int)<=-1;decide);rw[e];rw[show wt1 p=2 from if_pos ⟨h,h0⟩];decide
theorem LsK.wt (h:LsK ps kq):wtS (kq.map (·.1))<=wtS ps/\((Nat.blt kq.length ps.length||kq.any (·.2))=true->wtS (kq.map (·.1))<wtS ps):=by
 induction h with
 | nil=>exact⟨le_refl _,λq=>nomatch q⟩
 | @drop p ps kq _ ih=>
  rw[wc]
  have:=lt_of_le_of_lt ih.1 (Nat.lt_add_of_pos_left (uf p));exact⟨le_of_lt this,λ_=>this⟩
 | @keep p ps kq _ ih=>
  rw[map_cons];rw[wc];rw[wc];exact⟨add_le_add_left ih.1 _,λq=>Nat.add_lt_add_left (ih.2 q) _⟩
 | @free p ps kq h h0 _ ih=>
  rw[map_cons];rw[wc];rw[wc]
  have:=Nat.add_lt_add_of_lt_of_le (zDx h h0) ih.1;exact⟨le_of_lt this,λ_=>this⟩
structure SwO (F:PB->PB)(c:PB->Bool)(B:PB):Prop where
 same:c B=false->F B=B
 fin:(F B).fin=B.fin
 ways:(F B).ways=B.ways
 lss:Lss B.steps (F B).steps
 le:wtS (F B).steps<=wtS B.steps
 lt:c B=true->wtS (F B).steps<wtS B.steps
noncomputable def wtB (Bs:List PB):Nat:=(Bs.map λB=>wtS B.steps).sum
inductive Zo:List PB->List PB->Prop
 | nil:Zo [] []
 | cons {B B':PB} {Bs Bs':List PB} (h1:B'.fin=B.fin) (h2:B'.ways=B.ways) (h3:Lss B.steps B'.steps) (t:Zo Bs Bs'):Zo (B::Bs) (B'::Bs')
theorem Zo.refl {Bs:List PB}:Zo Bs Bs:=by
 induction Bs with
 | nil=>exact .nil
 | cons B Bs ih=>exact .cons rfl rfl .refl ih
theorem Zo.trans (h:Zo a b)(k:Zo b c):Zo a c:=by
 induction h generalizing c with
 | nil=>exact k
 | cons h1 h2 h3 _ ih=>cases k with | cons k1 k2 k3 k4=>exact .cons (k1.trans h1) (k2.trans h2) (h3.trans k3) (ih k4)
structure SwR (Bs Bs':List PB)(f:Bool):Prop where
 rel:Zo Bs Bs'
 same:f=false->Bs'=Bs
 le:wtB Bs'<=wtB Bs
 lt:f=true->wtB Bs'<wtB Bs
theorem zEF:∀{Bs:List PB} {i:Int},(∀B∈Bs,SwO F c B)->SwR Bs (zX F p i Bs) (zf c p i Bs):=λ{Bs}=>by
 induction Bs with
 | nil=>exact λ_=>⟨.nil,λ_=>rfl,le_refl _,λq=>nomatch q⟩
 | cons B Bs ih=>
  intro i h;have r:=@ih (i+1) (zL h);have o:=h B (.head _);have e:∀A As,wtB (A::As)=wtS A.steps+wtB As:=λA As=>by unfold wtB;rw[map_cons];rw[List.sum_cons]
  show SwR (B::Bs) ((if p i then F B else B)::zX F p (i+1) Bs) ((p i&&c B)||zf c p (i+1) Bs);cases q:p i with
  | false=>exact⟨.cons rfl rfl .refl r.rel,λz=>congrArg _ (r.same z),by rw[e];rw[e];exact add_le_add_left r.le _,λz=>by rw[e];rw[e];exact Nat.add_lt_add_left (r.lt z) _⟩
  | true=>
   rw[Bool.true_and];rw[if_pos rfl];refine⟨.cons o.fin o.ways o.lss r.rel,λz=>?_,by rw[e];rw[e];exact add_le_add o.le r.le,λz=>?_⟩
   ·rw[or_eq_false_iff] at z;rw[o.same z.1];rw[r.same z.2]
   ·rw[e];rw[e];rw[or_eq_true] at z;exact z.elim (λz=>Nat.add_lt_add_of_lt_of_le (o.lt z) r.le) λz=>Nat.add_lt_add_of_le_of_lt o.le (r.lt z)
theorem SwR.trans (h:SwR a b f)(k:SwR b c g):SwR a c (f||g):=
 ⟨h.rel.trans k.rel,λq=>by rw[or_eq_false_iff] at q;exact(k.same q.2).trans (h.same q.1),le_trans k.le h.le,λq=>(or_eq_true _ _▸q).elim (λq=>lt_of_le_of_lt k.le (h.lt q)) λq=>lt_of_lt_of_le (k.lt q) h.le⟩
theorem zJK (h:∀p∈B.steps,DrS p):SwO (swB sl am AH) (λB=>chgB (zx sl am AH B) B) B:=by
 have ls:LsK B.steps (zx sl am AH B):=by unfold zx;rw[yv];exact zAU h
 have e:swB sl am AH B=withSt B ((zx sl am AH B).map (·.1)):=ls.map;refine⟨λq=>if_neg (by rw[q];decide),by rw[e];rfl,by rw[e];rfl,by rw[e];exact ls.lss,by rw[e];exact ls.wt.1,λq=>by rw[e];exact ls.wt.2 q⟩
theorem zKL:SwO (swS am t) (chS am t) B:=by
 have ls:=LsK.filter (am:=am) (t:=t) (ps:=B.steps);have e:=zEI (am:=am) (t:=t) (B:=B);have e1:((zq am t B.steps).map λp=>(p,false)).map (·.1)=zq am t B.steps:=by rw[map_map];exact map_id _
 have w:=ls.wt;have l:=ls.lss;rw[e1] at w l;refine⟨λq=>if_neg (by rw[q];decide),by rw[e];rfl,by rw[e];rfl,by rw[e];exact l,by rw[e];exact w.1,λq=>?_⟩;rw[e];refine w.2 ?_;rw[length_map];rw[show Nat.blt (zq am t B.steps).length B.steps.length=true from q];rfl
end
section
noncomputable abbrev W0:List Int:=[2,1,0]
noncomputable abbrev cfg:List (List Int):=[[1],[1,2],[]]
structure Gd (Bs:List PB):Prop where
 shape:Bs.map (·.ways)=cfg
 steps:∀B∈Bs,∀p∈B.steps,DrW p/\p.dst≠1
 ends : ∀ B ∈ Bs, ∀ o ∈ B.fin.args, o.1 = true -> o.2.toNat < 11
 ok:FnOK Bs
 few:wtB Bs<=900
inductive Shp:List PB->Prop
 | mk (s0 s1 s2:List PS) (f0 f1 f2:PS):Shp [⟨s0,f0,[1]⟩,⟨s1,f1,[1,2]⟩,⟨s2,f2,[]⟩]
theorem zHN {Bs:List PB}(h:Bs.map (·.ways)=cfg):Shp Bs:=by refine wF (List.map_eq_cons_iff.mp h) λpq0 t1 eq2 eq3 h1=>?_;obtain⟨s0,f0,_⟩:=pq0;subst eq2;subst eq3;refine wF (List.map_eq_cons_iff.mp h1) λpq0 t2 eq2 eq3 h2=>?_;obtain⟨s1,f1,_⟩:=pq0;subst eq2;subst eq3;refine wF (List.map_eq_cons_iff.mp h2) λpq0 t3 eq2 eq3 h3=>?_;obtain⟨s2,f2,_⟩:=pq0;subst eq2;subst eq3;obtain rfl:=List.map_eq_nil_iff.mp h3;exact .mk ..
structure CfgR (Bs:List PB):Prop where
 po:zD6 Bs=some W0
 len:Bs.length=3
 ways:∀i∈W0,∃B,Bs[i.toNat]?=some B/\∀j∈B.ways,j∈W0
 pre:∀j∈W0,∀B,Bs[j.toNat]?=some B->∀i∈B.ways,j∈(zp Bs).getD i.toNat []
 two:∀l∈zp Bs,l.length<=2
theorem zFn {P:Int->Prop}(h0:P 0)(h1:P 1)(h2:P 2):∀i∈W0,P i:=zB h2 (zB h1 (zB h0 zH))
def chkC (C L:List (List Int)):Prop:=(∀j∈W0,j.toNat<C.length/\∀i∈C.getD j.toNat [],i∈W0/\j∈L.getD i.toNat [])/\∀l∈L,l.length<=2
theorem zIv {Bs:List PB}{C L:List (List Int)}(hC:Bs.map (·.ways)=C)(hL:zp Bs=L)(po:zD6 Bs=some W0)(h4:C.length=3)(h:chkC C L):CfgR Bs:=by
 have hl:Bs.length=3:=by rw[<-h4];rw[<-hC];rw[length_map]
 have key:∀{j:Int} {B:PB},Bs[j.toNat]?=some B->C.getD j.toNat []=B.ways:=λq=>by rw[<-hC];rw[getD_eq_getElem?_getD];rw[getElem?_map];rw[q];rfl
 refine⟨po,hl,λi hi=>?_,λj hj B hB i hi=>?_,hL▸h.2⟩
 ·obtain⟨q1,q2⟩:=h.1 i hi;have hB:Bs[i.toNat]?=some Bs[i.toNat]:=getElem?_eq_getElem (by rw[hl];rw[<-h4];exact q1);exact⟨_,hB,λj hj=>(q2 j (key hB▸hj)).1⟩
 ·exact hL▸((h.1 j hj).2 i (key hB▸hi)).2
theorem cfgR {Bs:List PB}(h:Shp Bs):CfgR Bs:=by
 cases h with | mk s0 s1 s2 f0 f1 f2=>
 exact zIv (C:=cfg) (L:=[[],[0,1],[1]]) rfl rfl rfl rfl (by unfold chkC;decide +kernel)
theorem CfgR.eM {Bs:List PB}(h:CfgR Bs):PoOK Bs W0:=⟨(),λi hi=>⟨zFn (P:=λi=>0<=i) () () () i hi,h.ways i hi⟩⟩
theorem zCA (hsl:sl.length=4)(h:DrS p):Z6 sl p:=λe=>by
 cases h with
 | ar q=>exact absurd e (zFb q rfl)
 | @slot d s hs=>
  refine⟨s,rfl,?_⟩;rw[hsl];exact hs.elim (λq=>⟨q.2.1,(toNat_lt q.2.1).mpr (lt_trans q.2.2 ())⟩) λq=>by rw[q.2];decide
 | cpy=>cases e
 | con=>cases e
 | load=>cases e
 | store=>cases e
 | call=>cases e
 | name=>cases e
theorem Zo.dz {Bs Bs':List PB}(h:Zo Bs Bs'):Bs'.map (·.fin)=Bs.map (·.fin)/\Bs'.map (·.ways)=Bs.map (·.ways):=by
 induction h with
 | nil=>exact⟨rfl,rfl⟩
 | cons h1 h2 _ _ ih=>
  exact⟨by rw[map_cons];rw[map_cons];rw[h1];rw[ih.1],by rw[map_cons];rw[map_cons];rw[h2];rw[ih.2]⟩
noncomputable abbrev pa0:List Int:=[0,1]
noncomputable abbrev s00 (v:Int):MSt:=([(0,(8192,none)),(1,(v,none))],[],[],0)
structure Yk (sl:Za)(v:Int)(Bs:List PB)(AH:List (Int×Nat))(R:List PB×Bool):Prop where
 cf:CfgR Bs
 go:naGo sl (zK pa0 (zR Bs)).1 Bs (zp Bs) 100 W0 0 (AH0 W0) (IW0 W0)=some AH
 keys:∀i∈W0,(lk AH i).isSome=true
 fix:∀i∈W0,∀B,Bs[i.toNat]?=some B->fOf sl (zK pa0 (zR Bs)).1 B AH=zV AH i
 sw:SwR Bs R.1 R.2
 run:∀o,runG sl Bs 8 0 (s00 v)=some o->runG sl R.1 8 0 (s00 v)=some o
 gd:Gd R.1
theorem zBY {Bs:List PB}{B:PB}{p:PS}(h:B∈Bs)(hp:p∈B.steps):p∈zR Bs:=List.mem_flatMap.mpr ⟨B,h,hp⟩
theorem u9 {Bs:List PB}{p:PS}(h:p∈zR Bs):∃B∈Bs,p∈B.steps:=List.mem_flatMap.mp h
structure P0 (am:Zc)(t:Nat)(p:PS):Prop where
 dr:DrW p
 ne:p.dst≠1
 sr:SR am (zD t ·=true) p
theorem P0.freed (h:P0 am t p)(hc:wT p.op=true):P0 am t (wK p):=⟨h.dr.freed hc,by show (-1:Int)≠1;decide,λq=>absurd q (by show ¬(0:Int)<=-1;decide),λq=>by rw[show p.op=9 from q] at hc;cases hc⟩
theorem ki0 (h:∀k s,lk am k=some s->k∉pa0):KI am P (s00 v).1:=λr e hl=>by
 have key:e.2=none/\(r=0\/r=1):=by
  rw[w5] at hl;by_cases q:(0:Int)=r
  ·rw[if_pos q] at hl;rw[<-Option.some.inj hl];exact⟨rfl,.inl q.symm⟩
  ·rw[if_neg q] at hl;rw[w5] at hl;by_cases z:(1:Int)=r
   ·rw[if_pos z] at hl;rw[<-Option.some.inj hl];exact⟨rfl,.inr z.symm⟩
   ·rw[if_neg z] at hl;cases hl
 refine⟨λs hs=>absurd ?_ (h r s hs),λs hs=>by rw[key.1] at hs;cases hs⟩;rcases key.2 with rfl | rfl<;>decide
theorem zKD {sl:Za}{Bs:List PB}(hd:∀p∈zR Bs,DrS p){R:Zc×Nat}(r:Yv sl pa0 (zR Bs) R):∀k s,lk R.1 k=some s->s<3/\k=2+s:=λk s h=>by
 refine w3 (r.src k s h) λ_ pq1 e4=>?_;obtain⟨p,hp,e1,e2,e3⟩:=pq1;have d:=hd p hp;cases d with
 | ar q=>exact absurd e1 (zFb q rfl)
 | slot hs=>
  cases e3;rcases hs with ⟨a,b,c⟩ | ⟨a,b⟩
  ·exact⟨c,e2.symm.trans a⟩
  ·exact absurd (show k∈pa0 by rw[<-e2];rw[show (0:Int)=0 from rfl] at a;rw[a];exact .head _) e4
 | cpy=>cases e1
 | con=>cases e1
 | load=>cases e1
 | store=>cases e1
 | call=>cases e1
 | name=>cases e1
theorem zFd {Bs:List PB}:(zR Bs).length<=wtB Bs:=by
 have key:∀ps:List PS,ps.length<=wtS ps:=λps=>by
  induction ps with
  | nil=>exact le_refl _
  | cons p ps ih=>rw[wc];rw[length_cons];rw[Nat.add_comm];exact add_le_add (uf p) ih
 induction Bs with
 | nil=>exact le_refl _
 | cons B Bs ih=>
  rw[wj];rw[length_append];unfold wtB;rw[map_cons];rw[List.sum_cons];exact add_le_add (key _) ih
theorem turn {sl:Za}(sok:SlOK sl){v:Int}{Bs:List PB}(g:Gd Bs):∃AH,Yk sl v Bs AH (w9 sl (zK pa0 (zR Bs)) AH Bs):=by
 have cf:=cfgR (zHN g.shape);have hst:∀p∈zR Bs,DrW p/\p.dst≠1:=λp hp=>by refine zC (u9 hp) λB hB hp=>?_;exact g.steps B hB p hp
 have rr:=zAD (sl:=sl) (pa:=pa0) λp hp=>zCA sok.len (hst p hp).1.dr;have alt:=zKD (λp hp=>(hst p hp).1.dr) rr;generalize eR:zK pa0 (zR Bs)=R at rr alt;have hp0:∀B∈Bs,∀p∈B.steps,P0 R.1 R.2 p:=λB hB p hp=>⟨(g.steps B hB p hp).1,(g.steps B hB p hp).2,λ_=>rr.only p (zBY hB hp),rr.slot p (zBY hB hp)⟩
 have k0:∀{P:Int->Prop},KI R.1 P (s00 v).1:=λ{P}=>ki0 λk s h=>(rr.src k s h).2.2;obtain⟨AH,n1,n2,n3⟩:=zK0 (sl:=sl) (am:=R.1) (L:=zp Bs) (W0:=W0) (Bs:=Bs) ⟨cf.ways,λB hB=>⟨λp hp o ho h=>by
   refine w3 ((g.steps B hB p hp).1.args o ho) λa1 a2 _=>?_;have a2:=a2 h;exact zHe a1 a2,g.ends B hB⟩,cf.pre,λi=>by
   rw[getD_eq_getElem?_getD];cases q:(zp Bs)[i.toNat]? with
   | none=>exact zero_le _
   | some l=>exact cf.two l (mem_of_getElem? q)⟩ ()
 have hdr:∀B∈Bs,∀p∈B.steps,DrS p:=λB hB p hp=>(g.steps B hB p hp).1.dr;have swA:=zEF (F:=swB sl R.1 AH) (c:=λB=>chgB (zx sl R.1 AH B) B) (p:=λi=>(lk AH i).isSome) (i:=0) λB hB=>zJK (hdr B hB);have runA:∀o,runG sl Bs 8 0 (s00 v)=some o->runG sl (zX (swB sl R.1 AH) (λi=>(lk AH i).isSome) 0 Bs) 8 0 (s00 v)=some o:=λo h=>
  simA sok.len (P:=λ_=>True) ⟨λB hB p hp=>⟨(g.steps B hB p hp).1,(g.steps B hB p hp).2,(hp0 B hB p hp).sr.only,λ_ _ _=>.inr trivial⟩,λB hB=>(g.ok.blks B hB).ends⟩ cf.eM (λi hi=>(n2 i).mpr hi) n3 8 (i:=0) () (s1:=s00 v) (k2:=(s00 v).1) k0 (λ_ _=>rfl) h
 have hp1:∀B∈zX (swB sl R.1 AH) (λi=>(lk AH i).isSome) 0 Bs,∀p∈B.steps,P0 R.1 R.2 p:=jq (P:=λB=>∀p∈B.steps,P0 R.1 R.2 p) (λB h=>by
  rw[zBD λp hp=>(h p hp).dr.dr];rw[<-yv];intro p hp;refine zC (List.mem_map.mp hp) λq hq eq2=>?_;subst eq2;exact(vw (λp h hc=>h.freed hc) h).2 q hq) hp0
 have ok1:=FnOK.swB (sl:=sl) (am:=R.1) (AH:=AH) (p:=λi=>(lk AH i).isSome) g.ok;have gd:∀{Bs':List PB} {f:Bool},SwR Bs Bs' f->(∀B∈Bs',∀p∈B.steps,DrW p/\p.dst≠1)->FnOK Bs'->Gd Bs':=λ{Bs' f} sw hs ok=>by
  obtain⟨m1,m2⟩:=sw.rel.dz;refine⟨m2.trans g.shape,hs,λB hB=>?_,ok,le_trans sw.le g.few⟩
  have:B.fin∈Bs.map (·.fin):=m1▸mem_map_of_mem hB;refine zC (List.mem_map.mp this) λB0 hB0 e=>?_;exact e▸g.ends B0 hB0
 refine⟨AH,?_⟩;unfold w9;generalize zX (swB sl R.1 AH) (λi=>(lk AH i).isSome) 0 Bs=Bs1 at swA runA hp1 ok1 ⊢;generalize zf (λB=>chgB (zx sl R.1 AH B) B) (λi=>(lk AH i).isSome) 0 Bs=c1 at swA ⊢;unfold vy;by_cases em:R.1.isEmpty=true
 ·rw[if_pos em];exact⟨cf,eR▸n1,λi hi=>(n2 i).mpr hi,eR▸n3,swA,runA,gd swA (λB hB p hp=>⟨(hp1 B hB p hp).dr,(hp1 B hB p hp).ne⟩) ok1⟩
 ·rw[if_neg em];have tk:=zEC (sl:=sl) (am:=R.1) (Bs:=Bs1) (t:=R.2) (λk s h=>(rr.src k s h).1) (λ_ h=>h);have up:=zCf (sl:=sl) (am:=R.1) (Bs:=Bs1) (t:=R.2);generalize zd sl R.1 Bs1 R.2=t at tk up ⊢;have swB':=swA.trans (zEF (F:=swS R.1 t) (c:=chS R.1 t) (p:=λ_=>true) (i:=0) λB hB=>zKL);refine⟨cf,eR▸n1,λi hi=>(n2 i).mpr hi,eR▸n3,swB',λo h=>?_,gd swB' (jq (P:=λB=>∀p∈B.steps,DrW p/\p.dst≠1) (λB h=>?_) λB hB p hp=>⟨(hp1 B hB p hp).dr,(hp1 B hB p hp).ne⟩) ok1.swS⟩
  ·exact simB sok (λk s h=>(alt k s h).1) (λB hB p hp=>⟨(hp1 B hB p hp).dr.dr,⟨(hp1 B hB p hp).sr.only,λe s hs=>((hp1 B hB p hp).sr.slot e s hs).imp id (up s)⟩,tk B hB p hp⟩) (λB hB j hj=>((ok1.blks B hB).goals j hj).1) 8 (i:=0) () (s1:=s00 v) (m2:=[]) k0 (λs h=>by rw[show zD (s00 v).2.2.2 s=false from by unfold zD;rw[Nat.zero_testBit];rw[Bool.and_false]] at h;cases h) (λ_ _=>rfl) (runA o h)
  ·intro p hp;unfold swS at hp;by_cases c:chS R.1 t B=true
   ·rw[if_pos c] at hp;exact h p (List.mem_filter.mp hp).1
   ·rw[if_neg c] at hp;exact h p hp
end
section
theorem DrS.more (h:DrS p):Zi p.more:=by
 cases h with
 | ar=>exact .atom (.int _)
 | cpy=>exact .atom (.int _)
 | con=>exact .atom (.int _)
 | load=>exact .tup (zB (.int _) (zB (.bool _) zH))
 | store=>exact .atom (.int _)
 | call=>exact .atom (.int _)
 | slot=>exact .atom (.int _)
 | name=>exact .tup (zB (.str _ (by decide +kernel)) (zB (.int _) zH))
theorem Atom.eqv (h:Atom v):(y3 v).eqv (y3 v)=true:=by
 cases h with
 | none=>rfl
 | bool b=>exact beq_self_eq_true b
 | int i=>exact beq_self_eq_true i
 | str x _=>exact beq_self_eq_true x
theorem Zi.eqv (h:Zi v):(jE v).eqv (jE v)=true:=by
 cases h with
 | atom h=>
  have e:jE v=y3 v:=by cases h<;>rfl
  rw[e];exact h.eqv
 | @tup vs h=>
  show PyData.eqvAll (vs.map y3) (vs.map y3)=true;induction vs with
  | nil=>rfl
  | cons a l ih=>
   show (PyData.eqv (y3 a) (y3 a)&&PyData.eqvAll (l.map y3) (l.map y3))=true;rw[(h a (.head _)).eqv];rw[ih (zL h)];rfl
theorem zAu:∀{l:List α},(∀a∈l,f a a=true)->eqL f l l=true:=λ{l}=>by
 induction l with
 | nil=>exact λ_=>rfl
 | cons a l ih=>
  intro h;show (f a a&&eqL f l l)=true;rw[h a (.head _)];rw[ih (zL h)];rfl
theorem zAs (h:Zi p.more):eqP p p=true:=by unfold eqP;rw[Nat.beq_refl];rw[beq_self_eq_true];rw[beq_self_eq_true];rw[h.eqv];rw[zAu λa _=>by unfold zC5;rw[beq_self_eq_true,beq_self_eq_true];rfl];rfl
theorem zJq (h:eqP p q=true):wt1 p=wt1 q:=by unfold eqP at h;obtain⟨h1,h⟩:=Bool.and_eq_true_iff.mp h;have h2:=eq_of_beq (Bool.and_eq_true_iff.mp h).1;unfold wt1;rw[Nat.eq_of_beq_eq_true h1];rw[h2]
theorem zFR {α:Type}{f:α->α->Bool}{w:α->Nat}(h:∀a b,f a b=true->w a=w b):∀{l r:List α},eqL f l r=true->(l.map w).sum=(r.map w).sum:=λ{l}=>by
 induction l with
 | nil=>exact λ{r} q=>by cases r with
  | nil=>rfl
  | cons _ _=>cases q
 | cons a l ih=>exact λ{r} q=>by cases r with
  | nil=>cases q
  | cons b r=>
   obtain⟨h1,h2⟩:=Bool.and_eq_true_iff.mp (show (f a b&&eqL f l r)=true from q);rw[map_cons];rw[map_cons];rw[List.sum_cons];rw[List.sum_cons];rw[h a b h1];rw[ih h2]
noncomputable def lstB (Bs:List PB):List (List PS):=Bs.map (·.steps)
theorem zDw (Bs:List PB):wtB Bs=((lstB Bs).map wtS).sum:=by unfold wtB lstB;rw[map_map];rfl
theorem zHp {Bs Bs':List PB}{f:Bool}(s:SwR Bs Bs' f)(hd:∀B∈Bs,∀p∈B.steps,DrS p):eqLs (lstB Bs') (lstB Bs)=!f:=by
 cases f with
 | false=>
  rw[s.same rfl];refine zAu λps hps=>zAu λp hp=>?_;refine zC (List.mem_map.mp hps) λB hB eq2=>?_;subst eq2;exact zAs (hd B hB p hp).more
 | true=>
  refine Bool.eq_false_iff.mpr λq=>?_
  have:=s.lt rfl;rw[zDw] at this;rw[zDw] at this;rw[zFR (w:=wtS) (λa b h=>zFR (w:=wt1) (λ_ _=>zJq) h) q] at this;exact lt_irrefl _ this
noncomputable def zAQ (w:PS):PS:=⟨w.op,-1,w.args,w.more,w.vol⟩
noncomputable def mtP (x w:PS):Bool:=eqP x w||(Nat.beq w.op 4&&eqP x (zAQ w))
noncomputable def jM (left:List PS)(k:Nat)(w:PS):Nat:=(left[k]?).elim k λx=>if mtP x w then k+1 else k
noncomputable def zDb (left was:List PS):Bool:=Nat.beq (was.foldl (jM left) 0) left.length
inductive Emb:List PS->List PS->Prop
 | nil {ws:List PS}:Emb ws []
 | skip {w:PS} {ws ls:List PS} (t:Emb ws ls):Emb (w::ws) ls
 | take {w l:PS} {ws ls:List PS} (h:mtP l w=true) (t:Emb ws ls):Emb (w::ws) (l::ls)
theorem Emb.cut:∀{ws ls:List PS} {l:PS},Emb ws (l::ls)->Emb ws ls:=λ{ws}=>by
 induction ws with
 | nil=>exact λh=>nomatch h
 | cons w ws ih=>exact λh=>by cases h with
  | skip t=>exact .skip (ih t)
  | take _ t=>exact .skip t
theorem zJt:∀{ws:List PS} {k:Nat},Emb ws (left.drop k)->k<=left.length->ws.foldl (jM left) k=left.length:=λ{ws}=>by
 induction ws with
 | nil=>
  intro k h hk;generalize e:left.drop k=r at h;cases h;exact le_antisymm hk (List.drop_eq_nil_iff.mp e)
 | cons w ws ih=>
  intro k h hk;rw[foldl_cons];unfold jM;cases q:left[k]? with
  | none=>
   have e:=List.getElem?_eq_none_iff.mp q;exact ih (k:=k) (by rw[drop_eq_nil_of_le e];exact .nil) hk
  | some x=>
   obtain⟨h1,h2⟩:=yl q;rw[h2] at h;show ws.foldl _ (if mtP x w=true then k+1 else k)=_;by_cases c:mtP x w=true
   ·rw[if_pos c];refine ih ?_ h1;cases h with
    | skip t=>exact t.cut
    | take _ t=>exact t
   ·rw[if_neg c];refine ih ?_ hk;rw[h2];cases h with
    | skip t=>exact t
    | take c' _=>exact absurd c' c
theorem zGy (h:DrS p)(e:p.op=4):p.vol=false:=by
 cases h with
 | ar=>rfl
 | cpy=>rfl
 | con=>rfl
 | call=>rfl
 | slot=>rfl
 | name=>rfl
 | load=>cases e
 | store=>cases e
theorem Lss.eY (h:Lss ws ls):(∀p∈ws,DrS p)->Emb ws ls:=by
 induction h with
 | nil=>exact λ_=>.nil
 | drop _ ih=>exact λd=>.skip (ih (zL d))
 | @keep p ps qs _ ih=>
  refine λd=>.take ?_ (ih (zL d));unfold mtP;rw[zAs (d p (.head _)).more];rfl
 | @free p ps qs h _ _ ih=>
  refine λd=>.take ?_ (ih (zL d));have e:wK p=zAQ p:=by unfold wK zAQ;rw[zGy (d p (.head _)) h]
  unfold mtP;rw[e];rw[zAs (show Zi (zAQ p).more from(d p (.head _)).more)];rw[h];rw[or_eq_true];exact .inr rfl
theorem zI0 (h:Lss ws ls)(d:∀p∈ws,DrS p):zDb ls ws=true:=by unfold zDb;rw[zJt (h.eY d) (zero_le _)];exact Nat.beq_refl _
end
section
inductive Nr (E:Nat)(k h:Int):Prop where
 | mk (s:Int) (h0:0<=s) (h1:s<4) (hE:zD E s=true) (h2:h - home s / 65536<=k) (h3:home s / 65536 - h<=k)
inductive HV (E:Nat)(c n h:Int):Prop where
 | lo (h0:0<=h) (h1:h<=15+n)
 | hi (h0:65535<=h+n) (h1:h<=65535)
 | nr (h:Nr E (n - c) h)
theorem HV.up {E E':Nat}{c c' n n' h:Int}(H:HV E c n h)(hE:∀s,zD E s=true->zD E' s=true)(hn:n<=n')(hc:n - c<=n' - c'):HV E' c' n' h:=by
 cases H with
 | lo h0 h1=>exact .lo h0 (by lia)
 | hi h0 h1=>exact .hi (by lia) h1
 | nr q=>obtain⟨s,h0,h1,e,h2,h3⟩:=q;exact .nr ⟨s,h0,h1,hE s e,by lia,by lia⟩
theorem apart {A h C n:Int}(d:A - h<=n - 1)(hn:n<=15)(e:h<=C)(f:C+14<A):False:=by lia
theorem zK9:∀s∈([0,1,2,3]:List Int),∀k∈([0,1,2,3]:List Int),k=s\/(home s+8) / 65536+14<home k / 65536\/home k / 65536+14<home s / 65536:=by decide +kernel
theorem zGX {s k x n:Int}(h0:0<=s)(h1:s<4)(k0:0<=k)(k1:k<4)(hn:n<=15)(a:home s<=x)(b:x<home s+8)(c:x / 65536 - home k / 65536<=n - 1)(d:home k / 65536 - x / 65536<=n - 1):k=s:=
 (zK9 s (in4 h0 h1) k (in4 k0 k1)).elim id λq=>(q.elim (apart d hn (Int.ediv_le_ediv () (Int.le_of_lt b))) λq=>apart c hn (Int.le_refl _) (Int.lt_of_lt_of_le q (Int.ediv_le_ediv () a))).elim
theorem zFF {s:Int}(h1:s<4):home s+8<=3003000008:=Int.add_le_add_right (Int.add_le_add_left (Int.mul_le_mul_of_nonneg_left (Int.le_of_lt_add_one h1) (by decide):1000000 * s<=1000000 * 3) _) _
theorem zKc {n h:Int}(hn:n<=15)(a:45776<=h)(b:h<=45822):¬(h<=15+n)/\¬(65535<=h+n):=⟨λq=>absurd (Int.le_trans a (Int.le_trans q (Int.add_le_add_left hn 15))) (),λq=>absurd (Int.le_trans q (Int.add_le_add b hn)) ()⟩
theorem mem4 {s:Int}(h:s∈([0,1,2,3]:List Int)):0<=s/\s<4:=by
 rcases List.mem_cons.mp h with rfl | h
 ·decide
 ·rcases List.mem_cons.mp h with rfl | h
  ·decide
  ·rcases List.mem_cons.mp h with rfl | h
   ·decide
   ·rw[List.mem_singleton.mp h];decide
theorem zCR {E:Nat}{x:Int}(h:∀s,0<=s->s<4->home s<=x->x<home s+8->zD E s=true):offE E x=true:=List.all_eq_true.mpr λs hs=>by
 obtain⟨h0,h1⟩:=mem4 hs;cases q:hiB x s with
 | false=>rw[Bool.not_false];rw[Bool.or_true]
 | true=>
  obtain⟨a,b⟩:=Bool.and_eq_true_iff.mp q;rw[h s h0 h1 (of_decide_eq_true a) (of_decide_eq_true b)];rfl
theorem HV.off {E:Nat}{n x:Int}(H:HV E 1 n (x / 65536))(hn:n<=15):offE E x=true:=zCR λs h0 h1 a b=>by
 obtain⟨f1,f2⟩:=zKc hn (Int.ediv_le_ediv (c:=65536) () (Int.le_trans (yi h0) a)) (Int.ediv_le_ediv (c:=65536) () (Int.le_trans (Int.le_of_lt b) (zFF h1)));cases H with
 | lo q0 q1=>exact(f1 q1).elim
 | hi q0 q1=>exact(f2 q0).elim
 | nr q=>obtain⟨k,k0,k1,e,q2,q3⟩:=q;exact zGX h0 h1 k0 k1 hn a b q2 q3▸e
theorem zAi {E:Nat}{x:Int}(h:x<3000000000):offE E x=true:=zCR λs h0 _ a _=>absurd h (Int.not_lt.mpr (Int.le_trans (yi h0) a))
theorem zIL {E:Nat}{q:Int}:offE E (65536 * q)=true:=zCR λs h0 h1 a b=>by
 have key:∀s∈([0,1,2,3]:List Int),home s / 65536=(home s+7) / 65536/\home s % 65536≠0:=by decide +kernel
 obtain⟨k1,k2⟩:=key s (in4 h0 h1);have e:65536 * q / 65536=q:=Int.mul_ediv_cancel_left q ();have a':=Int.ediv_le_ediv (c:=65536) () a;have b':=Int.ediv_le_ediv (c:=65536) () (Int.le_of_lt_add_one (by rw[Int.add_assoc];exact b):65536 * q<=home s+7);rw[e] at a' b';have hq:home s / 65536=q:=Int.le_antisymm a' (k1▸b')
 have:=Int.emod_add_mul_ediv (home s) 65536;rw[hq] at this;have n0:=Int.emod_nonneg (home s) (by decide:(65536:Int)≠0);exact absurd (Int.le_antisymm (Int.le_of_add_le_add_right (show home s % 65536+65536 * q<=0+65536 * q by rw[this];rw[Int.zero_add];exact a)) n0) k2
theorem dv {q r:Int}(r0:0<=r)(r1:r<65536):(r+65536 * q) / 65536=q:=by rw[Int.add_mul_ediv_left _ _ ()];rw[Int.ediv_eq_zero_of_lt r0 r1];rw[Int.zero_add]
theorem zHR {y:Int}(h0:0<=y)(h1:y<65536):y % 4294967296 / 65536=0:=by rw[emod_eq_of_lt h0 (lt_trans h1 ())];rw[Int.ediv_eq_zero_of_lt h0 h1]
theorem zHV {y:Int}(h0:0<=y+65536)(h1:y<0):y % 4294967296 / 65536=65535:=by
 have e:y+4294967296=y+65536+65536 * 65535:=by rw[Int.add_assoc];rfl
 have u:∀k:Int,y+k<k:=λk=>by have:=Int.add_lt_add_right h1 k;rwa [Int.zero_add] at this
 rw[<-Int.add_emod_right];rw[emod_eq_of_lt (e▸Int.add_nonneg h0 ()) (u _)];rw[e];rw[dv h0 (u _)]
theorem zJk {x y:Int}(h:y<=x+65536 * 1):y / 65536 - x / 65536<=1:=Int.sub_left_le_of_le_add (Int.le_trans (Int.ediv_le_ediv () h) (Int.le_of_eq (Int.add_mul_ediv_left _ _ ())))
theorem zJM {x d y:Int}(h0:0<=x)(h1:x<4294967296)(d0 : -8<=d)(d1:d<=8)(e:y=(x+d) % 4294967296) :
  (y / 65536 - x / 65536<=1/\x / 65536 - y / 65536<=1)\/(y / 65536=0\/y / 65536=65535):=by
 subst e;by_cases a:x+d<0
 ·exact .inr (.inr (zHV (by lia) a))
 by_cases b:x+d<4294967296
 ·rw[emod_eq_of_lt (Int.not_lt.mp a) b];exact .inl ⟨zJk (Int.add_le_add_left (Int.le_trans d1 ()) x),zJk (by lia)⟩
 ·rw[<-Int.sub_emod_right];rw[zHR (by lia) (by lia)];exact .inr (.inl rfl)
theorem zHX {y:Int}(h0:0<=y)(h1:y<4294967296):0<=y / 65536/\y / 65536<=65535:=⟨Int.ediv_nonneg h0 (),Int.le_of_lt_add_one (Int.ediv_lt_of_lt_mul () h1)⟩
theorem HV.zero {E:Nat}{c n h:Int}(hn:0<=n)(e:h=0\/h=65535):HV E c n h:=e.elim (λe=>.lo (by lia) (by lia)) λe=>.hi (by lia) (by lia)
theorem up1 {h h' n:Int}(a:h' - h<=1)(b:h<=n):h'<=n+1:=Int.le_trans (Int.le_add_of_sub_left_le a) (Int.add_le_add_right b 1)
theorem HV.one {E:Nat}{c n h h':Int}(H:HV E c n h)(h0:0<=h')(h1:h'<=65535)(a:h' - h<=1)(b:h - h'<=1):HV E c (n+1) h':=by
 cases H with
 | lo q0 q1=>exact .lo h0 (Int.add_assoc 15 n 1▸up1 a q1)
 | hi q0 q1=>exact .hi (by rw[Int.add_comm n 1];rw[<-Int.add_assoc];exact Int.le_trans q0 (Int.add_le_add_right (Int.le_add_of_sub_left_le b) n)) h1
 | nr q=>
  obtain⟨s,k0,k1,e,q2,q3⟩:=q;exact .nr ⟨s,k0,k1,e,by lia,by lia⟩
theorem HV.sum {E:Nat}{c n x d y:Int}(H:HV E c n (x / 65536))(hn:0<=n)(h0:0<=x)(h1:x<sz)(d0 : -8<=d)(d1:d<=8)(e:y=Int.fmod (x+d) sz):HV E c (n+1) (y / 65536):=by
 rw[Int.fmod_eq_emod_of_nonneg _ (by decide:(0:Int)<=sz)] at e;have y0:0<=y:=e▸Int.emod_nonneg _ ();have y1:y<4294967296:=e▸Int.emod_lt_of_pos _ ();obtain⟨r0,r1⟩:=zHX y0 y1;rcases zJM h0 h1 d0 d1 e with ⟨a,b⟩ | q
 ·exact H.one r0 r1 a b
 ·exact .zero (Int.le_add_one hn) q
theorem zH6 {x k:Int}(h0:0<=x)(k0:0<=k)(k1:k<9):∃d,-8<=d/\d<=8/\Builtin.bitXor x k=x+d:=by
 have e:Builtin.bitXor x k=x+(k - 2 * Builtin.bitAnd x k):=by
  unfold Builtin.bitXor;rw[PyProof.Rows.bitOr_and];lia
 have a:Builtin.bitAnd x k=((x.toNat &&& k.toNat:Nat):Int):=by
  unfold Builtin.bitAnd;rw[decide_eq_true h0];rw[decide_eq_true k0]
 have b:((x.toNat &&& k.toNat:Nat):Int)<=k:=(Int.le_toNat k0).mp Nat.and_le_right;exact⟨_,by lia,by lia,e⟩
end
section
inductive BsA (b:Int):Prop where
 | obj (e:b=8192)
 | slot (s:Int) (h0:0<=s) (h1:s<4) (e:b=home s)
inductive Used (a:Int):Prop where
 | num (h0:2<=a) (h1:a<4)
 | at_ (b:Int) (h:BsA b) (h0:b<=a) (h1:a<b+4)
structure MI (E:Nat)(n:Int)(m:Me):Prop where
 byte:∀a,0<=getM m a/\getM m a<256
 zero:∀a,¬Used a->getM m a=0
 word:∀b,BsA b->HV E 1 n (getM m (b+2)+256 * getM m (b+3))
theorem BsA.ge (h:BsA b):8192<=b:=by
 cases h with
 | obj e=>exact Int.le_of_eq e.symm
 | slot s h0 h1 e=>exact e▸Int.le_trans () (yi h0)
theorem zJj:∀s∈([0,1,2,3]:List Int),∀k∈([0,1,2,3]:List Int),home s=home k\/home s+8<=home k\/home k+8<=home s:=by decide +kernel
theorem BsA.eI (h:BsA b)(k:BsA c):b=c\/b+8<=c\/c+8<=b:=by
 cases h with
 | obj e=>cases k with
  | obj e'=>exact .inl (e.trans e'.symm)
  | slot s h0 h1 e'=>exact .inr (.inl (e▸e'▸Int.le_trans () (yi h0)))
 | slot s h0 h1 e=>cases k with
  | obj e'=>exact .inr (.inr (e▸e'▸Int.le_trans () (yi h0)))
  | slot s' h0' h1' e'=>exact e▸e'▸zJj s (in4 h0 h1) s' (in4 h0' h1')
theorem zHU {b c:Int}{w k:Nat}(hw:w=1\/w=2\/w=4)(f:b=c\/b+8<=c\/c+8<=b)(e:¬(c=b/\w=4))(k2:2<=k)(k3:k<=3):¬(b<=c+k/\c+k<b+w):=λ⟨p,q⟩=>by
 have w8:(w:Int)<=8:=Int.ofNat_le.mpr (by rcases hw with z | z | z<;>rw[z]<;>decide);rcases f with f | f | f
 ·subst f;have q:k<w:=Int.ofNat_lt.mp (Int.lt_of_add_lt_add_left q);rcases hw with z | z | z
  ·exact absurd (z▸q) (Nat.not_lt.mpr (le_trans () k2))
  ·exact absurd (z▸q) (Nat.not_lt.mpr k2)
  ·exact e ⟨rfl,z⟩
 ·exact absurd (Int.lt_of_lt_of_le q (Int.le_trans (Int.add_le_add_left w8 b) f)) (Int.not_lt.mpr (Int.le_add_of_nonneg_right (natCast_nonneg k)))
 ·exact absurd (Int.le_trans f p) (Int.not_le.mpr (add_lt_add_left (Int.ofNat_lt.mpr (lt_of_le_of_lt k3 (by decide:3<8))) c))
theorem MI.up (h:MI E n m)(hE:∀s,zD E s=true->zD E' s=true)(hn:n<=n'):MI E' n' m:=⟨h.byte,h.zero,λb k=>(h.word b k).up hE hn (by lia)⟩
theorem MI.nil (hn:0<=n):MI E n []:=⟨λ_=>⟨Int.le_refl 0,(by decide:(0:Int)<256)⟩,λ_ _=>rfl,λ_ _=>.zero hn (.inl rfl)⟩
theorem zDK (x:Int):0<=Int.fmod x 256/\Int.fmod x 256<256:=⟨Int.fmod_nonneg_of_pos x (),Int.fmod_lt_of_pos x ()⟩
theorem zFk (h0:0<=x)(h1:x<4294967296):Int.fmod (Int.fdiv x (256 ^ 2)) 256+256 * Int.fmod (Int.fdiv x (256 ^ 3)) 256=x / 65536:=by rw[Int.fmod_eq_emod_of_nonneg _ ()];rw[Int.fmod_eq_emod_of_nonneg _ ()];rw[Int.fdiv_eq_ediv_of_nonneg _ ()];rw[Int.fdiv_eq_ediv_of_nonneg _ ()];have e:x / (65536 * 256)=x / 65536 / 256:=(Int.ediv_ediv_of_nonneg (by decide:(0:Int)<=65536)).symm;rw[show (256:Int) ^ 3=65536 * 256 from rfl];rw[show (256:Int) ^ 2=65536 from rfl];obtain⟨a,b⟩:=zHX h0 h1;rw[e];rw[emod_eq_of_lt (Int.ediv_nonneg a ()) (Int.ediv_lt_of_lt_mul () (Int.lt_of_le_of_lt b ()))];exact Int.emod_add_mul_ediv _ 256
theorem MI.put {E E':Nat}{n n' x b:Int}{w:Nat}(h:MI E n m)(hE:∀s,zD E s=true->zD E' s=true)(hn:n<=n')(hb:BsA b)(hw:w=1\/w=2\/w=4)(h0:0<=x)(h1:x<sz)(hx:HV E' 1 n' (x / 65536)):MI E' n' (putM m b w x):=by
 have hw4:w<=4:=by rcases hw with e | e | e<;>rw[e]<;>decide
 refine⟨λa=>?_,λa u=>?_,λc hc=>?_⟩
 ·rw[wR];by_cases q:b<=a/\a<b+w
  ·rw[if_pos q];exact zDK _
  ·rw[if_neg q];exact h.byte a
 ·rw[wR];rw[if_neg λq=>u (.at_ b hb q.1 (Int.lt_of_lt_of_le q.2 (Int.add_le_add_left (Int.ofNat_le.mpr hw4) b)))];exact h.zero a u
 ·rw[wR];rw[wR];by_cases e:c=b/\w=4
  ·obtain⟨rfl,rfl⟩:=e;rw[if_pos ⟨Int.le_add_of_nonneg_right (),add_lt_add_left () c⟩];rw[if_pos ⟨Int.le_add_of_nonneg_right (),add_lt_add_left () c⟩];rw[show (c+2 - c).toNat=2 by rw[Int.add_comm,Int.add_sub_cancel];rfl];rw[show (c+3 - c).toNat=3 by rw[Int.add_comm,Int.add_sub_cancel];rfl];rw[zFk h0 h1];exact hx
  ·have n2:¬(b<=c+2/\c+2<b+w):=zHU (k:=2) hw (hb.eI hc) e () ();have n3:¬(b<=c+3/\c+3<b+w):=zHU (k:=3) hw (hb.eI hc) e () ();rw[if_neg n2];rw[if_neg n3];exact(h.word c hc).up hE hn (by lia)
theorem MI.putN {E:Nat}{n x a:Int}{w:Nat}(h:MI E n m)(h2:2<=a)(h4:a+w<=4):MI E n (putM m a w x):=by
 refine⟨λc=>?_,λc u=>?_,λc hc=>?_⟩
 ·rw[wR];by_cases q:a<=c/\c<a+w
  ·rw[if_pos q];exact zDK _
  ·rw[if_neg q];exact h.byte c
 ·rw[wR];rw[if_neg λq=>u (.num (by omega) (by omega))];exact h.zero c u
 ·have:=hc.ge;rw[wR];rw[wR];rw[if_neg λq=>by omega];rw[if_neg λq=>by omega];exact h.word c hc
section
variable {m:Me}{a:Int}
theorem zKe {K L x y:Int}(hx:0<=x/\x<K)(hy:0<=y/\y<L):0<=x+y * K/\x+y * K<K * L:=by
 have k0:=Int.le_trans hx.1 (Int.le_of_lt hx.2);refine⟨Int.add_nonneg hx.1 (Int.mul_nonneg hy.1 k0),Int.lt_of_lt_of_le (Int.add_lt_add_right hx.2 _) ?_⟩
 have:=Int.mul_le_mul_of_nonneg_left (Int.add_one_le_of_lt hy.2) k0
 rwa [Int.mul_add,Int.mul_one,Int.add_comm,Int.mul_comm K y] at this
theorem uH (w:Nat):getW m a (w+1)=getW m a w+getM m (a+w) * 256 ^ w:=by unfold getW;rw[range_succ];rw[List.foldl_append];rfl
theorem gw1:getW m a 1=getM m a:=by rw[uH 0];rw[show getM m (a+((0:Nat):Int)) * 256 ^ 0=getM m a from by rw[Int.natCast_zero,add_zero];exact Int.mul_one _];exact Int.zero_add _
variable {E:Nat}{n:Int}
theorem zDG (h:MI E n m):∀w:Nat,0<=getW m a w/\getW m a w<256 ^ w:=λw=>by
 induction w with
 | zero=>exact⟨Int.le_refl 0,(by decide:(0:Int)<1)⟩
 | succ w ih=>rw[uH];rw[Int.pow_succ];exact zKe ih (h.byte _)
theorem gw4:getW m a 4=getW m a 2+65536 * (getM m (a+2)+256 * getM m (a+3)):=by rw[uH 3];rw[uH 2];rw[Int.add_assoc];rw[Int.mul_add];rw[<-Int.mul_assoc];rw[Int.mul_comm 65536];rw[Int.mul_comm (65536 * 256)];rfl
theorem fmz (x:Int):Int.fmod x sz=x % 4294967296:=Int.fmod_eq_emod_of_nonneg _ ()
theorem jd (h:MI E n m)(hw:w=1\/w=2):Int.fmod (getS m a w sg) sz / 65536=0\/Int.fmod (getS m a w sg) sz / 65536=65535:=by
 rw[fmz];obtain⟨b0,b1⟩:=zDG (a:=a) h w;have p:(256:Int) ^ w<=65536:=by rcases hw with rfl | rfl<;>decide
 unfold getS;by_cases c:(sg&&decide (getW m a w >= Int.fdiv (256 ^ w) 2))=true
 ·rw[if_pos c];exact .inr (zHV (Int.le_trans (Int.sub_nonneg_of_le p) (by rw[<-Int.sub_neg];rw[Int.sub_eq_add_neg];rw[Int.sub_eq_add_neg];rw[Int.sub_eq_add_neg];rw[Int.neg_neg];rw[Int.add_assoc];rw[Int.add_comm _ 65536];exact Int.le_add_of_nonneg_left b0)) (Int.sub_neg_of_lt b1))
 ·rw[if_neg c];exact .inl (zHR b0 (Int.lt_of_lt_of_le b1 p))
theorem zJH (h:MI E n m):(0<=getW m a 4/\getW m a 4<4294967296)/\getW m a 4 / 65536=getM m (a+2)+256 * getM m (a+3):=by refine⟨zDG h 4,?_⟩;obtain⟨b0,b1⟩:=zDG (a:=a) h 2;rw[gw4];rw[dv b0 b1]
theorem zEr (h:MI E n m):Int.fmod (getS m a 4 sg) sz / 65536=getM m (a+2)+256 * getM m (a+3):=by
 obtain⟨⟨h0,h1⟩,h2⟩:=zJH (a:=a) h;rw[fmz];rw[<-h2];unfold getS;by_cases c:(sg&&decide (getW m a 4 >= Int.fdiv (256 ^ 4) 2))=true
 ·rw[if_pos c];rw[show (256:Int) ^ 4=4294967296 from rfl];rw[Int.sub_emod_right];rw[emod_eq_of_lt h0 h1]
 ·rw[if_neg c];rw[emod_eq_of_lt h0 h1]
theorem zJA (hb:BsA b)(h0:b<a)(h1:a+4<=b+8):¬Used (a+3):=λu=>by
 cases u with
 | num _ q=>have:=hb.ge;lia
 | at_ c hc q0 q1=>have:=hb.eI hc;lia
theorem zJG (h:MI E n m)(hz:getM m (a+3)=0):getW m a 4<3000000000:=by
 have b:=h.byte (a+2)
 have:=(zDG (a:=a) h 3).2;rw[uH 3];show _+getM m (a+3) * _<_;rw[hz];rw[Int.zero_mul];rw[add_zero];exact lt_trans this ()
theorem zDH (h:MI E n m)(hn:n<=15)(hb:BsA b)(h0:b<=a)(h1:a+4<=b+8):offE E (getW m a 4)=true:=by
 by_cases q:a=b
 ·subst q
  have:=h.word a hb;rw[<-(zJH h).2] at this;exact this.off hn
 ·exact zAi (zJG h (h.zero _ (zJA hb (by lia) h1)))
theorem zIb (ok:SlOK sl)(h:MI E n m)(hn:n<=15):offE E (farV sl m a)=true:=by
 unfold farV zc;by_cases c:z7 sl a 4=true
 ·rw[if_pos (show z7 sl a ((4:Nat):Int)=true from c)];rcases yu ok c with ⟨a0,a1⟩ | ⟨a0,a1⟩ | ⟨k,⟨k0,k1⟩,a0,a1⟩
  ·have e:a=0:=by lia
   subst e;have z0:getM m 0=0:=h.zero _ λu=>by
    cases u with
    | num q _=>lia
    | at_ c hc q _=>have:=hc.ge;lia
   have z1:getM m (0+1)=0:=h.zero _ λu=>by
    cases u with
    | num q _=>lia
    | at_ c hc q _=>have:=hc.ge;lia
   rw[gw4];rw[uH 1];rw[gw1];rw[show getM m (0+((1:Nat):Int))=0 from z1];rw[z0];rw[Int.zero_mul];rw[add_zero];rw[Int.zero_add];exact zIL
  ·exact zDH h hn (.obj rfl) a0 (by lia)
  ·exact zDH h hn (.slot k k0 k1 rfl) a0 (by lia)
 ·rw[if_neg (show ¬z7 sl a ((4:Nat):Int)=true from c)];exact zAi ()
theorem zCt (h:MI E n m)(d0:0<=d)(d1:d<=400):0<=zc sl m a 1 d/\zc sl m a 1 d<=400:=by
 have b0:=h.byte a;unfold zc;by_cases c:z7 sl a ((1:Nat):Int)=true
 ·rw[if_pos c];rw[gw1];lia
 ·rw[if_neg c];exact⟨d0,d1⟩
end
end
section
theorem n1 (n:Int):n<=n+1:=Int.le_add_of_nonneg_right ()
theorem fm (h:0<k):0<=Int.fmod x k/\Int.fmod x k<k:=⟨Int.fmod_nonneg_of_pos x h,Int.fmod_lt_of_pos x h⟩
def Red (kn:Kn):Prop:=∀r e,lk kn r=some e->0<=e.1/\e.1<sz
theorem Red.set (h:Red kn):Red (setK kn d e):=λr x q=>by
 rw[wJ] at q;by_cases c:0<=d/\r=d
 ·rw[if_pos c] at q;rw[<-Option.some.inj q];exact fm ()
 ·rw[if_neg c] at q;exact h r x q
theorem wq (h:Red kn)(q:lk kn r=some e):argT kn (true,r)=some e:=by obtain⟨h0,h1⟩:=h r e q;unfold argT;rw[if_pos rfl];rw[q];exact if_pos (Int.fmod_eq_of_lt h0 h1)
theorem zDu (h:argT kn a=some x):wL kn [a]=some [x]:=by show (argT kn a).bind _=_;rw[h];rfl
theorem zHC (h:argT kn a=some x)(k:argT kn b=some y):wL kn [a,b]=some [x,y]:=by show (argT kn a).bind (λv=>(wL kn [b]).map (v::·))=_;rw[h];rw[zDu k];rfl
structure KR (f n:Int)(E:Nat)(kn:Kn):Prop where
 red:Red kn
 nums:∀r,6<=r->r<9->∃x,lk kn r=some (x,none)/\HV E 2 n (x / 65536)
 ptr:∀i,0<=i->i<3->lk kn (2+i)=some (home i,some i)
 r0:lk kn 0=some (8192,none)\/lk kn 0=some (home 3,some 3)
 r5:lk kn 5=some (20000,none)
 r9:lk kn 9=some (f,none)
abbrev SubE (E E':Nat):Prop:=∀s,zD E s=true->zD E' s=true
section
variable {f n n':Int}{E E':Nat}{kn:Kn}
theorem KR.up (h:KR f n E kn)(hE:SubE E E')(hn:n<=n'):KR f n' E' kn:=⟨h.red,λr a b=>by
 refine zC (h.nums r a b) λx e H=>?_;exact⟨x,e,H.up hE hn (by lia)⟩,h.ptr,h.r0,h.r5,h.r9⟩
theorem KR.set (h:KR f n E kn)(d0:6<=d)(d1:d<9)(H:HV E 2 n (Int.fmod v sz / 65536)):KR f n E (setK kn d (v,none)):=by
 have ne:∀r,r≠d->lk (setK kn d (v,none)) r=lk kn r:=λr hr=>by rw[wJ];rw[if_neg λc=>hr c.2]
 refine⟨h.red.set,λr a b=>?_,λi a b=>by rw[ne _ (by lia)];exact h.ptr i a b,by rw[ne 0 (by lia)];exact h.r0,by rw[ne 5 (by lia)];exact h.r5,by rw[ne 9 (by lia)];exact h.r9⟩;rw[wJ];by_cases c:0<=d/\r=d
 ·rw[if_pos c];exact⟨_,rfl,H⟩
 ·rw[if_neg c];exact h.nums r a b
theorem KR.dF (h:KR f n E kn):KR f n E (setK kn 10 e):=by
 have ne:∀r,r≠10->lk (setK kn 10 e) r=lk kn r:=λr hr=>by rw[wJ];rw[if_neg λc=>hr c.2]
 exact⟨h.red.set,λr a b=>by rw[ne r (by lia)];exact h.nums r a b,λi a b=>by rw[ne _ (by lia)];exact h.ptr i a b,by rw[ne 0 ()];exact h.r0,by rw[ne 5 ()];exact h.r5,by rw[ne 9 ()];exact h.r9⟩
theorem KR.bz (h:KR f n E kn):KR f n E (setK kn 0 (home 3,some 3)):=by
 have ne:∀r,r≠0->lk (setK kn 0 (home 3,some 3)) r=lk kn r:=λr hr=>by rw[wJ];rw[if_neg λc=>hr c.2]
 exact⟨h.red.set,λr a b=>by rw[ne r (by omega)];exact h.nums r a b,λi a b=>by rw[ne _ (by omega)];exact h.ptr i a b,.inr (by rw[wJ];rw[if_pos ()];rfl),by rw[ne 5 ()];exact h.r5,by rw[ne 9 ()];exact h.r9⟩
theorem KR.d9 (h:KR f n E kn)(hv:Int.fmod v sz=g):KR g n E (setK kn 9 (v,none)):=by
 have ne:∀r,r≠9->lk (setK kn 9 (v,none)) r=lk kn r:=λr hr=>by rw[wJ];rw[if_neg λc=>hr c.2]
 exact⟨h.red.set,λr a b=>by rw[ne r (by lia)];exact h.nums r a b,λi a b=>by rw[ne _ (by lia)];exact h.ptr i a b,by rw[ne 0 ()];exact h.r0,by rw[ne 5 ()];exact h.r5,by rw[wJ];rw[if_pos ()];rw[hv]⟩
theorem zHO:setK kn (-1) e=kn:=if_neg ()
structure NumO (kn:Kn)(E:Nat)(n:Int)(a:Opd)(x:Int):Prop where
 e:argT kn a=some (x,none)
 lo:0<=x
 hi:x<sz
 v:HV E 2 n (x / 65536)
structure AdrO (kn:Kn)(E:Nat)(a:Opd)(e:Int×Option Int):Prop where
 arg:argT kn a=some e
 ok:okA E e=true
theorem KR.num (h:KR f n E kn)(h0:6<=r)(h1:r<9):∃x,NumO kn E n (true,r) x:=by refine zC (h.nums r h0 h1) λx e H=>?_;obtain⟨a,b⟩:=h.red _ _ e;exact⟨x,wq h.red e,a,b,H⟩
theorem zCs (h0:0<=s)(h1:s<4):okA E (home s,some s)=true:=by show ((decide (0<=s)&&decide (s<4))&&decide (home s=home s))=true;rw[decide_eq_true h0];rw[decide_eq_true h1];rw[decide_eq_true rfl];rfl
theorem zAh (h:offE E x=true):okA E (x,none)=true:=h
theorem KR.bT (h:KR f n E kn)(hr:r=2\/r=3\/r=4\/r=0):∃e,AdrO kn E (true,r) e/\BsA e.1:=by
 have p:∀i,0<=i->i<3->∃e,AdrO kn E (true,2+i) e/\BsA e.1:=λi a b=>⟨_,⟨wq h.red (h.ptr i a b),zCs a (by omega)⟩,.slot i a (by omega) rfl⟩
 rcases hr with rfl | rfl | rfl | rfl
 ·exact p 0 () ()
 ·exact p 1 () ()
 ·exact p 2 () ()
 ·rcases h.r0 with e | e
  ·exact⟨_,⟨wq h.red e,zAh (zAi ())⟩,.obj rfl⟩
  ·exact⟨_,⟨wq h.red e,zCs () ()⟩,.slot 3 () () rfl⟩
end
structure DI (f n:Int)(s:MSt):Prop where
 k:KR f n s.2.2.2 s.1
 m:MI s.2.2.2 n s.2.1
 nt:(s.2.2.1.length:Int)<=n
def St1 (sl:Za)(p:PS)(s:MSt)(Q:MSt->Prop):Prop:=∃o,zBs sl p s=some o/\∀s',o=some s'->Q s'
def Safe (sl:Za)(ps:List PS)(s:MSt)(Q:MSt->Prop):Prop:=∃b s',runS sl ps s=some (b,s')/\(b=true->Q s')
section
variable {sl:Za}{s:MSt}{Q R:MSt->Prop}
theorem Safe.nil (h:Q s):Safe sl [] s Q:=⟨true,s,rfl,λ_=>h⟩
theorem Safe.cons {p:PS}{ps:List PS}(h:St1 sl p s λs'=>Safe sl ps s' Q):Safe sl (p::ps) s Q:=by
 refine zC h λo h1 h2=>?_;unfold Safe;rw[wZ];rw[h1];cases o with
 | none=>exact⟨false,s,rfl,λq=>nomatch q⟩
 | some s'=>exact h2 s' rfl
theorem Safe.app (h:Safe sl ps s R)(k:∀s',R s'->Safe sl qs s' Q):Safe sl (ps++qs) s Q:=by
 obtain⟨b,s',h1,h2⟩:=h;have e:runS sl (ps++qs) s=(runS sl ps s).bind λr=>if r.1 then runS sl qs r.2 else some r:=by
  clear h1 h2 k;induction ps generalizing s with
  | nil=>rfl
  | cons p ps ih=>
   rw[List.cons_append];rw[wZ];rw[wZ];cases zBs sl p s with
   | none=>rfl
   | some o=>cases o with
    | none=>rfl
    | some s1=>exact ih
 unfold Safe;rw[e];rw[h1];cases b with
 | false=>exact⟨false,s',rfl,λq=>nomatch q⟩
 | true=>exact k s' (h2 rfl)
theorem Safe.mono (h:Safe sl ps s R)(k:∀s',R s'->Q s'):Safe sl ps s Q:=by refine vq h λb s' h1 h2=>?_;exact⟨b,s',h1,λe=>k s' (h2 e)⟩
theorem y5 (hg:wL s.1 p.args=some g)(he:effT sl p g s.2.1 s.2.2=some (some (e,m,x)))(k:Q (setK s.1 p.dst e,m,x)):St1 sl p s Q:=
 ⟨_,uj hg he,λs' q=>by cases Option.some.inj q;exact k⟩
theorem zCh (hg:wL s.1 p.args=some g)(he:effT sl p g s.2.1 s.2.2=if c=true then(if d=true then some (some o) else some none) else none)(hc:c=true)(k:d=true->Q (setK s.1 p.dst o.1,o.2.1,o.2.2)):St1 sl p s Q:=by
 rw[if_pos hc] at he;cases d with
 | false=>exact⟨_,uj hg he,λs' q=>nomatch q⟩
 | true=>exact⟨_,uj hg he,λs' q=>by cases Option.some.inj q;exact k rfl⟩
noncomputable abbrev ld (d w:Int)(a:Opd)(sg v:Bool):PS:=⟨0,d,[a],.tup [.int w,.bool sg],v⟩
noncomputable abbrev sto (w:Int)(a b:Opd)(v:Bool):PS:=⟨1,-1,[a,b],.int w,v⟩
noncomputable abbrev cal (d:Int)(a:Opd):PS:=⟨4,d,[(true,5),a],.int 0,false⟩
theorem zIO {v:Bool}{nx:Nx}{o:Note}:(((if v then(nx.1++[o],nx.2) else nx).1.length:Nat):Int)<=nx.1.length+1/\(if v then(nx.1++[o],nx.2) else nx).2=nx.2:=by
 cases v with
 | true=>exact⟨by rw[if_pos rfl];rw[length_append];exact Int.le_refl _,rfl⟩
 | false=>exact⟨Int.le_add_one (Int.le_refl _),rfl⟩
variable {f n:Int}
theorem zb:SubE E E:=λ_ h=>h
theorem zKN {d w:Int}{sg v:Bool}(h:DI f n s)(ha:AdrO s.1 s.2.2.2 a e)(hQ:∀x:Nx,x.2=s.2.2.2->(x.1.length:Int)<=n+1->z7 sl e.1 w=true->Q (setK s.1 d (getS s.2.1 e.1 w.toNat sg,none),s.2.1,x)):St1 sl (ld d w a sg v) s Q:=
 zCh (zDu ha.arg) rfl ha.ok λc=>hQ _ zIO.2 (Int.le_trans zIO.1 (by have:=h.nt;lia)) c
theorem DI.ld (h:DI f n s)(ha:AdrO s.1 s.2.2.2 a e)(d0:6<=d)(d1:d<9)(H:z7 sl e.1 w=true->HV s.2.2.2 2 (n+1) (Int.fmod (getS s.2.1 e.1 w.toNat sg) sz / 65536)):St1 sl (ld d w a sg v) s (DI f (n+1)):=
 zKN h ha λx e1 e2 c=>by
  have hn:=n1 n;refine⟨?_,?_,e2⟩
  ·rw[show (setK s.1 d _,s.2.1,x).2.2.2=s.2.2.2 from e1];exact(h.k.up zb hn).set d0 d1 (H c)
  ·rw[show (setK s.1 d _,s.2.1,x).2.2.2=s.2.2.2 from e1];exact h.m.up zb hn
theorem zH7 (h:MI E n m)(hb:BsA b):HV E 2 (n+1) (Int.fmod (getS m b 4 sg) sz / 65536):=by rw[zEr h];exact(h.word b hb).up zb (n1 _) (by lia)
theorem zEL:SubE E (setb E t):=λ_ h=>wE (u7 t) h
theorem zCg:SubE E (escE E t):=by
 cases t with
 | none=>exact zb
 | some t=>exact zEL
theorem DI.sto {w:Int}{v:Bool}(h:DI f n s)(ha:AdrO s.1 s.2.2.2 a e)(hb:argT s.1 b=some y)(hs:stOK [e,y]=true)(H:z7 sl e.1 w=true->MI (escE s.2.2.2 y.2) (n+1) (putM s.2.1 e.1 w.toNat y.1)):St1 sl (sto w a b v) s (DI f (n+1)):=by
 have hn:=n1 n;refine zCh (c:=okA s.2.2.2 e&&stOK [e,y]) (zHC ha.arg hb) rfl (by rw[ha.ok];rw[hs];rfl) λc=>?_;have q:=zIO (v:=v) (nx:=(s.2.2.1,escE s.2.2.2 y.2)) (o:=zGV 1 [e,y] (.int w) 0);refine⟨?_,?_,?_⟩
 ·show KR f (n+1) (if v then((s.2.2.1,escE s.2.2.2 y.2).1++_,(s.2.2.1,escE s.2.2.2 y.2).2) else(s.2.2.1,escE s.2.2.2 y.2)).2 (setK s.1 (-1) (0,none));rw[q.2];rw[zHO];exact h.k.up zCg hn
 ·show MI (if v then((s.2.2.1,escE s.2.2.2 y.2).1++_,(s.2.2.1,escE s.2.2.2 y.2).2) else(s.2.2.1,escE s.2.2.2 y.2)).2 (n+1) _;rw[q.2];exact H c
 ·have:=h.nt;exact Int.le_trans q.1 (by show (s.2.2.1.length:Int)+1<=_;lia)
theorem DI.cal (ok:SlOK sl)(h:DI f n s)(hn:n<=15)(ha:AdrO s.1 s.2.2.2 a e)(hd:d=-1\/(6<=d/\d<9)):St1 sl (cal d a) s (DI f (n+1)):=by
 have hn1:=n1 n;have n0:0<=n:=Int.le_trans (natCast_nonneg _) h.nt;refine zCh (c:=true) (d:=true) (o:=((seeV sl s.2.1 e.1 (s.2.2.1.length+1),none),s.2.1,(s.2.2.1++[seeN sl s.2.1 e.1],s.2.2.2))) (zHC (wq h.k.red h.k.r5) ha.arg) ?_ rfl λ_=>?_
 ·show jm sl [(20000,none),e] s.2.1 s.2.2=_;unfold jm;rw[if_pos (decide_eq_true (show (g0 [(20000,none),e]).1=20000 from rfl))];rw[if_pos (show (okA s.2.2.2 (g1 [(20000,none),e])&&offE s.2.2.2 (farV sl s.2.1 (g1 [(20000,none),e]).1))=true by rw[show g1 [(20000,none),e]=e from rfl,ha.ok,zIb ok h.m hn];rfl)];rw[if_pos rfl];rw[if_pos rfl];rfl
 ·have q1:=zCt (sl:=sl) (a:=e.1) (d:=300) h.m () ();have q2:=zCt (sl:=sl) (a:=farV sl s.2.1 e.1) (d:=400) h.m () ();have q3:=h.nt;refine⟨?_,h.m.up zb hn1,?_⟩
  ·have k1:=h.k.up (zb (E:=s.2.2.2)) hn1;rcases hd with rfl | ⟨d0,d1⟩
   ·show KR f (n+1) s.2.2.2 (setK s.1 (-1) (seeV sl s.2.1 e.1 (s.2.2.1.length+1),none));rw[zHO];exact k1
   ·refine k1.set d0 d1 (.zero (by lia) (.inl ?_));unfold seeV;rw[fmz];rw[Int.natCast_add];have a0:0<=zc sl s.2.1 e.1 1 300 * 5+zc sl s.2.1 (farV sl s.2.1 e.1) 1 400+((s.2.2.1.length:Int)+1):=by lia
    have a1:zc sl s.2.1 e.1 1 300 * 5+zc sl s.2.1 (farV sl s.2.1 e.1) 1 400+((s.2.2.1.length:Int)+1)<65536:=by lia
    show (zc sl s.2.1 e.1 1 300 * 5+zc sl s.2.1 (farV sl s.2.1 e.1) 1 400+((s.2.2.1.length:Int)+1)) % _ / _=0;rw[emod_eq_of_lt a0 (lt_trans a1 ())];exact Int.ediv_eq_zero_of_lt a0 a1
  ·show ((s.2.2.1++[_]).length:Int)<=_;rw[length_append];rw[Int.natCast_add];show _+(1:Int)<=_;lia
theorem zHm (h:KR f n E kn)(n0:0<=n)(d0:6<=d)(d1:d<9)(H:HV E 2 (n+1) (Int.fmod v sz / 65536)):KR f (n+1) E (setK kn d (v,none)):=(h.up zb (n1 _)).set d0 d1 H
theorem DI.ar {op:Nat}{d c:Int}{a:Opd}{x:Int}(h:DI f n s)(hop:op=13\/op=18\/op=14)(ha:NumO s.1 s.2.2.2 n a x)(c0:0<=c)(c1:c<9)(d0:6<=d)(d1:d<9):St1 sl ⟨op,d,[a,(false,c)],.int 0,false⟩ s (DI f (n+1)):=by
 have n0:0<=n:=Int.le_trans (natCast_nonneg _) h.nt;have hg:wL s.1 [a,(false,c)]=some [(x,none),(c,none)]:=zHC ha.e rfl;have hi:isAr op=true:=by rcases hop with rfl | rfl | rfl<;>rfl
 have key:∃t,-8<=t/\t<=8/\arV op [(x,none),(c,none)]=x+t:=by
  rcases hop with rfl | rfl | rfl
  ·exact⟨c,by lia,by lia,rfl⟩
  ·exact zH6 ha.lo c0 c1
  ·exact⟨-c,by lia,by lia,rfl⟩
 refine zU key λt t0 t1 et=>?_;refine y5 (p:=⟨op,d,[a,(false,c)],.int 0,false⟩) hg (vN hi ..) ⟨?_,h.m.up zb (n1 _),Int.le_trans h.nt (n1 _)⟩;exact zHm h.k n0 d0 d1 (ha.v.sum n0 ha.lo ha.hi t0 t1 (by rw[et]))
end
end
section
noncomputable def wid (i:Int):Int:=[1,2,4].getD i.toNat 0
noncomputable def opAr (i:Int):Nat:=[13,18,14].getD i.toNat 0
noncomputable def zAW (i:Int):Int:=[2,3,4,0].getD i.toNat 0
noncomputable def widP (sl:Za)(way a b:Int):Int:=if Int.fmod way 3 > 0 then(if zP sl b<wid a then zP sl b else wid a) else wid a
noncomputable def row6 (dst:Int)(one near:Opd)(w way:Int)(free:Bool):List PS:=if Int.fmod way 2=0 then[sto w near one free] else[ld dst w near false free]
noncomputable def zEX (kind dst:Int)(one slot spot near:Opd)(w way:Int)(free:Bool):List PS:=
 if kind=0 then[cal (if decide (Int.fmod way 2=0) then dst else -1) one]
 else if kind=1 then[cal dst spot]
 else if kind<4 then[sto w spot one free]
 else if kind=4 then[ld dst w spot (decide (Int.fmod way 2=1)) free]
 else if kind=5 then[sto 4 (true,0) slot free]
 else if kind=6 then row6 dst one near w way free
 else if kind=7 then[⟨opAr (Int.fmod way 3),dst,[one,(false,Int.fmod (Int.fdiv way 3) 9)],.int 0,false⟩]
 else if kind=8 then[⟨9,0,[],.int 3,false⟩]
 else[ld 10 4 (true,0) false false,ld dst 1 (true,10) (decide (Int.fmod way 2=1)) free]
noncomputable def zHr (sl:Za)(kind rest:Int):List PS:=
 zEX kind (6+Int.fmod rest 3) (true,6+Int.fmod (Int.fdiv rest 3) 3) (true,2+Int.fmod (Int.fdiv rest 9) 3) (true,zAW (Int.fmod (Int.fdiv rest 9) 4)) (false,2+Int.fmod (Int.fdiv rest 9) 3)
  (widP sl (Int.fdiv rest 108) (Int.fmod (Int.fdiv rest 36) 3) (Int.fmod (Int.fdiv rest 9) 4)) (Int.fdiv rest 108) (decide (Int.fmod (Int.fdiv rest 108) 4=3))
noncomputable def vh (sl:Za)(number:Int):List PS:=zHr sl (Int.fmod number 10) (Int.fdiv number 10)
def W124 (w:Int):Prop:=w=1\/w=2\/w=4
def SlD (sl:Za):Prop:=∀i,0<=i->i<4->zP sl i=8\/W124 (zP sl i)
theorem zJD (h:0<=i/\i<3):W124 (wid i):=by
 rcases i3 h.1 h.2 with rfl | rfl | rfl
 ·exact .inl rfl
 ·exact .inr (.inl rfl)
 ·exact .inr (.inr rfl)
theorem W124.le (h:W124 w):1<=w/\w<=4:=by rcases h with rfl | rfl | rfl<;>decide
theorem zH8 (h:SlD sl)(ha:0<=a/\a<3)(hb:0<=b/\b<4):W124 (widP sl way a b):=by
 unfold widP;have k:=zJD ha;by_cases c:Int.fmod way 3 > 0
 ·rw[if_pos c];by_cases d:zP sl b<wid a
  ·rw[if_pos d];exact(h b hb.1 hb.2).resolve_left λe=>by have:=k.le;lia
  ·rw[if_neg d];exact k
 ·rw[if_neg c];exact k
theorem W124.nat (h:W124 w):w.toNat=1\/w.toNat=2\/w.toNat=4:=by
 rcases h with rfl | rfl | rfl
 ·exact .inl rfl
 ·exact .inr (.inl rfl)
 ·exact .inr (.inr rfl)
theorem zHh (h:0<=i/\i<4):zAW i=2\/zAW i=3\/zAW i=4\/zAW i=0:=by
 rcases i4 h.1 h.2 with rfl | rfl | rfl | rfl
 ·exact .inl rfl
 ·exact .inr (.inl rfl)
 ·exact .inr (.inr (.inl rfl))
 ·exact .inr (.inr (.inr rfl))
theorem zEc (h:0<=i/\i<3):opAr i=13\/opAr i=18\/opAr i=14:=by
 rcases i3 h.1 h.2 with rfl | rfl | rfl
 ·exact .inl rfl
 ·exact .inr (.inl rfl)
 ·exact .inr (.inr rfl)
structure Sy (p:PS):Prop where
 dr:DrW p
 nd:¬(1<=p.dst/\p.dst<=4)
structure ChOK (sl:Za)(ps:List PS):Prop where
 sy:∀p∈ps,Sy p
 safe:∀f n s,DI f n s->n<=15->Safe sl ps s (DI f (n+1))
 wt:wtS ps<=2
def OpR (o:Opd):Prop:=0<=o.2/\(o.1=true->o.2<11)/\o.2<sz
theorem yg (h0:0<=r)(h1:r<11):OpR (true,r):=⟨h0,λ_=>h1,lt_trans h1 ()⟩
theorem zAg (h0:0<=k)(h1:k<sz):OpR (false,k):=⟨h0,λq=>(nomatch q),h1⟩
theorem wt_1:wtS [p]<=2:=by unfold wtS wt1;rw[List.map_singleton];rw[List.sum_singleton];by_cases c:p.op=4/\0<=p.dst;(rw[if_pos c];decide);(rw[if_neg c];decide)
theorem all1 {α:Type}{P:α->Prop}{p:α}(h:P p):∀q∈[p],P q:=zB h zH
theorem zCb {P:Opd->Prop}(h:P a)(k:P b):∀o∈[a,b],P o:=zB h (zB k zH)
section
variable {sl:Za}
theorem ch1 (d:DrS p)(a:∀o∈p.args,OpR o)(nd:¬(1<=p.dst/\p.dst<=4))(s:∀f n s,DI f n s->n<=15->St1 sl p s (DI f (n+1))):ChOK sl [p]:=⟨all1 ⟨⟨d,a⟩,nd⟩,λf n st h hn=>.cons (by
 refine zC (s f n st h hn) λo h1 h2=>?_;exact⟨o,h1,λs' e=>.nil (h2 s' e)⟩),wt_1⟩
structure Prm (dst:Int)(one slot spot near:Opd)(w:Int):Prop where
 d0:6<=dst
 d1:dst<9
 o:∃r,one=(true,r)/\6<=r/\r<9
 c:∃i,slot=(true,2+i)/\0<=i/\i<3
 s:∃r,spot=(true,r)/\(r=2\/r=3\/r=4\/r=0)
 k:∃x,near=(false,x)/\2<=x/\x<5
 w:W124 w
variable {dst w:Int}{one slot spot near:Opd}{free:Bool}
theorem nd6 {d:Int}(h:6<=d):¬(1<=d/\d<=4):=λq=>absurd (Int.le_trans h q.2) ()
theorem ndm:¬(1<=(-1:Int)/\(-1:Int)<=4):=()
theorem Prm.cC (h:Prm dst one slot spot near w):OpR one:=by refine zU h.o λr eq1 h0 h1=>?_;subst eq1;exact yg (by lia) (by lia)
theorem Prm.bS (h:Prm dst one slot spot near w):OpR spot:=by obtain⟨r,rfl,rfl | rfl | rfl | rfl⟩:=h.s<;>exact yg () ()
theorem Prm.dC (h:Prm dst one slot spot near w):OpR slot:=by refine zU h.c λr eq1 h0 h1=>?_;subst eq1;exact yg (by lia) (by lia)
theorem Prm.cN (h:Prm dst one slot spot near w):OpR near:=by refine zU h.k λr eq1 h0 h1=>?_;subst eq1;exact zAg (by lia) (lt_trans h1 ())
theorem Prm.dn (h:Prm dst one slot spot near w):one.1=true:=by refine zC h.o λr eq1 _=>?_;subst eq1;rfl
theorem Prm.dB (h:Prm dst one slot spot near w):spot.1=true:=by refine zC h.s λr eq1 _=>?_;subst eq1;rfl
theorem opR5:OpR (true,5):=yg () ()
theorem opR0:OpR (true,0):=yg () ()
variable {f n:Int}{s:MSt}
theorem NumO.adr (h:NumO kn E n a x)(hn:n<=15):AdrO kn E a (x,none):=⟨h.e,zAh ((h.v.up (c':=1) (n':=n) zb (Int.le_refl _) (by lia)).off hn)⟩
theorem zIu (ok:SlOK sl)(h:Prm dst one slot spot near w){d:Int}(hd:d=-1\/(6<=d/\d<9)):ChOK sl [cal d one]:=
 ch1 (.call h.dn) (zCb opR5 h.cC) (hd.elim (λe=>e▸ndm) λe=>nd6 e.1) λf n s q hn=>by
  refine zU h.o λr eq1 h0 h1=>?_;subst eq1;obtain⟨x,hx⟩:=q.k.num h0 h1;exact q.cal ok hn (hx.adr hn) hd
theorem zIt (ok:SlOK sl)(h:Prm dst one slot spot near w):ChOK sl [cal dst spot]:=
 ch1 (.call h.dB) (zCb opR5 h.bS) (nd6 h.d0) λf n s q hn=>by
  refine zC h.s λr eq1 hr=>?_;subst eq1;refine zC (q.k.bT hr) λe he _=>?_;exact q.cal ok hn he (.inr ⟨h.d0,h.d1⟩)
theorem DI.n0 (h:DI f n s):0<=n:=Int.le_trans (natCast_nonneg _) h.nt
theorem zIr (h:Prm dst one slot spot near w):ChOK sl [sto w spot one free]:=
 ch1 (.store h.w) (zCb h.bS h.cC) ndm λf n s q hn=>by
  refine zC h.s λr eq1 hr=>?_;subst eq1;refine zC (q.k.bT hr) λe he hb=>?_;refine zU h.o λr' eq1 h0 h1=>?_;subst eq1;obtain⟨x,hx⟩:=q.k.num h0 h1;exact q.sto he hx.e rfl λ_=>q.m.put zb (n1 _) hb h.w.nat hx.lo hx.hi (hx.v.up zb (n1 _) (by lia))
theorem zJx (h:Prm dst one slot spot near w){sg:Bool}:ChOK sl [ld dst w spot sg free]:=
 ch1 (.load h.w) (all1 h.bS) (nd6 h.d0) λf n s q hn=>by
  refine zC h.s λr eq1 hr=>?_;subst eq1;refine zC (q.k.bT hr) λe he hb=>?_;refine q.ld he h.d0 h.d1 λ_=>?_;have n0:=q.n0;rcases h.w with rfl | rfl | rfl
  ·exact .zero (by lia) (jd q.m (.inl rfl))
  ·exact .zero (by lia) (jd q.m (.inr rfl))
  ·exact zH7 q.m hb
theorem zGc (h0:0<=i)(h1:i<4):0<=home i/\home i<sz:=⟨Int.le_trans () (yi h0),Int.lt_of_lt_of_le (Int.lt_of_lt_of_le (Int.lt_add_of_pos_right _ ()) (zFF h1)) ()⟩
theorem zJy (h:Prm dst one slot spot near w):ChOK sl [sto 4 (true,0) slot free]:=
 ch1 (.store (.inr (.inr rfl))) (zCb opR0 h.dC) ndm λf n s q hn=>by
  refine zU h.c λi eq1 h0 h1=>?_;subst eq1;refine zC (q.k.bT (r:=0) (.inr (.inr (.inr rfl)))) λe he hb=>?_;have n0:=q.n0;have hs:stOK [e,(home i,some i)]=true:=by
   have e0:=he.arg;rcases q.k.r0 with z | z
   ·rw[wq q.k.red z] at e0;rw[<-Option.some.inj e0];rfl
   ·rw[wq q.k.red z] at e0;rw[<-Option.some.inj e0];rfl
  obtain⟨r0,r1⟩:=zGc h0 (by lia);refine q.sto he (wq q.k.red (q.k.ptr i h0 h1)) hs λ_=>q.m.put (zCg (t:=some i)) (n1 _) hb (.inr (.inr rfl)) r0 r1 (.nr ⟨i,h0,by lia,jA h0,by lia,by lia⟩)
theorem zAI (ok:SlOK sl)(h0:2<=x)(h1:x<5)(c:z7 sl x w=true):x+w<=4:=by
 rcases yu ok c with ⟨_,b⟩ | ⟨b,_⟩ | ⟨k,⟨k0,_⟩,b,_⟩
 ·exact b
 ·lia
 ·unfold home at b;lia
theorem zFZ (h:x<5):AdrO kn E (false,x) (x,none):=⟨rfl,zAh (zAi (by lia))⟩
theorem zGw (ok:SlOK sl)(h:Prm dst one slot spot near w):ChOK sl [sto w near one free]:=
 ch1 (.store h.w) (zCb h.cN h.cC) ndm λf n s q hn=>by
  refine zU h.k λx eq1 x0 x1=>?_;subst eq1;refine zU h.o λr' eq1 h0 h1=>?_;subst eq1;obtain⟨y,hy⟩:=q.k.num h0 h1;refine q.sto (zFZ x1) hy.e rfl λc=>?_;have c:=zAI ok x0 x1 c
  have:=h.w.le;exact(q.m.up zb (n1 _)).putN x0 (by lia)
theorem zGv (ok:SlOK sl)(h:Prm dst one slot spot near w):ChOK sl [ld dst w near false free]:=
 ch1 (.load h.w) (all1 h.cN) (nd6 h.d0) λf n s q hn=>by
  refine zU h.k λx eq1 x0 x1=>?_;subst eq1;have n0:=q.n0;refine q.ld (zFZ x1) h.d0 h.d1 λc=>?_;have c:=zAI ok x0 x1 c;rcases h.w with rfl | rfl | rfl
  ·exact .zero (by lia) (jd q.m (.inl rfl))
  ·exact .zero (by lia) (jd q.m (.inr rfl))
  ·lia
theorem zKf (h:Prm dst one slot spot near w){op:Nat}{c:Int}(hop:op=13\/op=18\/op=14)(c0:0<=c)(c1:c<9):ChOK sl [⟨op,dst,[one,(false,c)],.int 0,false⟩]:=
 ch1 (.ar (by rcases hop with rfl | rfl | rfl<;>rfl)) (zCb h.cC (zAg c0 (lt_trans c1 ()))) (nd6 h.d0) λf n s q hn=>by
  refine zU h.o λr' eq1 h0 h1=>?_;subst eq1;obtain⟨y,hy⟩:=q.k.num h0 h1;exact q.ar hop hy c0 c1 h.d0 h.d1
theorem zIs:ChOK sl [⟨9,0,[],.int 3,false⟩]:=
 ch1 (.slot (.inr qA)) zH () λf n s q hn=>y5 (g:=[]) rfl rfl ⟨(q.k.up zb (n1 _)).bz,q.m.up zb (n1 _),Int.le_trans q.nt (n1 _)⟩
theorem zKg (h:Prm dst one slot spot near w){sg:Bool}:ChOK sl [ld 10 4 (true,0) false false,ld dst 1 (true,10) sg free]:=by
 refine⟨zB ⟨⟨.load (.inr (.inr rfl)),all1 opR0⟩,by show ¬(1<=(10:Int)/\(10:Int)<=4);decide⟩ (all1 ⟨⟨.load (.inl rfl),all1 (yg () ())⟩,nd6 h.d0⟩),λf n s q hn=>.cons ?_,by
  have e:∀q:PS,q.op≠4->wt1 q=1:=λq h=>if_neg λc=>h c.1;show wt1 (ld 10 4 (true,0) false false)+(wt1 (ld dst 1 (true,10) sg free)+0)<=2;rw[e _ (show (0:Nat)≠4 by decide),e _ (show (0:Nat)≠4 by decide)];decide⟩
 refine zC (q.k.bT (r:=0) (.inr (.inr (.inr rfl)))) λe he hb=>?_;have n0:=q.n0;refine zCh (p:=ld 10 4 (true,0) false false) (zDu he.arg) rfl he.ok λ_=>?_;have hv:HV s.2.2.2 1 n (Int.fmod (getS s.2.1 e.1 4 false) sz / 65536):=by rw[zEr q.m];exact q.m.word _ hb
 have q1:DI f n (setK s.1 10 (getS s.2.1 e.1 4 false,none),s.2.1,s.2.2):=⟨q.k.dF,q.m,q.nt⟩
 have a1:AdrO (setK s.1 10 (getS s.2.1 e.1 4 false,none)) s.2.2.2 (true,10) (Int.fmod (getS s.2.1 e.1 4 false) sz,none):=⟨wq q1.k.red (by rw[wJ];rw[if_pos ()]),zAh (hv.off hn)⟩
 refine .cons ?_;refine zC (q1.ld (sl:=sl) (sg:=sg) (v:=free) (w:=1) a1 h.d0 h.d1 λ_=>.zero (by lia) (jd q.m (.inl rfl))) λo h1 h2=>?_;exact⟨o,h1,λs' e=>.nil (h2 s' e)⟩
theorem jk [Decidable c](h:c->ChOK sl ps)(k:¬c->ChOK sl qs):ChOK sl (if c then ps else qs):=by
 by_cases q:c
 ·rw[if_pos q];exact h q
 ·rw[if_neg q];exact k q
theorem zGu (ok:SlOK sl)(h:Prm dst one slot spot near w):ChOK sl (zEX kind dst one slot spot near w way free):=by
 unfold zEX row6;refine jk (λ_=>zIu ok h ?_) λ_=>jk (λ_=>zIt ok h) λ_=>jk (λ_=>zIr h) λ_=>jk (λ_=>zJx h) λ_=>jk (λ_=>zJy h) λ_=>jk (λ_=>jk (λ_=>zGw ok h) λ_=>zGv ok h) λ_=>
  jk (λ_=>zKf h (zEc (fm ())) (fm ()).1 (fm ()).2) λ_=>jk (λ_=>zIs) λ_=>zKg h
 by_cases q:Int.fmod way 2=0
 ·rw[decide_eq_true q];rw[if_pos rfl];exact .inr ⟨h.d0,h.d1⟩
 ·rw[decide_eq_false q];rw[if_neg Bool.false_ne_true];exact .inl rfl
theorem up3 {a k:Int}(h:0<=a/\a<3):k<=k+a/\k+a<k+3:=⟨Int.le_add_of_nonneg_right h.1,add_lt_add_left h.2 k⟩
theorem zF2 (ok:SlOK sl)(hd:SlD sl)(number:Int):ChOK sl (vh sl number):=by unfold vh zHr;generalize Int.fdiv number 10=rest;have m3:=λx=>fm (x:=x) (k:=3) ();have m4:=λx=>fm (x:=x) (k:=4) ();exact zGu ok ⟨(up3 (m3 _)).1,(up3 (m3 _)).2,⟨_,rfl,up3 (m3 _)⟩,⟨_,rfl,m3 _⟩,⟨_,rfl,zHh (m4 _)⟩,⟨_,rfl,up3 (m3 _)⟩,zH8 hd (m3 _) (m4 _)⟩
end
end
section
noncomputable abbrev cstR (d k:Int):PS:=⟨11,d,[(false,k)],.int 0,false⟩
noncomputable abbrev sltR (d s:Int):PS:=⟨9,d,[],.int s,false⟩
noncomputable def zCJ (n2:Int):List PS:=[⟨12,5,[],.tup [.str "see",.int 0],false⟩,⟨10,6,[(true,1)],.int 0,false⟩,cstR 7 (Int.fmod n2 256),cstR 8 77,cstR 9 (1+Int.fmod (Int.fdiv n2 3) 2)]
noncomputable def zo (n2:Int):List PS:=[sltR 2 0,sltR 3 1,sltR 4 2]++zCJ n2
noncomputable def subP:PS:=⟨14,9,[(true,9),(false,1)],.int 0,false⟩
noncomputable def vO (sl:Za):Nat->List Int->List (List PS)->List (List PS)
 | _,[],ps=>ps
 | i,n::r,ps=>vO sl (i+1) r (ps.set (i % 3) (ps.getD (i % 3) []++vh sl n))
noncomputable def vt (sl:Za)(ns:List Int):List (List PS):=vO sl 0 (ns.drop 3) [zo (ns.getD 2 0),[],[]]
noncomputable def vB (sl:Za)(ns:List Int):List (List PS):=(vt sl ns).set 1 ((vt sl ns).getD 1 []++[subP])
noncomputable def zB6 (n2:Int):Opd:=(true,6+Int.fmod n2 3)
noncomputable def zIa (n2:Int):List PS:=[⟨32,-1,[],.int 1,false⟩,⟨33,-1,[(true,9)],.tup [.int 1,.int 2],false⟩,⟨35,-1,[zB6 n2],.int 0,false⟩]
noncomputable def zipB:List (List PS)->List PS->List (List Int)->List PB
 | s::ss,f::fs,w::ws=>⟨s,f,w⟩::zipB ss fs ws
 | _,_,_=>[]
noncomputable def zAP (sl:Za)(ns:List Int):List PB:=zipB (vB sl ns) (zIa (ns.getD 2 0)) cfg
theorem uL {α:Type}{P:α->Prop}{l r:List α}(h:∀x∈l,P x)(k:∀x∈r,P x):∀x∈l++r,P x:=λx q=>(List.mem_append.mp q).elim (h x) (k x)
theorem zBo (l r:List PS):wtS (l++r)=wtS l+wtS r:=by unfold wtS;rw[List.map_append];rw[List.sum_append]
section
variable {sl:Za}
structure PtOK (sl:Za)(k:Nat)(ps:List PS):Prop where
 sy:∀p∈ps,Sy p
 safe:∀f n s,DI f n s->n+k<=16->Safe sl ps s (DI f (n+k))
 wt:wtS ps<=2 * k
theorem PtOK.nil:PtOK sl 0 []:=⟨zH,λf n s h _=>.nil (by rw[Int.natCast_zero];rw[add_zero];exact h),le_refl _⟩
theorem PtOK.app {k:Nat}(h:PtOK sl k ps)(c:ChOK sl qs):PtOK sl (k+1) (ps++qs):=
 ⟨uL h.sy c.sy,λf n s q hn=>(h.safe f n s q (by lia)).app λs' q'=>(c.safe f _ s' q' (by lia)).mono λ_ z=>by rw[Int.natCast_add];rw[<-Int.add_assoc];exact z,by rw[zBo];exact add_le_add h.wt c.wt⟩
inductive Pts (sl:Za)(e:List PS)(i:Nat):List (List PS)->Prop
 | mk (a b c:List PS) (ka kb kc:Nat) (ha:PtOK sl ka a) (hb:PtOK sl kb b) (hc:PtOK sl kc c) (lb:kb<=(i+1) / 3) (lt:ka+kb+kc<=i):Pts sl e i [e++a,b,c]
theorem zKI {i k:Nat}(q:i % 3=1)(h:k<=(i+1) / 3):k+1<=(i+1+1) / 3:=by have e:=Nat.div_add_mod i 3;rw[q] at e;generalize i / 3=t at e;subst e;rw[show (3 * t+1+1) / 3=t from Nat.mul_add_div () t 2] at h;rw[show (3 * t+1+1+1) / 3=t+1 from Nat.mul_add_div () t 3];exact succ_le_succ h
theorem b01 {x:Int}(h0:0<=x)(h1:x<2):x=0\/x=1:=by lia
theorem zJW (ok:SlOK sl)(hd:SlD sl):∀{ns:List Int} {i:Nat} {ps:List (List PS)},Pts sl e i ps->Pts sl e (i+ns.length) (vO sl i ns ps):=λ{ns}=>by
 induction ns with
 | nil=>exact λh=>h
 | cons n r ih=>
  intro i ps h;rw[length_cons];rw[Nat.add_comm r.length];rw[<-add_assoc];refine ih ?_;obtain⟨a,b,c,ka,kb,kc,ha,hb,hc,lb,lt⟩:=h;have k:=zF2 ok hd n;have lb':=le_trans lb (Nat.div_le_div_right (c:=3) (le_succ (i+1)));rcases lt3 (i % 3) (mod_lt i ()) with q | q | q<;>rw[q]
  ·show Pts sl e (i+1) [e++a++vh sl n,b,c];rw[append_assoc];exact .mk _ _ _ (ka+1) kb kc (ha.app k) hb hc lb' (by rw[add_assoc];rw[add_right_comm];rw[<-add_assoc];exact succ_le_succ lt)
  ·exact .mk a (b++vh sl n) c ka (kb+1) kc ha (hb.app k) hc (zKI q lb) (by rw[<-add_assoc];rw[add_right_comm];exact succ_le_succ lt)
  ·exact .mk a b (c++vh sl n) ka kb (kc+1) ha hb (hc.app k) lb' (succ_le_succ lt)
def okN (n:Int):Prop:=0<=n/\n<sz
theorem zJr {n2:Int}:∀p∈zo n2,DrW p/\p.dst≠1:=by
 have c:∀{d k:Int},d≠1->0<=k->k<sz->DrW (cstR d k)/\(cstR d k).dst≠1:=λd h0 h1=>⟨⟨.con,all1 (zAg h0 h1)⟩,d⟩
 have m:=fm (x:=n2) (k:=256) ();have m2:=fm (x:=Int.fdiv n2 3) (k:=2) ();have s256:(256:Int)<sz:=()
 exact zB ⟨⟨.slot (.inl ⟨rfl,(),()⟩),zH⟩,()⟩ (zB ⟨⟨.slot (.inl ⟨rfl,(),()⟩),zH⟩,()⟩ (zB ⟨⟨.slot (.inl ⟨rfl,(),()⟩),zH⟩,()⟩ (zB ⟨⟨.name,zH⟩,show (5:Int)≠1 by decide⟩ (zB ⟨⟨.cpy,all1 (yg () ())⟩,show (6:Int)≠1 by decide⟩ (zB (c () m.1 (lt_trans m.2 s256)) (zB (c () () ()) (zB (c () (Int.add_nonneg () m2.1) (lt_trans (add_lt_add_left m2.2 1) ())) zH)))))))
theorem zGl {n2 v:Int}(v0:0<=v)(v1:v<1000000):Safe sl (zo n2) (s00 v) (DI (1+Int.fmod (Int.fdiv n2 3) 2) 0):=by
 have m:=fm (x:=n2) (k:=256) ();have m2:=fm (x:=Int.fdiv n2 3) (k:=2) ();have ev:Int.fmod v sz=v:=Int.fmod_eq_of_lt v0 (lt_trans v1 ());have s256:(256:Int)<sz:=()
 have n9:0<=1+Int.fmod (Int.fdiv n2 3) 2:=Int.add_nonneg () m2.1;have l9:1+Int.fmod (Int.fdiv n2 3) 2<sz:=lt_trans (add_lt_add_left m2.2 1) ();have e7:Int.fmod (Int.fmod n2 256) sz=Int.fmod n2 256:=Int.fmod_eq_of_lt m.1 (lt_trans m.2 s256);have e9:Int.fmod (1+Int.fmod (Int.fdiv n2 3) 2) sz=1+Int.fmod (Int.fdiv n2 3) 2:=Int.fmod_eq_of_lt n9 l9;refine .cons (y5 (g:=[]) (e:=(home 0,some 0)) (m:=[]) (x:=([],0)) rfl rfl (.cons (y5 (g:=[]) (e:=(home 1,some 1)) (m:=[]) (x:=([],0)) rfl rfl (.cons (y5 (g:=[]) (e:=(home 2,some 2)) (m:=[]) (x:=([],0)) rfl rfl (.cons (y5 (g:=[]) (e:=(20000,none)) (m:=[]) (x:=([],0)) rfl rfl (.cons (y5 (g:=[(v,none)]) (e:=(v,none)) (m:=[]) (x:=([],0)) (zDu ?_) rfl (.cons (y5 (g:=[(Int.fmod n2 256,none)]) (e:=(Int.fmod n2 256,none)) (m:=[]) (x:=([],0)) rfl rfl (.cons (y5 (g:=[(77,none)]) (e:=(77,none)) (m:=[]) (x:=([],0)) rfl rfl (.cons (y5 (g:=[(1+Int.fmod (Int.fdiv n2 3) 2,none)]) (e:=(1+Int.fmod (Int.fdiv n2 3) 2,none)) (m:=[]) (x:=([],0)) rfl rfl (.nil ⟨?_,.nil (Int.le_refl 0),Int.le_refl 0⟩))))))))))))))))
 ·show argT [(0,(8192,none)),(1,(v,none)),(2,(home 0,some 0)),(3,(home 1,some 1)),(4,(home 2,some 2)),(5,(20000,none))] (true,1)=_;unfold argT;rw[if_pos rfl];rw[show lk ([(0,(8192,none)),(1,(v,none)),(2,(home 0,some 0)),(3,(home 1,some 1)),(4,(home 2,some 2)),(5,(20000,none))]:Kn) 1=some (v,none) from rfl];exact if_pos ev
 ·show KR _ 0 0 [(0,(8192,none)),(1,(v,none)),(2,(home 0,some 0)),(3,(home 1,some 1)),(4,(home 2,some 2)),(5,(20000,none)),(6,(Int.fmod v sz,none)),(7,(Int.fmod (Int.fmod n2 256) sz,none)),(8,(77,none)),(9,(Int.fmod (1+Int.fmod (Int.fdiv n2 3) 2) sz,none))];rw[ev];rw[e7];rw[e9];refine⟨λr e h=>?_,λr r0 r1=>?_,λi i0 i1=>?_,.inl rfl,rfl,rfl⟩
  ·have hm:=List.mem_of_find?_eq_some (Option.map_eq_some_iff.mp h).choose_spec.1;have he:=(Option.map_eq_some_iff.mp h).choose_spec.2;rw[<-he];have key:∀x∈([(0,(8192,none)),(1,(v,none)),(2,(home 0,some 0)),(3,(home 1,some 1)),(4,(home 2,some 2)),(5,(20000,none)),(6,(v,none)),(7,(Int.fmod n2 256,none)),(8,(77,none)),(9,(1+Int.fmod (Int.fdiv n2 3) 2,none))]:Kn),0<=x.2.1/\x.2.1<sz:=
    zB () (zB ⟨v0,lt_trans v1 ()⟩ (zB () (zB () (zB () (zB () (zB ⟨v0,lt_trans v1 ()⟩ (zB ⟨m.1,lt_trans m.2 s256⟩ (zB () (zB ⟨n9,l9⟩ zH)))))))))
   exact key _ hm
  ·rcases(by lia:r=6\/r=7\/r=8) with rfl | rfl | rfl
   ·exact⟨v,rfl,.lo (by lia) (by lia)⟩
   ·exact⟨_,rfl,.lo (by lia) (by lia)⟩
   ·exact⟨77,rfl,.lo () ()⟩
  ·rcases i3 i0 i1 with rfl | rfl | rfl<;>rfl
theorem zFq {f n:Int}(h:DI f n s)(f1:1<=f)(f2:f<=2):Safe sl [subP] s (DI (f - 1) n):=
 .cons (y5 (p:=subP) (g:=[(f,none),(1,none)]) (zHC (wq h.k.red h.k.r9) rfl) (vN () ..) (.nil ⟨h.k.d9 (Int.fmod_eq_of_lt (show (0:Int)<=f - 1 by lia) (Int.lt_of_le_of_lt (show f - 1<=2 by lia) ())),h.m,h.nt⟩))
theorem zDL {Bs:List PB}{B:PB}{k:Nat}{i:Int}{s:MSt}{Q:MSt->Prop}(hB:Bs[i.toNat]?=some B)(h:Safe sl B.steps s Q)(e:∀s',Q s'->∃v,endV B.fin s'.1=some v/\(B.fin.op=35\/∃j,B.ways[wayI B.fin v]?=some j/\∃o,runG sl Bs k j s'=some o)):∃o,runG sl Bs (k+1) i s=some o:=by
 rw[ja];rw[hB];show ∃o,(runS sl B.steps s).bind _=some o;refine vq h λb s' h1 h2=>?_;rw[h1];cases b with
 | false=>exact⟨_,rfl⟩
 | true=>
  refine zC (e s' (h2 rfl)) λv hv hj=>?_;show ∃o,(endV B.fin s'.1).bind _=some o;rw[hv];show ∃o,(if B.fin.op=35 then _ else _)=some o;by_cases q:B.fin.op=35
  ·rw[if_pos q];exact⟨_,rfl⟩
  ·rw[if_neg q];obtain⟨j,e,o,ho⟩:=hj.resolve_left q;rw[e];exact⟨o,ho⟩
variable {e a b c:List PS}{ka kb kc:Nat}{n2:Int}
noncomputable abbrev bks (e a b c:List PS)(n2:Int):List PB:=zipB [e++a,b++[subP],c] (zIa n2) cfg
theorem run2 (hc:PtOK sl kc c){k:Nat}{f n:Int}{s:MSt}(h:DI f n s)(hn:n+kc<=16):∃o,runG sl (bks e a b c n2) (k+1) 2 s=some o:=
 zDL (i:=2) (B:=⟨c,⟨35,-1,[zB6 n2],.int 0,false⟩,[]⟩) rfl (hc.safe f n s h hn) λs' q=>by
  have m:=fm (x:=n2) (k:=3) ();obtain⟨x,hx⟩:=q.k.num (r:=6+Int.fmod n2 3) (Int.le_add_of_nonneg_right m.1) (add_lt_add_left m.2 6);refine⟨x,?_,.inl rfl⟩;show (wL s'.1 [zB6 n2]).map _=_;rw[zDu (show argT s'.1 (zB6 n2)=_ from hx.e)];rfl
theorem zJs {f n:Int}(h:DI f n s):endV ⟨33,-1,[(true,9)],.tup [.int 1,.int 2],false⟩ s.1=some f:=by show (wL s.1 [(true,9)]).map _=_;rw[zDu (wq h.k.red h.k.r9)];rfl
theorem zFa (hb:PtOK sl kb b){f n:Int}(h:DI f n s)(hn:n+kb<=16)(f1:1<=f)(f2:f<=2):Safe sl (b++[subP]) s (DI (f - 1) (n+kb)):=(hb.safe f n s h hn).app λs' q=>zFq q f1 f2
theorem zJS (hb:PtOK sl kb b)(hc:PtOK sl kc c){k:Nat}{n:Int}{s:MSt}(h:DI 1 n s)(hn:n+kb+kc<=16):∃o,runG sl (bks e a b c n2) (k+2) 1 s=some o:=
 zDL (i:=1) (B:=⟨b++[subP],⟨33,-1,[(true,9)],.tup [.int 1,.int 2],false⟩,[1,2]⟩) rfl (zFa hb h (by omega) () ()) λs' q=>⟨_,zJs q,.inr ⟨2,rfl,run2 hc q hn⟩⟩
theorem zKQ (hb:PtOK sl kb b)(hc:PtOK sl kc c){k:Nat}{n:Int}{s:MSt}(h:DI 2 n s)(hn:n+kb+kb+kc<=16):∃o,runG sl (bks e a b c n2) (k+3) 1 s=some o:=
 zDL (i:=1) (B:=⟨b++[subP],⟨33,-1,[(true,9)],.tup [.int 1,.int 2],false⟩,[1,2]⟩) rfl (zFa hb h (by lia) () ()) λs' q=>⟨_,zJs q,.inr ⟨1,rfl,zJS hb hc q hn⟩⟩
theorem run0 {v:Int}(ha:PtOK sl ka a)(hb:PtOK sl kb b)(hc:PtOK sl kc c)(v0:0<=v)(v1:v<1000000)(hn:(ka:Int)+kb+kb+kc<=16):∃o,runG sl (bks (zo n2) a b c n2) 8 0 (s00 v)=some o:=by
 have m:=fm (x:=Int.fdiv n2 3) (k:=2) ();have es:Safe sl (zo n2++a) (s00 v) (DI (1+Int.fmod (Int.fdiv n2 3) 2) ka):=(zGl v0 v1).app λs' q=>(ha.safe _ 0 s' q (by lia)).mono λ_ z=>by rw[Int.zero_add] at z;exact z
 refine zDL (i:=0) (B:=⟨zo n2++a,⟨32,-1,[],.int 1,false⟩,[1]⟩) rfl es λs' q=>⟨0,rfl,.inr ⟨1,rfl,?_⟩⟩
 rcases b01 m.1 m.2 with z | z
 ·rw[z] at q;exact zJS hb hc q (Int.le_trans (Int.add_le_add_right (Int.le_add_of_nonneg_right (natCast_nonneg _)) _) hn)
 ·rw[z] at q;exact zKQ hb hc q hn
end
end
section
def vD (c:Int)(p:PS):Prop:=∀o∈p.args,¬(o.1=true/\o.2=c)
def zKY (c:Int)(args:List Opd):Prop:=∀o∈args,¬(o.1=true/\o.2=c)
theorem zGB (h:zD (setb m k) c=false):zD m c=false/\(0<=k->k≠c):=by
 refine⟨?_,λh0 e=>?_⟩
 ·cases q:zD m c with
  | false=>rfl
  | true=>rw[wE (u7 k) q] at h;cases h
 ·rw[<-e] at h;rw[jA h0] at h;cases h
theorem jo (c0:0<=c):∀{m:Nat},zD (addA m args) c=false->zD m c=false/\zKY c args:=by
 induction args with
 | nil=>exact λh=>⟨h,zH⟩
 | cons o l ih=>
  intro m h;obtain⟨h1,h2⟩:=ih (m:=if o.1 then setb m o.2 else m) h;by_cases q:o.1=true
  ·rw[if_pos q] at h1;obtain⟨h3,h4⟩:=zGB h1;exact⟨h3,zB (λe=>h4 (by rw[e.2];exact c0) e.2) h2⟩
  ·rw[if_neg q] at h1;exact⟨h1,zB (λe=>q e.1) h2⟩
theorem zGs (hk:zD m k=true)(h:zD (clrb m k) c=false)(n:k≠c):zD m c=false:=by
 cases q:zD m c with
 | false=>rfl
 | true=>
  unfold zD at h q hk;obtain⟨q1,q2⟩:=Bool.and_eq_true_iff.mp q;obtain⟨k1,_⟩:=Bool.and_eq_true_iff.mp hk;rw[q1] at h;rw[yL hk] at h;rw[q2] at h;rw[Bool.true_and] at h;rw[Bool.true_and] at h;rw[Bool.not_eq_false'] at h;rw[decide_eq_true_iff] at h;have q1:=of_decide_eq_true q1;have k1:=of_decide_eq_true k1;exact absurd (by rw[<-toNat_of_nonneg k1];rw[<-toNat_of_nonneg q1];rw[h]) n
section
variable {sl:Za}{am:Zc}{c:Int}
theorem zEG (c0:0<=c):∀{ps:List PS},(∀q∈ps,q.dst≠c/\zG q=false)->zD (swF sl am ps m).1 c=false->zD m c=false/\∀q∈(swF sl am ps m).2,vD c q.1:=λ{ps}=>by
 induction ps with
 | nil=>exact λ_ h=>⟨h,zH⟩
 | cons p ps ih=>
  intro hp h;have ih:=@ih (zL hp);obtain⟨hd,hs⟩:=hp p (.head _);have e0:swF sl am (p::ps) m=zI sl am (swF sl am ps m) p:=rfl;rw[e0] at h ⊢;generalize swF sl am ps m=s at *;unfold zI at h ⊢;by_cases c1:zD s.1 p.dst=true
  ·rw[if_pos c1,if_neg (by rw[hs];decide)] at h ⊢;obtain⟨h1,h2⟩:=jo c0 h;obtain⟨h3,h4⟩:=ih (zGs c1 h1 hd);exact⟨h3,zB h2 h4⟩
  ·rw[if_neg c1] at h ⊢;by_cases q:z8 sl am p=true
   ·rw[if_pos q] at h ⊢;exact ih h
   ·rw[if_neg q] at h ⊢;by_cases z:(decide (p.dst >= 0)&&wT p.op)=true
    ·rw[if_pos z] at h ⊢;obtain⟨h1,h2⟩:=jo c0 h;obtain⟨h3,h4⟩:=ih h1;exact⟨h3,zB h2 h4⟩
    ·rw[if_neg z] at h ⊢;obtain⟨h1,h2⟩:=jo c0 h;obtain⟨h3,h4⟩:=ih h1;exact⟨h3,zB h2 h4⟩
def From (ps qs:List PS):Prop:=∀q∈qs,∃p∈ps,q.args=p.args/\(q.dst=p.dst\/q.dst=-1)
theorem zEH:∃K:List (PS×Bool),(ps.foldr (λp s=>zI sl am s p) s).2=K++s.2/\From ps (K.map (·.1)):=by
 induction ps with
 | nil=>exact⟨[],rfl,zH⟩
 | cons p ps ih=>
  refine zC ih λK e h=>?_;have up:From (p::ps) (K.map (·.1)):=λq hq=>by refine zC (h q hq) λx hx r=>?_;exact⟨x,.tail _ hx,r⟩
  have keep:∀{x:PS} {b:Bool},x.args=p.args->(x.dst=p.dst\/x.dst=-1)->∃K':List (PS×Bool),(x,b)::(K++s.2)=K'++s.2/\From (p::ps) (K'.map (·.1)):=λ{x b} h1 h2=>⟨(x,b)::K,rfl,zB ⟨p,.head _,h1,h2⟩ up⟩
  show ∃K',(zI sl am (ps.foldr _ s) p).2=K'++s.2/\_;generalize ps.foldr (λp s=>zI sl am s p) s=t at e ⊢;unfold zI;by_cases c1:zD t.1 p.dst=true
  ·rw[if_pos c1];by_cases q:zG p=true
   ·rw[if_pos q];exact⟨K,e,up⟩
   ·rw[if_neg q];show ∃K',(p,false)::t.2=_/\_;rw[e];exact keep rfl (.inl rfl)
  ·rw[if_neg c1];by_cases q:z8 sl am p=true
   ·rw[if_pos q];exact⟨K,e,up⟩
   ·rw[if_neg q];by_cases z:(decide (p.dst >= 0)&&wT p.op)=true
    ·rw[if_pos z];show ∃K',(wK p,true)::t.2=_/\_;rw[e];exact keep rfl (.inr rfl)
    ·rw[if_neg z];show ∃K',(p,false)::t.2=_/\_;rw[e];exact keep rfl (.inl rfl)
theorem yx:From ps ((swF sl am ps m).2.map (·.1)):=by refine zC (zEH (sl:=sl) (am:=am) (ps:=ps) (s:=(m,[]))) λK e h=>?_;rw[show (swF sl am ps m).2=K from e.trans (append_nil K)];exact h
theorem From.use (h:From ps qs)(k:∀p∈ps,vD c p):∀q∈qs,vD c q:=λq hq=>by
 refine zU (h q hq) λp hp e _=>?_;unfold vD;rw[e];exact k p hp
theorem From.dst (c0:0<=c)(h:From ps qs)(k:∀p∈ps,p.dst≠c):∀q∈qs,q.dst≠c:=λq hq=>by
 refine zU (h q hq) λp hp _ e=>?_;rcases e with e | e
 ·rw[e];exact k p hp
 ·rw[e];omega
inductive SIs (c:Int)(s0 s1 s2:List PS):Prop where
 | has (pre post:List PS) (e:s0=pre++sltR c (c - 2)::post) (h0:∀q∈pre,vD c q/\q.dst≠c) (h1:∀q∈post,q.dst≠c) (h2:∀q∈s1,q.dst≠c) (h3:∀q∈s2,q.dst≠c)
 | no (h0:∀q∈s0,vD c q) (h1:∀q∈s1,vD c q) (h2:∀q∈s2,vD c q)
theorem zFx:zI sl am s (sltR d k)=if zD s.1 d then(clrb s.1 d,(sltR d k,false)::s.2) else s:=by
 unfold zI;by_cases q:zD s.1 d=true
 ·rw[if_pos (show zD s.1 (sltR d k).dst=true from q),if_pos q];rfl
 ·rw[if_neg (show ¬zD s.1 (sltR d k).dst=true from q),if_neg q];rfl
theorem zKO (c0:0<=c)(h:SIs c s0 s1 s2)(w0:∀q∈s0,zG q=false)(w1:∀q∈s1,zG q=false)(w2:∀q∈s2,zG q=false)
  (e1:(swF sl am s1 m1).1=a1) (e2:(swF sl am s2 m2).1=a2) (k0:zD m0 c=false->zD a1 c=false) (k1:zD m1 c=false->zD a2 c=false) :
  SIs c ((swF sl am s0 m0).2.map (·.1)) ((swF sl am s1 m1).2.map (·.1)) ((swF sl am s2 m2).2.map (·.1)):=by
 cases h with
 | no h0 h1 h2=>exact .no (yx.use h0) (yx.use h1) (yx.use h2)
 | has pre post e h0 h1 h2 h3=>
  subst e;have e3:swF sl am (pre++sltR c (c - 2)::post) m0=pre.foldr (λp s=>zI sl am s p) (zI sl am (swF sl am post m0) (sltR c (c - 2))):=List.foldr_append ..;rw[e3];rw[zFx];refine zC (zEH (sl:=sl) (am:=am) (ps:=pre) (s:=if zD (swF sl am post m0).1 c then(clrb (swF sl am post m0).1 c,(sltR c (c - 2),false)::(swF sl am post m0).2) else swF sl am post m0)) λK eK hK=>?_;rw[eK];by_cases q:zD (swF sl am post m0).1 c=true
  ·rw[if_pos q];refine .has (K.map (·.1)) ((swF sl am post m0).2.map (·.1)) (by rw[List.map_append];rfl) (λx hx=>⟨hK.use (λp hp=>(h0 p hp).1) x hx,hK.dst c0 (λp hp=>(h0 p hp).2) x hx⟩) (yx.dst c0 h1) (yx.dst c0 h2) (yx.dst c0 h3)
  ·rw[if_neg q];have q:zD (swF sl am post m0).1 c=false:=by rw[<-not_eq_true];exact q
   have hw:∀x∈post,zG x=false:=λx hx=>w0 x (mem_append_right _ (.tail _ hx));obtain⟨z1,z2⟩:=zEG c0 (λx hx=>⟨h1 x hx,hw x hx⟩) q;obtain⟨z3,z4⟩:=zEG c0 (λx hx=>⟨h2 x hx,w1 x hx⟩) (e1▸k0 z1);obtain⟨_,z6⟩:=zEG c0 (λx hx=>⟨h3 x hx,w2 x hx⟩) (e2▸k1 z3);have mp:∀{l:List (PS×Bool)},(∀q∈l,vD c q.1)->∀q∈l.map (·.1),vD c q:=λh q hq=>by
    refine zC (List.mem_map.mp hq) λx hx eq2=>?_;subst eq2;exact h x hx
   refine .no ?_ (mp z4) (mp z6);rw[List.map_append];exact uL (hK.use λp hp=>(h0 p hp).1) (mp z2)
theorem zHl (h:SIs c s0 s1 s2):SIs c (zq am t s0) (zq am t s1) (zq am t s2):=by
 have fl:∀{P:PS->Prop} {l:List PS},(∀q∈l,P q)->∀q∈zq am t l,P q:=λh q hq=>h q (List.mem_filter.mp hq).1;cases h with
 | no h0 h1 h2=>exact .no (fl h0) (fl h1) (fl h2)
 | has pre post e h0 h1 h2 h3=>
  subst e;refine .has (zq am t pre) (zq am t post) ?_ (fl h0) (fl h1) (fl h2) (fl h3);unfold zq;rw[List.filter_append];rw[List.filter_cons_of_pos (p:=λp=>!wP am t p) (a:=sltR c (c - 2)) (by rfl)]
end
def SIb (c:Int)(Bs:List PB):Prop:=∀C:Prop,(∀s0 s1 s2 f0 f1 f2,Bs=[⟨s0,f0,[1]⟩,⟨s1,f1,[1,2]⟩,⟨s2,f2,[]⟩]->SIs c s0 s1 s2->C)->C
theorem swS3:swS am t B=withSt B (zq am t B.steps):=zEI
theorem zJR (h:SIs c a b d):SIb c (zX (swS am t) (λ_=>true) 0 [⟨a,f0,[1]⟩,⟨b,f1,[1,2]⟩,⟨d,f2,[]⟩]):=λC k=>by
 refine k _ _ _ f0 f1 f2 ?_ (zHl (am:=am) (t:=t) h);show [swS _ _ _,swS _ _ _,swS _ _ _]=_;rw[swS3];rw[swS3];rw[swS3];rfl
theorem zHk {sl:Za}{v:Int}{Bs:List PB}{AH:List (Int×Nat)}{c:Int}(c0:0<=c)(g:Gd Bs)(t:Yk sl v Bs AH (w9 sl (zK pa0 (zR Bs)) AH Bs))(h:SIb c Bs):SIb c (w9 sl (zK pa0 (zR Bs)) AH Bs).1:=by
 apply h;intro s0 s1 s2 f0 f1 f2 e hs;have hk:=t.keys;have hf:=t.fix;generalize zK pa0 (zR Bs)=R at hf ⊢;subst e;have gs:=g.steps;have dr:∀B∈([⟨s0,f0,[1]⟩,⟨s1,f1,[1,2]⟩,⟨s2,f2,[]⟩]:List PB),∀p∈B.steps,DrS p:=λB hB p hp=>(gs B hB p hp).1.dr;have sc:∀B∈([⟨s0,f0,[1]⟩,⟨s1,f1,[1,2]⟩,⟨s2,f2,[]⟩]:List PB),∀p∈B.steps,zG p=false:=λB hB p hp=>zA7 (gs B hB p hp).1.dr (gs B hB p hp).2;have e1:(swF sl R.1 s1 (addA (zJ AH [1,2]) f1.args)).1=zV AH 1:=(jY (sc _ (.tail _ (.head _)))).trans (hf 1 () _ rfl);have e2:(swF sl R.1 s2 (addA (zJ AH []) f2.args)).1=zV AH 2:=(jY (sc _ (.tail _ (.tail _ (.head _))))).trans (hf 2 () _ rfl);have hs2:=zKO (sl:=sl) (am:=R.1) (m0:=addA (zJ AH [1]) f0.args) c0 hs (sc _ (.head _)) (sc _ (.tail _ (.head _))) (sc _ (.tail _ (.tail _ (.head _)))) e1 e2 (λq=>by
  have:=(jo c0 q).1;cases z:zD (zV AH 1) c with
  | false=>rfl
  | true=>rw[wE (jt (ways:=[1]) (.head _)) z] at this;cases this) (λq=>by
  have:=(jo c0 q).1;cases z:zD (zV AH 2) c with
  | false=>rfl
  | true=>rw[wE (jt (ways:=[1,2]) (.tail _ (.head _))) z] at this;cases this)
 have eB:zX (swB sl R.1 AH) (λi=>(lk AH i).isSome) 0 [⟨s0,f0,[1]⟩,⟨s1,f1,[1,2]⟩,⟨s2,f2,[]⟩]=[⟨(swF sl R.1 s0 (addA (zJ AH [1]) f0.args)).2.map (·.1),f0,[1]⟩,⟨(swF sl R.1 s1 (addA (zJ AH [1,2]) f1.args)).2.map (·.1),f1,[1,2]⟩,⟨(swF sl R.1 s2 (addA (zJ AH []) f2.args)).2.map (·.1),f2,[]⟩]:=by
  show [(if (lk AH 0).isSome=true then swB sl R.1 AH ⟨s0,f0,[1]⟩ else _),(if (lk AH (0+1)).isSome=true then swB sl R.1 AH ⟨s1,f1,[1,2]⟩ else _),(if (lk AH (0+1+1)).isSome=true then swB sl R.1 AH ⟨s2,f2,[]⟩ else _)]=_;rw[if_pos (hk 0 ())];rw[if_pos (show (lk AH (0+1)).isSome=true from hk 1 ())];rw[if_pos (show (lk AH (0+1+1)).isSome=true from hk 2 ())];rw[zBD (dr _ (.head _))];rw[zBD (dr _ (.tail _ (.head _)))];rw[zBD (dr _ (.tail _ (.tail _ (.head _))))];rfl
 unfold w9;rw[eB];unfold vy;by_cases em:R.1.isEmpty=true
 ·rw[if_pos em];exact λC k=>k _ _ _ _ _ _ rfl hs2
 ·rw[if_neg em];exact zJR hs2
end
section
noncomputable def useA (c:Int)(args:List Opd):Bool:=args.any λo=>zC5 o (true,c)
noncomputable def wG (c:Int)(ps:List PS):Nat:=List.rec (motive:=λ_=>Nat) 2 (λp _ ih=>if useA c p.args then 0 else if p.dst=c then 1 else ih) ps
noncomputable def wgo (Bs:List PB)(c:Int)(k:Nat):List (Int×Nat)->List Int->Bool:=
 Nat.rec (motive:=λ_=>List (Int×Nat)->List Int->Bool) (λ_ _=>false) (λ_ go W seen=>(W.getLast?).elim false λx=>(Bs[x.1.toNat]?).elim false λB=>
  if wG c (B.steps.drop x.2)=0 then true else if wG c (B.steps.drop x.2)=1 then go W.dropLast seen else if useA c B.fin.args then true
  else go (W.dropLast++(B.ways.filter λj=>!seen.contains j).map λj=>(j,0)) (seen++B.ways)) k
theorem zHc (ho:o∈args)(h1:o.1=true)(h2:o.2=c):useA c args=true:=List.any_eq_true.mpr ⟨o,ho,by unfold zC5;rw[h1];rw[h2];rw[beq_self_eq_true];rw[beq_self_eq_true];rfl⟩
theorem zCj (c0:0<=c)(k0:0<=k)(h:zD (setb m k) c=true):zD m c=true\/k=c:=by
 unfold zD setb at h;obtain⟨h1,h2⟩:=Bool.and_eq_true_iff.mp h;rw[Nat.testBit_or] at h2;rw[Nat.testBit_two_pow] at h2;rw[or_eq_true] at h2;rw[decide_eq_true_iff] at h2;unfold zD;rw[h1];rcases h2 with h2 | h2
 ·rw[h2];exact .inl rfl
 ·exact .inr (by rw[<-toNat_of_nonneg k0];rw[<-toNat_of_nonneg c0];rw[h2])
theorem yM {c:Int}(c0:0<=c){args:List Opd}:(∀o∈args,o.1=true->0<=o.2)->∀{m:Nat},zD (addA m args) c=true->zD m c=true\/useA c args=true:=by
 induction args with
 | nil=>exact λ_ _ h=>.inl h
 | cons o l ih=>
  intro h0 m h;rcases ih (zL h0) (m:=if o.1 then setb m o.2 else m) h with h | h
  ·by_cases q:o.1=true
   ·rw[if_pos q] at h;exact(zCj c0 (h0 o (.head _) q) h).imp id λz=>zHc (.head _) q z
   ·rw[if_neg q] at h;exact .inl h
  ·refine zC (List.any_eq_true.mp h) λx hx e=>?_;exact .inr (List.any_eq_true.mpr ⟨x,.tail _ hx,e⟩)
theorem zGt (hk:zD m k=true)(h:zD (clrb m k) c=true):zD m c=true/\k≠c:=by unfold zD at h ⊢;obtain⟨h1,h2⟩:=Bool.and_eq_true_iff.mp h;rw[yL hk] at h2;obtain⟨h3,h4⟩:=Bool.and_eq_true_iff.mp h2;refine⟨by rw[h1];rw[h3];rfl,λe=>?_⟩;rw[e] at h4;rw[decide_eq_true rfl] at h4;cases h4
section
variable {sl:Za}{am:Zc}{c:Int}
def Pos0 (args:List Opd):Prop:=∀o∈args,o.1=true->0<=o.2
theorem yb (c0:0<=c):∀{ps:List PS},(∀q∈ps,Pos0 q.args/\zG q=false)->zD (swF sl am ps m).1 c=true->wG c ps=0\/(wG c ps=2/\zD m c=true):=λ{ps}=>by
 induction ps with
 | nil=>exact λ_ h=>.inr ⟨rfl,h⟩
 | cons p ps ih=>
  intro hp h;obtain⟨h0,hs⟩:=hp p (.head _);have ih:=@ih (zL hp);have e0:swF sl am (p::ps) m=zI sl am (swF sl am ps m) p:=rfl;have eS:wG c (p::ps)=if useA c p.args then 0 else if p.dst=c then 1 else wG c ps:=rfl
  rw[e0] at h;rw[vv hs] at h;rw[eS];by_cases u:useA c p.args=true
  ·rw[if_pos u];exact .inl rfl
  ·rw[if_neg u];have key:zD (swF sl am ps m).1 c=true/\p.dst≠c:=by
    unfold needStep at h;by_cases c1:zD (swF sl am ps m).1 p.dst=true
    ·rw[if_pos c1] at h;exact zGt c1 ((yM c0 h0 h).resolve_right u)
    ·rw[if_neg c1] at h;have q:zD (swF sl am ps m).1 c=true:=by
      by_cases f:z8 sl am p=true
      ·rw[if_pos f] at h;exact h
      ·rw[if_neg f] at h;exact(yM c0 h0 h).resolve_right u
     exact⟨q,λe=>c1 (e▸q)⟩
   rw[if_neg key.2];exact ih key.1
theorem yH (h:zD (zJ AH ways) c=true):∃j∈ways,zD (zV AH j) c=true:=by
 unfold zJ at h;have key:∀(l:List Int) (m:Nat),zD (l.foldl (λm j=>m ||| zV AH j) m) c=true->zD m c=true\/∃j∈l,zD (zV AH j) c=true:=λl=>by
  induction l with
  | nil=>exact λm h=>.inl h
  | cons a l ih=>
   intro m h;rcases ih _ h with h | ⟨j,hj,h⟩
   ·unfold zD at h;rw[Nat.testBit_or] at h;rw[Bool.and_or_distrib_left] at h;rw[or_eq_true] at h;exact h.imp id λq=>⟨a,.head _,q⟩
   ·exact .inr ⟨j,.tail _ hj,h⟩
 exact(key ways 0 h).resolve_left λq=>by
  unfold zD at q;rw[Nat.zero_testBit] at q;rw[Bool.and_false] at q;cases q
theorem zGY {Bs:List PB}{L:List (List Int)}{P:Int->Prop}(hP:∀i B (AH:List (Int×Nat)),Bs[i.toNat]?=some B->(∀j,zD (zV AH j) c=true->P j)->zD (needP sl am B.steps B.fin.args (zJ AH B.ways)) c=true->P i) :
  ∀(k:Nat) {W:List Int} {a:Nat} {AH:List (Int×Nat)} {IW:List (Int×Bool)} {AH':List (Int×Nat)},naGo sl am Bs L k W a AH IW=some AH'->(∀j,zD (zV AH j) c=true->P j)->∀j,zD (zV AH' j) c=true->P j:=λk=>by
 induction k with
 | zero=>exact λh=>nomatch h
 | succ k ih=>
  intro W a AH IW AH' h hA;cases e:W[a]? with
  | none=>rw[zBX e] at h;cases Option.some.inj h;exact hA
  | some i=>
   cases hB:Bs[i.toNat]? with
   | none=>
    have h:(match W[a]? with | none=>some AH | some i=>match Bs[i.toNat]? with | none=>none | some B=>_)=some AH':=h;rw[e] at h;have h:(match Bs[i.toNat]? with | none=>none | some B=>_)=some AH':=h;rw[hB] at h;cases h
   | some B=>
    rw[zBW e hB] at h;by_cases q:Nat.beq (needP sl am B.steps B.fin.args (zJ AH B.ways)) (zV AH i)=true
    ·rw[if_pos q] at h;exact ih h hA
    ·rw[if_neg q] at h;refine ih h λj hj=>?_;rw[wx] at hj;by_cases z:j=i
     ·rw[if_pos z] at hj;exact z▸hP i B AH hB hA hj
     ·rw[if_neg z] at hj;exact hA j hj
end
section
variable {Bs:List PB}{c i:Int}{pl k:Nat}{W:List (Int×Nat)}{seen:List Int}{B:PB}
theorem jU (hB:Bs[i.toNat]?=some B):wgo Bs c (k+1) (W++[(i,pl)]) seen=if wG c (B.steps.drop pl)=0 then true else if wG c (B.steps.drop pl)=1 then wgo Bs c k W seen else if useA c B.fin.args then true
  else wgo Bs c k (W++(B.ways.filter λj=>!seen.contains j).map λj=>(j,0)) (seen++B.ways):=by show (((W++[(i,pl)]).getLast?).elim false λx=>(Bs[x.1.toNat]?).elim false λB=>_)=_;rw[List.getLast?_append];rw[List.dropLast_concat];show (Bs[i.toNat]?).elim false _=_;rw[hB];rfl
theorem jp (hB:Bs[i.toNat]?=some B)(h:wG c (B.steps.drop pl)=0):wgo Bs c (k+1) (W++[(i,pl)]) seen=true:=by rw[jU hB];rw[if_pos h]
theorem ug (hB:Bs[i.toNat]?=some B)(h:wG c (B.steps.drop pl)=2)(e:useA c B.fin.args=true):wgo Bs c (k+1) (W++[(i,pl)]) seen=true:=by rw[jU hB];rw[if_neg (by rw[h];decide)];rw[if_neg (by rw[h];decide)];rw[if_pos e]
theorem zDy (hB:Bs[i.toNat]?=some B)(h:wG c (B.steps.drop pl)=2)(e:¬useA c B.fin.args=true)(r:wgo Bs c k (W++(B.ways.filter λj=>!seen.contains j).map λj=>(j,0)) (seen++B.ways)=true):wgo Bs c (k+1) (W++[(i,pl)]) seen=true:=by rw[jU hB];rw[if_neg (by rw[h];decide)];rw[if_neg (by rw[h];decide)];rw[if_neg e];exact r
end
def U2 (c:Int)(s2:List PS)(f2:PS):Prop:=wG c s2=0\/(wG c s2=2/\useA c f2.args=true)
def U1 (c:Int)(s1 s2:List PS)(f1 f2:PS):Prop:=wG c s1=0\/(wG c s1=2/\(useA c f1.args=true\/U2 c s2 f2))
section
variable {s0 s1 s2:List PS}{f0 f1 f2:PS}{c:Int}{k pl:Nat}{W:List (Int×Nat)}{seen:List Int}
noncomputable abbrev b3 (s0 s1 s2:List PS)(f0 f1 f2:PS):List PB:=[⟨s0,f0,[1]⟩,⟨s1,f1,[1,2]⟩,⟨s2,f2,[]⟩]
theorem zHK (h:U2 c s2 f2):wgo (b3 s0 s1 s2 f0 f1 f2) c (k+1) (W++[(2,0)]) seen=true:=by
 rcases h with h | ⟨h,e⟩
 ·exact jp (i:=2) rfl h
 ·exact ug (i:=2) rfl h e
theorem zH9 (h:¬U2 c s2 f2):wgo (b3 s0 s1 s2 f0 f1 f2) c (k+1) (W++[(2,0)]) seen=wgo (b3 s0 s1 s2 f0 f1 f2) c k W seen:=by
 rw[jU (i:=2) (pl:=0) (Bs:=b3 s0 s1 s2 f0 f1 f2) rfl];show (if wG c s2=0 then true else if wG c s2=1 then _ else if useA c f2.args then true else wgo _ c k (W++[]) (seen++[]))=_;rw[if_neg λq=>h (.inl q)];by_cases q:wG c s2=1
 ·rw[if_pos q]
 ·have q2:wG c s2=2:=by
   have q0:wG c s2≠0:=λz=>h (.inl z);have key:∀ps:List PS,wG c ps=0\/wG c ps=1\/wG c ps=2:=λps=>by
    induction ps with
    | nil=>exact .inr (.inr rfl)
    | cons p ps ih=>
     show (if useA c p.args=true then 0 else if p.dst=c then 1 else wG c ps)=0\/(if useA c p.args=true then 0 else if p.dst=c then 1 else wG c ps)=1\/(if useA c p.args=true then 0 else if p.dst=c then 1 else wG c ps)=2;by_cases u:useA c p.args=true
     ·rw[if_pos u];exact .inl rfl
     ·rw[if_neg u];by_cases d:p.dst=c
      ·rw[if_pos d];exact .inr (.inl rfl)
      ·rw[if_neg d];exact ih
   exact((key s2).resolve_left q0).resolve_left q
  rw[if_neg q];rw[if_neg λe=>h (.inr ⟨q2,e⟩)];rw[append_nil];rw[append_nil]
theorem zJF {sl:Za}{am:Zc}{AH:List (Int×Nat)}{IW:List (Int×Bool)}{L:List (List Int)}{W0:List Int}{n:Nat}{A0:List (Int×Nat)}(c0:0<=c)(hp:∀q∈s0++s1++s2,Pos0 q.args/\zG q=false)(he:∀f∈[f0,f1,f2],Pos0 f.args)(hgo:naGo sl am (b3 s0 s1 s2 f0 f1 f2) L n W0 0 A0 IW=some AH)(hA0:∀j,zV A0 j=0)
  {i:Int} {B:PB} (hi:i=0\/i=1\/i=2) (hB:(b3 s0 s1 s2 f0 f1 f2)[i.toNat]?=some B) (h:zD (swF sl am (B.steps.drop pl) (addA (zJ AH B.ways) B.fin.args)).1 c=true):wgo (b3 s0 s1 s2 f0 f1 f2) c 5 [(i,pl)] []=true:=by
 have p0:∀q∈s0,Pos0 q.args/\zG q=false:=λq hq=>hp q (mem_append_left _ (mem_append_left _ hq));have p1:∀q∈s1,Pos0 q.args/\zG q=false:=λq hq=>hp q (mem_append_left _ (mem_append_right _ hq));have p2:∀q∈s2,Pos0 q.args/\zG q=false:=λq hq=>hp q (mem_append_right _ hq);have e0:=he f0 (.head _);have e1:=he f1 (.tail _ (.head _));have e2:=he f2 (.tail _ (.tail _ (.head _)));have big:∀j,zD (zV AH j) c=true->(j=1->U1 c s1 s2 f1 f2)/\(j=2->U2 c s2 f2):=zGY (sl:=sl) (am:=am) (P:=λj=>(j=1->U1 c s1 s2 f1 f2)/\(j=2->U2 c s2 f2)) (λj B A hB hA hm=>by
   refine⟨λz=>?_,λz=>?_⟩
   ·subst z;cases Option.some.inj hB;rw[<-jY λq hq=>(p1 q hq).2] at hm;refine(yb c0 p1 hm).imp id λ⟨q1,q2⟩=>⟨q1,?_⟩
    rcases yM c0 e1 q2 with q2 | q2
    ·refine zC (yH q2) λj hj q=>?_;have hj:j∈[(1:Int),2]:=hj;rcases List.mem_cons.mp hj with rfl | hj
     ·by_cases u:useA c f1.args=true
      ·exact .inl u
      ·exact .inr (((hA 1 q).1 rfl).elim (λz=>by rw[q1] at z;cases z) λz=>z.2.resolve_left u)
     ·rw[mem_singleton] at hj;subst hj;exact .inr ((hA 2 q).2 rfl)
    ·exact .inl q2
   ·subst z;cases Option.some.inj hB;rw[<-jY λq hq=>(p2 q hq).2] at hm;refine(yb c0 p2 hm).imp id λ⟨q1,q2⟩=>⟨q1,?_⟩
    rcases yM c0 e2 q2 with q2 | q2
    ·refine zC (yH q2) λj hj _=>?_;cases hj
    ·exact q2) n hgo λj hj=>by rw[hA0] at hj;unfold zD at hj;rw[Nat.zero_testBit] at hj;rw[Bool.and_false] at hj;cases hj
 have dp:∀{s:List PS},(∀q∈s,Pos0 q.args/\zG q=false)->∀q∈s.drop pl,Pos0 q.args/\zG q=false:=λh q hq=>h q (List.mem_of_mem_drop hq);rcases hi with rfl | rfl | rfl
 ·cases Option.some.inj hB;rcases yb c0 (dp p0) h with q1 | ⟨q1,q2⟩
  ·exact jp (W:=[]) (i:=0) rfl q1
  ·by_cases u:useA c f0.args=true
   ·exact ug (W:=[]) (i:=0) rfl q1 u
   ·refine zC (yH ((yM c0 e0 q2).resolve_right u)) λj hj q=>?_;have hj:j∈[(1:Int)]:=hj;rw[mem_singleton] at hj;subst hj;refine zDy (W:=[]) (i:=0) rfl q1 u ?_;show wgo _ c 4 ([]++[(1,0)]) [1]=true;rcases(big 1 q).1 rfl with z | ⟨z,z2⟩
    ·exact jp (i:=1) rfl z
    ·by_cases u1:useA c f1.args=true
     ·exact ug (i:=1) rfl z u1
     ·exact zDy (i:=1) rfl z u1 (zHK (W:=[]) (z2.resolve_left u1))
 ·cases Option.some.inj hB;rcases yb c0 (dp p1) h with q1 | ⟨q1,q2⟩
  ·exact jp (W:=[]) (i:=1) rfl q1
  ·by_cases u:useA c f1.args=true
   ·exact ug (W:=[]) (i:=1) rfl q1 u
   ·refine zC (yH ((yM c0 e1 q2).resolve_right u)) λj hj q=>?_;have hj:j∈[(1:Int),2]:=hj;refine zDy (W:=[]) (i:=1) rfl q1 u ?_;show wgo _ c 4 ([(1,0)]++[(2,0)]) [1,2]=true;by_cases t:U2 c s2 f2
    ·exact zHK t
    ·rw[zH9 t];rcases List.mem_cons.mp hj with rfl | hj
     ·rcases(big 1 q).1 rfl with z | ⟨z,z2⟩
      ·exact jp (W:=[]) (i:=1) rfl z
      ·exact absurd (z2.resolve_left u) t
     ·rw[mem_singleton] at hj;subst hj;exact absurd ((big 2 q).2 rfl) t
 ·cases Option.some.inj hB;rcases yb c0 (dp p2) h with q1 | ⟨q1,q2⟩
  ·exact jp (W:=[]) (i:=2) rfl q1
  ·rcases yM c0 e2 q2 with q2 | q2
   ·refine zC (yH q2) λj hj _=>?_;cases hj
   ·exact ug (W:=[]) (i:=2) rfl q1 q2
end
end
section
abbrev Cs:=List Int×List Int
noncomputable def uZ (o:Opd):Bool:=o.1&&(decide (2<=o.2)&&decide (o.2<=4))
noncomputable def zw (sl:Za)(p:PS)(i:Nat)(S:Cs)(o:Opd):Cs:=if uZ o then(if zN sl p i (o.2 - 2) then(S.1++[o.2],S.2) else(S.1,S.2++[o.2])) else S
noncomputable def jC (sl:Za)(p:PS)(l:List Opd):Nat->Cs->Cs:=List.rec (motive:=λ_=>Nat->Cs->Cs) (λ_ S=>S) (λo _ r i S=>r (i+1) (zw sl p i S o)) l
noncomputable def jl (sl:Za)(S:Cs)(p:PS):Cs:=jC sl p p.args 0 S
noncomputable def cells (sl:Za)(Bs:List PB):Cs:=Bs.foldl (λS B=>B.steps.foldl (jl sl) S) ([],[])
noncomputable def zJJ (S:Cs):Bool:=S.1.all λc=>S.2.any λd=>d == c
section
variable {sl:Za}{p:PS}{c:Int}
inductive CSrc (sl:Za)(c:Int)(b:Bool)(p:PS):Prop where
 | mk (k:Nat) (o:Opd) (h:p.args[k]?=some o) (h1:uZ o=true) (h2:o.2=c) (h3:zN sl p k (c - 2)=b)
theorem zDq:∀{i:Nat} {S:Cs},c∈(jC sl p l i S).1->c∈S.1\/∃k o,l[k]?=some o/\uZ o=true/\o.2=c/\zN sl p (i+k) (c - 2)=true:=by
 induction l with
 | nil=>exact λh=>.inl h
 | cons o l ih=>
  intro i S h;rcases ih (i:=i+1) (S:=zw sl p i S o) h with h | ⟨k,o',h1,h2,h3,h4⟩
  ·unfold zw at h;by_cases q:uZ o=true
   ·rw[if_pos q] at h;by_cases z:zN sl p i (o.2 - 2)=true
    ·rw[if_pos z] at h;rcases List.mem_append.mp h with h | h
     ·exact .inl h
     ·have h:=List.mem_singleton.mp h;exact .inr ⟨0,o,rfl,q,h.symm,h▸z⟩
    ·rw[if_neg z] at h;exact .inl h
   ·rw[if_neg q] at h;exact .inl h
  ·exact .inr ⟨k+1,o',h1,h2,h3,by rw[add_right_comm] at h4;exact h4⟩
theorem zC9:∀x∈S.2,x∈(zw sl p i S o).2:=λx h=>by
 unfold zw;by_cases q:uZ o=true
 ·rw[if_pos q];by_cases z:zN sl p i (o.2 - 2)=true
  ·rw[if_pos z];exact h
  ·rw[if_neg z];exact mem_append_left _ h
 ·rw[if_neg q];exact h
theorem vQ:∀{i:Nat} {S:Cs},∀x∈S.2,x∈(jC sl p l i S).2:=by
 induction l with
 | nil=>exact λ_ h=>h
 | cons o l ih=>exact λx h=>ih x (zC9 x h)
theorem zDp:∀{i k:Nat} {S:Cs} {o:Opd},l[k]?=some o->uZ o=true->zN sl p (i+k) (o.2 - 2)=false->o.2∈(jC sl p l i S).2:=by
 induction l with
 | nil=>exact λh=>nomatch h
 | cons a l ih=>
  intro i k S o h h1 h2;cases k with
  | zero=>
   cases Option.some.inj h;refine vQ (l:=l) (i:=i+1) _ ?_;unfold zw;rw[if_pos h1];rw[if_neg (by rw[show i=i+0 from rfl,h2];decide)];exact mem_append_right _ (.head _)
  | succ k=>exact ih (i:=i+1) (S:=zw sl p i S a) h h1 (by rw[add_right_comm];exact h2)
theorem zIz (h:c∈(jl sl S p).1):c∈S.1\/CSrc sl c true p:=(zDq h).imp id λ⟨k,o,h1,h2,h3,h4⟩=>⟨k,o,h1,h2,h3,by rw[zero_add] at h4;exact h4⟩
theorem zIy (h:CSrc sl c false p):c∈(jl sl S p).2:=by obtain⟨k,o,h,h1,rfl,h3⟩:=h;exact zDp (i:=0) h h1 (by rw[zero_add];exact h3)
theorem zIx {Bs:List PB}{S:Cs}:c∈(Bs.foldl (λS B=>B.steps.foldl (jl sl) S) S).1->c∈S.1\/∃p∈zR Bs,CSrc sl c true p:=by
 have key:∀(ps:List PS) (S:Cs),c∈(ps.foldl (jl sl) S).1->c∈S.1\/∃p∈ps,CSrc sl c true p:=λps=>by
  induction ps with
  | nil=>exact λS h=>.inl h
  | cons p ps ih=>
   intro S h;rcases ih _ h with h | ⟨q,hq,h⟩
   ·exact(zIz h).imp id λz=>⟨p,.head _,z⟩
   ·exact .inr ⟨q,.tail _ hq,h⟩
 induction Bs generalizing S with
 | nil=>exact λh=>.inl h
 | cons B Bs ih=>
  intro h;rw[wj];rcases ih h with h | ⟨q,hq,h⟩
  ·exact(key _ _ h).imp id λ⟨q,hq,z⟩=>⟨q,mem_append_left _ hq,z⟩
  ·exact .inr ⟨q,mem_append_right _ hq,h⟩
theorem zIw {Bs:List PB}{S:Cs}:(c∈S.2\/∃p∈zR Bs,CSrc sl c false p)->c∈(Bs.foldl (λS B=>B.steps.foldl (jl sl) S) S).2:=by
 have key:∀(ps:List PS) (S:Cs),(c∈S.2\/∃p∈ps,CSrc sl c false p)->c∈(ps.foldl (jl sl) S).2:=λps=>by
  induction ps with
  | nil=>exact λS h=>h.elim id λ⟨_,h,_⟩=>nomatch h
  | cons p ps ih=>
   intro S h;refine ih _ ?_;rcases h with h | ⟨q,hq,z⟩
   ·exact .inl (vQ _ h)
   ·rcases List.mem_cons.mp hq with rfl | hq
    ·exact .inl (zIy z)
    ·exact .inr ⟨q,hq,z⟩
 induction Bs generalizing S with
 | nil=>exact λh=>h.elim id λ⟨_,h,_⟩=>nomatch h
 | cons B Bs ih=>
  intro h;rw[wj] at h;refine ih ?_;rcases h with h | ⟨q,hq,z⟩
  ·exact .inl (key _ _ (.inl h))
  ·rcases List.mem_append.mp hq with hq | hq
   ·exact .inl (key _ _ (.inr ⟨q,hq,z⟩))
   ·exact .inr ⟨q,hq,z⟩
end
section
variable {sl:Za}{am:Zc}{s:Int}
theorem zG2 (h:zD m k=true):0<=k:=of_decide_eq_true (Bool.and_eq_true_iff.mp h).1
inductive TSrc (sl:Za)(am:Zc)(s:Int)(p:PS):Prop where
 | mk (i:Nat) (o:Opd) (h:p.args[i]?=some o) (h1:o.1=true) (h2:lk am o.2=some s) (h3:zN sl p i s=false)
theorem zAS (hpos:∀k s,lk am k=some s->0<=s):∀{i t:Nat},zD (z9 sl am p i args t) s=true->zD t s=true\/∃k o,args[k]?=some o/\o.1=true/\lk am o.2=some s/\zN sl p (i+k) s=false:=by
 induction args with
 | nil=>exact λh=>.inl h
 | cons o l ih=>
  intro i t h;rcases ih (i:=i+1) (t:=zu sl am p i o t) h with h | ⟨k,o',h1,h2,h3,h4⟩
  ·have h0:=zG2 h;unfold zu at h;by_cases q:o.1=true
   ·rw[if_pos q] at h;cases e:lk am o.2 with
    | none=>rw[e] at h;exact .inl h
    | some x=>
     rw[e] at h;have h:zD (if zN sl p i x=true then t else setb t x) s=true:=h;by_cases z:zN sl p i x=true
     ·rw[if_pos z] at h;exact .inl h
     ·rw[if_neg z] at h;refine(zCj h0 (hpos _ _ e) h).imp id λ(z2:x=s)=>⟨0,o,rfl,q,z2▸e,?_⟩
      rw[<-z2];exact Bool.eq_false_iff.mpr z
   ·rw[if_neg q] at h;exact .inl h
  ·exact .inr ⟨k+1,o',h1,h2,h3,by rw[add_right_comm] at h4;exact h4⟩
theorem zEB (hpos:∀k s,lk am k=some s->0<=s):∀{Bs:List PB} {t:Nat},(∀B∈Bs,∀o∈B.fin.args,o.1=true->lk am o.2=none)->zD (zd sl am Bs t) s=true->zD t s=true\/∃p∈zR Bs,TSrc sl am s p:=λ{Bs}=>by
 have key:∀(ps:List PS) (t:Nat),zD (ps.foldl (zl sl am) t) s=true->zD t s=true\/∃p∈ps,TSrc sl am s p:=λps=>by
  induction ps with
  | nil=>exact λt h=>.inl h
  | cons p ps ih=>
   intro t h;rcases ih _ h with h | ⟨q,hq,z⟩
   ·exact(zAS hpos h).imp id λ⟨k,o,h1,h2,h3,h4⟩=>⟨p,.head _,k,o,h1,h2,h3,by rw[zero_add] at h4;exact h4⟩
   ·exact .inr ⟨q,.tail _ hq,z⟩
 have ends:∀(l:List Opd) (t:Nat),(∀o∈l,o.1=true->lk am o.2=none)->l.foldl (zW am) t=t:=λl=>by
  induction l with
  | nil=>exact λ_ _=>rfl
  | cons o l ih=>
   intro t h;rw[foldl_cons,show zW am t o=t from ?_]
   ·exact ih t (zL h)
   ·unfold zW;by_cases q:o.1=true
    ·rw[if_pos q];rw[h o (.head _) q]
    ·rw[if_neg q]
 induction Bs with
 | nil=>exact λ_ h=>.inl h
 | cons B Bs ih=>
  intro t he h;rw[wj];have h:zD (zd sl am Bs (B.fin.args.foldl (zW am) (B.steps.foldl (zl sl am) t))) s=true:=h;rw[ends _ _ (he B (.head _))] at h;rcases ih (zL he) h with h | ⟨q,hq,z⟩
  ·exact(key _ _ h).imp id λ⟨q,hq,z⟩=>⟨q,mem_append_left _ hq,z⟩
  ·exact .inr ⟨q,mem_append_right _ hq,z⟩
theorem zF5:∀{ps:List PS},(∀p∈ps,DrS p)->Nat.blt (swF sl am ps m).2.length ps.length=false->(swF sl am ps m).2.any (·.2)=false->∀{pl:Nat} {p:PS},ps[pl]?=some p->p.op=4->0<=p.dst->zD (swF sl am (ps.drop (pl+1)) m).1 p.dst=true:=λ{ps}=>by
 induction ps with
 | nil=>exact λ_ _ _ _ _ h=>nomatch h
 | cons p ps ih=>
  intro hd hl hf pl q hq h4 h0;have ih:=@ih (zL hd);have le:=(zAU (sl:=sl) (am:=am) (m:=m) (zL hd)).len;have e0:swF sl am (p::ps) m=zI sl am (swF sl am ps m) p:=rfl;rw[e0] at hl hf;have drop:¬(Nat.blt (swF sl am ps m).2.length (p::ps).length=false):=λz=>by
   rw[show Nat.blt (swF sl am ps m).2.length (p::ps).length=true from Nat.ble_eq_true_of_le (succ_le_succ le)] at z;cases z
  have keep:Nat.blt ((swF sl am ps m).2.length+1) (ps.length+1)=false->Nat.blt (swF sl am ps m).2.length ps.length=false:=λz=>z;show zD (swF sl am (ps.drop pl) m).1 q.dst=true;have zero:pl=0->zD (swF sl am ps m).1 p.dst=true->zD (swF sl am (ps.drop pl) m).1 q.dst=true:=λe h=>by
   subst e;cases Option.some.inj hq;exact h
  have succ:Nat.blt (swF sl am ps m).2.length ps.length=false->(swF sl am ps m).2.any (·.2)=false->(pl=0->zD (swF sl am ps m).1 p.dst=true)->zD (swF sl am (ps.drop pl) m).1 q.dst=true:=λz1 z2 z3=>by
   cases pl with
   | zero=>exact zero rfl (z3 rfl)
   | succ pl=>exact ih z1 z2 hq h4 h0
  unfold zI at hl hf;by_cases c1:zD (swF sl am ps m).1 p.dst=true
  ·rw[if_pos c1] at hl hf;by_cases s:zG p=true
   ·rw[if_pos s] at hl;exact absurd hl drop
   ·rw[if_neg s] at hl hf;exact succ (keep hl) hf λ_=>c1
  ·rw[if_neg c1] at hl hf;by_cases f:z8 sl am p=true
   ·rw[if_pos f] at hl;exact absurd hl drop
   ·rw[if_neg f] at hl hf;by_cases z:(decide (p.dst >= 0)&&wT p.op)=true
    ·rw[if_pos z] at hf;cases hf
    ·rw[if_neg z] at hl hf;refine succ (keep hl) hf λe=>absurd ?_ z;subst e;cases Option.some.inj hq;rw[decide_eq_true h0];rw[h4];rfl
end
end
section
theorem zAv (r:Int)(l k:List PS):cntD r (l++k)=cntD r l+cntD r k:=by unfold cntD;rw[List.filter_append];rw[length_append]
theorem jh (h:∀q∈l,q.dst≠r):cntD r l=0:=by unfold cntD;rw[List.length_eq_zero_iff];rw[List.filter_eq_nil_iff];exact λq hq e=>h q hq (of_decide_eq_true e)
theorem zHZ:∀{Bs:List PB} {i:Int},zf c p i Bs=false->∀(k:Nat) B,Bs[k]?=some B->p (i+k)=true->c B=false:=λ{Bs}=>by
 induction Bs with
 | nil=>exact λ_ _ _ h=>nomatch h
 | cons A Bs ih=>
  intro i h k B hB hp;have h:(p i&&c A||zf c p (i+1) Bs)=false:=h;rw[or_eq_false_iff] at h;cases k with
  | zero=>
   cases Option.some.inj hB;rw[Int.natCast_zero] at hp;rw[add_zero] at hp;rw[hp] at h;rw[Bool.true_and] at h;exact h.1
  | succ k=>exact ih h.2 k B hB (by rw[Int.natCast_add] at hp;rw[Int.add_comm (k:Int)] at hp;rw[<-Int.add_assoc] at hp;exact hp)
structure Y0 (sl:Za)(Bs:List PB)(R:Zc×Nat)(AH:List (Int×Nat)):Prop where
 a:∀(k:Nat) B,Bs[k]?=some B->(lk AH (k:Int)).isSome=true->chgB (zx sl R.1 AH B) B=false
 b:R.1.isEmpty=false->∀p∈zR Bs,wP R.1 (zd sl R.1 Bs R.2) p=false
theorem zJz (h:chS am t B=false):∀p∈B.steps,wP am t p=false:=λp hp=>by
 have h1:¬(zq am t B.steps).length<B.steps.length:=λz=>by
  rw[show chS am t B=true from Nat.ble_eq_true_of_le z] at h;cases h
 have h2:zq am t B.steps=B.steps:=List.filter_sublist.eq_of_length (le_antisymm (length_filter_le ..) (le_of_not_lt h1));have h3:=(List.mem_filter.mp (show p∈B.steps.filter λp=>!wP am t p from by rw[show B.steps.filter (λp=>!wP am t p)=B.steps from h2];exact hp)).2;rw[not_eq_true'] at h3;exact h3
theorem zKM {sl:Za}{Bs:List PB}{R:Zc×Nat}{AH:List (Int×Nat)}(hd:∀B∈Bs,∀p∈B.steps,DrS p)(h:(w9 sl R AH Bs).2=false):Y0 sl Bs R AH:=by
 have sw:=zEF (F:=swB sl R.1 AH) (c:=λB=>chgB (zx sl R.1 AH B) B) (p:=λi=>(lk AH i).isSome) (i:=0) λB hB=>zJK (hd B hB);unfold w9 vy at h;have c1:zf (λB=>chgB (zx sl R.1 AH B) B) (λi=>(lk AH i).isSome) 0 Bs=false:=by
  by_cases em:R.1.isEmpty=true
  ·rw[if_pos em] at h;exact h
  ·rw[if_neg em] at h;exact(Bool.or_eq_false_iff.mp h).1
 refine⟨λk B hB hk=>zHZ c1 k B hB (by rw[Int.zero_add];exact hk),λem p hp=>?_⟩;rw[if_neg (by rw[em];decide)] at h;have h2:=(Bool.or_eq_false_iff.mp h).2;rw[sw.same c1] at h2;refine zC (u9 hp) λB hB hp=>?_;obtain⟨k,hk⟩:=List.getElem?_of_mem hB;exact zJz (zHZ h2 k B hk rfl) p hp
structure Z9 (sl:Za)(Bs:List PB):Prop where
 w:∀(i:Nat) B (pl:Nat) p,Bs[i]?=some B->B.steps[pl]?=some p->p.op=4->0<=p.dst->wgo Bs p.dst 5 [((i:Int),pl+1)] []=true
 c:zJJ (cells sl Bs)=true
def NoSl (Bs:List PB):Prop:=∀B∈Bs,∀o∈B.fin.args,o.1=true->5<=o.2
def SIa (Bs:List PB):Prop:=∀c,2<=c->c<=4->SIb c Bs
theorem zFp {sl:Za}(sok:SlOK sl){v:Int}{Bs:List PB}{AH:List (Int×Nat)}(g:Gd Bs)(si:SIa Bs)(ne:NoSl Bs)(t:Yk sl v Bs AH (w9 sl (zK pa0 (zR Bs)) AH Bs))(h:(w9 sl (zK pa0 (zR Bs)) AH Bs).2=false):Z9 sl Bs:=by
 have hd:∀p∈zR Bs,DrS p:=λp hp=>by refine zC (u9 hp) λB hB hp=>?_;exact(g.steps B hB p hp).1.dr
 have st:=zKM (λB hB p hp=>(g.steps B hB p hp).1.dr) h;have rr:=zAD (sl:=sl) (pa:=pa0) (ss:=zR Bs) λp hp=>zCA sok.len (hd p hp);have alt:=zKD hd rr;have go:=t.go;have keys:=t.keys;have fix:=t.fix;generalize zK pa0 (zR Bs)=R at st rr alt go fix;clear h t;refine⟨λi B pl p hB hp h4 h0=>?_,List.all_eq_true.mpr λc hc=>?_⟩
 ·have hshape:=zHN g.shape;have gs:=g.steps;have gb:=g.ok.blks;cases hshape with | mk s0 s1 s2 f0 f1 f2=>
  have i3:i<3:=(List.getElem?_eq_some_iff.mp hB).1;have iW:(i:Int)∈W0:=by
   rcases lt3 i i3 with rfl | rfl | rfl<;>decide
  have a1:=st.a i B hB (keys _ iW);unfold chgB at a1;obtain⟨a2,a3⟩:=Bool.or_eq_false_iff.mp a1;have eS:zx sl R.1 AH B=(swF sl R.1 B.steps (addA (zJ AH B.ways) B.fin.args)).2:=by unfold zx;rw[yv]
  rw[eS] at a2 a3;have hBm:=mem_of_getElem? hB;have need:=zF5 (λp hp=>(gs B hBm p hp).1.dr) a2 a3 hp h4 h0;have wf:∀q∈s0++s1++s2,Pos0 q.args/\zG q=false:=λq hq=>by
   have:∃B∈b3 s0 s1 s2 f0 f1 f2,q∈B.steps:=by
    rcases List.mem_append.mp hq with hq | hq
    ·rcases List.mem_append.mp hq with hq | hq
     ·exact⟨_,.head _,hq⟩
     ·exact⟨_,.tail _ (.head _),hq⟩
    ·exact⟨_,.tail _ (.tail _ (.head _)),hq⟩
   refine zC this λB hB hq=>?_;obtain⟨d1,d2⟩:=gs B hB q hq;exact⟨λo ho _=>(d1.args o ho).1,zA7 d1.dr d2⟩
  have we:∀f∈[f0,f1,f2],Pos0 f.args:=zB (λo ho q=>((gb _ (.head _)).ends o ho q).1) (zB (λo ho q=>((gb _ (.tail _ (.head _))).ends o ho q).1) (zB (λo ho q=>((gb _ (.tail _ (.tail _ (.head _)))).ends o ho q).1) zH));refine zJF h0 wf we go (λj=>?_) (i:=(i:Int)) (by rcases lt3 i i3 with rfl | rfl | rfl;exact .inl rfl;exact .inr (.inl rfl);exact .inr (.inr rfl)) (by rw[toNat_natCast];exact hB) need;show (lk (W0.foldl (λl i=>Mine.Internal.st l i 0) []) j).getD 0=0;rw[lk0];by_cases q:j∈W0
  ·rw[if_pos q];rfl
  ·rw[if_neg q];rfl
 ·rcases zIx (S:=([],[])) hc with hc | ⟨p,hp,k,o,h1,h2,rfl,h3⟩
  ·cases hc
  refine vr (vA h3) λe1 eq1 e3 e4=>?_;subst eq1;obtain⟨o1,o2⟩:=Bool.and_eq_true_iff.mp h2;obtain⟨o3,o4⟩:=Bool.and_eq_true_iff.mp o2;have o3:=of_decide_eq_true o3;have o4:=of_decide_eq_true o4;have hom:=mem_of_getElem? h1;refine List.any_eq_true.mpr ⟨o.2,?_,beq_self_eq_true _⟩;apply si o.2 o3 o4;intro s0 s1 s2 f0 f1 f2 eB hs;have eA:zR Bs=s0++(s1++(s2++[])):=by rw[eB];rfl
  cases hs with
  | no z0 z1 z2=>
   rw[eA] at hp;rw[append_nil] at hp;exfalso;rcases List.mem_append.mp hp with hp | hp
   ·exact z0 p hp o hom ⟨o1,rfl⟩
   ·rcases List.mem_append.mp hp with hp | hp
    ·exact z1 p hp o hom ⟨o1,rfl⟩
    ·exact z2 p hp o hom ⟨o1,rfl⟩
  | has pre post e z0 z1 z2 z3=>
   have cn:cntD o.2 (zR Bs)=1:=by
    rw[eA];rw[e];rw[append_nil];rw[zAv];rw[zAv];rw[zAv];rw[jh λq hq=>(z0 q hq).2];rw[zBj];rw[jh z1];rw[jh z2];rw[jh z3];rw[if_pos rfl]
   have nt:zD R.2 (o.2 - 2)=false:=by
    cases m:zD R.2 (o.2 - 2) with
    | false=>rfl
    | true=>
     refine zC3 (rr.tk _ m) λq hq q1 q2 q3=>?_;have hdq:=hd q hq;have ed:q.dst=o.2:=by
      cases hdq with
      | ar z=>exact absurd q1 (zFb z rfl)
      | slot hs=>
       cases q2;rcases hs with ⟨z,_⟩ | ⟨_,z⟩
       ·exact z.trans (by lia)
       ·lia
      | cpy=>cases q1
      | con=>cases q1
      | load=>cases q1
      | store=>cases q1
      | call=>cases q1
      | name=>cases q1
     rw[ed] at q3;rcases q3 with q3 | q3
     ·have q3:o.2∈[(0:Int),1]:=q3;rcases List.mem_cons.mp q3 with z | z
      ·lia
      ·have:=List.mem_singleton.mp z;lia
     ·exact absurd cn q3
   have hsl:sltR o.2 (o.2 - 2)∈zR Bs:=by rw[eA];rw[e];exact mem_append_left _ (mem_append_right _ (.head _))
   have hlk:lk R.1 o.2=some (o.2 - 2):=(rr.slot _ hsl rfl _ rfl).resolve_right (by rw[nt];decide);have em:R.1.isEmpty=false:=by
    cases z:R.1 with
    | nil=>rw[z] at hlk;cases hlk
    | cons=>rfl
   have ns:=st.b em p hp;rw[zFC e1 h1 o1 hlk] at ns;rw[Bool.not_eq_false'] at ns;obtain⟨q,hq,i,o',q1,q2,q3,q4⟩:=(zEB (λk s h=>(rr.src k s h).1) (λB hB o ho h1=>by
    cases z:lk R.1 o.2 with
    | none=>rfl
    | some s=>have:=ne B hB o ho h1;have:=alt _ _ z;lia) ns).resolve_left (by rw[nt];decide)
   have eo:o'.2=o.2:=by have:=(alt _ _ q3).2;lia
   refine zIw (.inr ⟨q,hq,i,o',q1,?_,eo,q4⟩);unfold uZ;rw[q2,eo,o2];rfl
end
section
theorem zKW (h:OpR o)(q:o.1=true):0<=o.2/\o.2<32:=⟨h.1,lt_trans (h.2.1 q) ()⟩
theorem L18:(1:Nat)<=8:=()
theorem L28:(2:Nat)<=8:=()
theorem zJv (h:DrW p):Zl p:=by
 obtain⟨h,a⟩:=h;have r:=λo ho=>zKW (a o ho);cases h with
 | @ar op d x y h1=>
  have ne:∀k,isAr k=false->op≠k:=λk hk=>zFb h1 hk;exact⟨λ_=>le_refl 2,λe=>absurd e (ne 0 rfl),λe=>absurd e (ne 10 rfl),λe=>absurd e (ne 1 rfl),L28,r⟩
 | cpy=>exact⟨λe=>noB e,λe=>noN e rfl,λ_=>le_refl 1,λe=>noN e rfl,L18,r⟩
 | con=>exact⟨λe=>noB e,λe=>noN e rfl,λe=>noN e rfl,λe=>noN e rfl,L18,r⟩
 | load=>exact⟨λe=>noB e,λ_=>⟨le_refl 1,_,_,rfl⟩,λe=>noN e rfl,λe=>noN e rfl,L18,r⟩
 | store=>exact⟨λe=>noB e,λe=>noN e rfl,λe=>noN e rfl,λ_=>⟨le_succ 1,_,rfl⟩,L28,r⟩
 | call=>exact⟨λe=>noB e,λe=>noN e rfl,λe=>noN e rfl,λe=>noN e rfl,L28,r⟩
 | slot=>exact⟨λe=>noB e,λe=>noN e rfl,λe=>noN e rfl,λe=>noN e rfl,zero_le 8,r⟩
 | name=>exact⟨λe=>noB e,λe=>noN e rfl,λe=>noN e rfl,λe=>noN e rfl,zero_le 8,r⟩
noncomputable def zFz:Za:=[(1,1),(2,2),(4,4),(8,4)]
noncomputable def zBL (n0:Int)(i:Nat):Int×Int:=zFz.getD (Int.fmod (Int.fdiv n0 (4 ^ i)) 4).toNat (0,0)
noncomputable def zz (n0:Int):Za:=(List.range 4).map (zBL n0)
theorem zHj {i:Int}(h:0<=i/\i<4):(zFz.getD i.toNat (0,0)).1=8\/W124 (zFz.getD i.toNat (0,0)).1:=by
 rcases i4 h.1 h.2 with rfl | rfl | rfl | rfl
 ·exact .inr (.inl rfl)
 ·exact .inr (.inr (.inl rfl))
 ·exact .inr (.inr (.inr rfl))
 ·exact .inl rfl
theorem uq (n0:Int)(i:Nat):(zBL n0 i).1=8\/W124 (zBL n0 i).1:=zHj (fm ())
theorem zA4 (n0:Int):SlOK (zz n0):=⟨rfl,λq hq=>by
 refine zC (List.mem_map.mp hq) λi _ eq2=>?_;subst eq2;rcases uq n0 i with h | h
 ·lia
 ·have:=h.le;lia⟩
theorem zES (n0:Int):SlD (zz n0):=λi h0 h1=>by
 rcases i4 h0 h1 with rfl | rfl | rfl | rfl
 ·exact uq n0 0
 ·exact uq n0 1
 ·exact uq n0 2
 ·exact uq n0 3
structure NsOK (ns:List Int):Prop where
 lo:9<=ns.length
 hi:ns.length<=15
 ok:∀n∈ns,okN n
structure Yi (f:PS)(w:List Int):Prop where
 args:∀o∈f.args,o.1=true->5<=o.2/\o.2<11
 ways:w.length<=4/\∀j∈w,0<=j/\j.toNat<3
theorem zF6 {w:List Int}(h:∀p∈ps,DrW p)(hw:wtS ps<=900)(k:Yi f w):BOK 3 ⟨ps,f,w⟩:=by
 have key:∀ps:List PS,ps.length<=wtS ps:=λps=>by
  induction ps with
  | nil=>exact le_refl _
  | cons p ps ih=>rw[wc];rw[length_cons];rw[Nat.add_comm];exact add_le_add (uf p) ih
 exact⟨le_trans (key ps) hw,λp hp=>zJv (h p hp),λo ho q=>⟨Int.le_trans () (k.args o ho q).1,lt_trans (k.args o ho q).2 ()⟩,k.ways.1,k.ways.2⟩
structure Ys (sl:Za)(v:Int)(Bs:List PB):Prop where
 gd:Gd Bs
 run:∃o,runG sl Bs 8 0 (s00 v)=some o
 wt:wtB Bs<=33
 si:SIa Bs
 ne:NoSl Bs
theorem Sy.w (h:Sy p):DrW p/\p.dst≠1:=⟨h.dr,λe=>h.nd (by rw[e];decide)⟩
theorem Sy.no (h:Sy p){c:Int}(h2:2<=c)(h4:c<=4):p.dst≠c:=λe=>h.nd (by rw[e];lia)
theorem ne_c {k c:Int}(h:4<k)(h4:c<=4):k≠c:=λe=>absurd h4 (Int.not_le.mpr (e▸h))
theorem zGA {n2:Int}(ha:∀p∈a,Sy p)(h1:∀p∈s1,Sy p)(h2:∀p∈s2,Sy p):SIa [⟨zo n2++a,f0,[1]⟩,⟨s1,f1,[1,2]⟩,⟨s2,f2,[]⟩]:=λc c2 c4 C k=>by
 have hr:∀q∈zCJ n2,q.dst≠c:=zB (ne_c (k:=5) () c4) (zB (ne_c (k:=6) () c4) (zB (ne_c (k:=7) () c4) (zB (ne_c (k:=8) () c4) (zB (ne_c (k:=9) () c4) zH))));have rest:∀q∈zCJ n2++a,q.dst≠c:=uL hr λp hp=>(ha p hp).no c2 c4;have n1:∀p∈s1,p.dst≠c:=λp hp=>(h1 p hp).no c2 c4;have n2':∀p∈s2,p.dst≠c:=λp hp=>(h2 p hp).no c2 c4;have pre:∀{d s:Int},d≠c->vD c (sltR d s)/\(sltR d s).dst≠c:=λh=>⟨zH,h⟩
 refine k _ _ _ _ _ _ rfl ?_;rcases(by lia:c=2\/c=3\/c=4) with rfl | rfl | rfl
 ·exact .has [] (sltR 3 1::sltR 4 2::(zCJ n2++a)) rfl zH (zB () (zB () rest)) n1 n2'
 ·exact .has [sltR 2 0] (sltR 4 2::(zCJ n2++a)) rfl (all1 (pre ())) (zB () rest) n1 n2'
 ·exact .has [sltR 2 0,sltR 3 1] (zCJ n2++a) rfl (zB (pre ()) (all1 (pre ()))) rest n1 n2'
theorem zJN:Sy subP:=⟨⟨.ar rfl,zCb (yg () ()) (zAg () ())⟩,()⟩
theorem w_16 {a b c:Nat}(h:a+b+c<=12)(b4:b<=4):(a:Int)+b+b+c<=16:=by lia
theorem w_33 {a b c x y z:Nat}(h1:x<=2 * a)(h2:y<=2 * b)(h3:z<=2 * c)(h:a+b+c<=12):8+x+(y+1+(z+0))<=33:=by lia
theorem zGp {n2 v:Int}{m:Nat}(hp:Pts sl (zo n2) m pp)(hm:m<=12)(v0:0<=v)(v1:v<1000000):Ys sl v (zipB (pp.set 1 (pp.getD 1 []++[subP])) (zIa n2) cfg):=by
 obtain⟨a,b,c,ka,kb,kc,ha,hb,hc,lb,lt⟩:=hp;show Ys sl v (bks (zo n2) a b c n2);have ew:wtS (zo n2)=8:=rfl;have wa:wtS (zo n2++a)=8+wtS a:=by rw[zBo];rw[ew]
 have wb:wtS (b++[subP])=wtS b+1:=by rw[zBo];rfl
 have eB:wtB (bks (zo n2) a b c n2)=wtS (zo n2++a)+(wtS (b++[subP])+(wtS c+0)):=rfl;have h1:=ha.wt;have h2:=hb.wt;have h3:=hc.wt;have w33:wtB (bks (zo n2) a b c n2)<=33:=by rw[eB];rw[wa];rw[wb];exact w_33 h1 h2 h3 (le_trans lt hm)
 have m3:=fm (x:=n2) (k:=3) ();have sb:∀p∈b++[subP],Sy p:=uL hb.sy (all1 zJN);have da:∀p∈zo n2++a,DrW p/\p.dst≠1:=uL zJr λp hp=>(ha.sy p hp).w;have db:∀p∈b++[subP],DrW p/\p.dst≠1:=λp hp=>(sb p hp).w;have dc:∀p∈c,DrW p/\p.dst≠1:=λp hp=>(hc.sy p hp).w;have f0:Yi ⟨32,-1,[],.int 1,false⟩ [1]:=⟨zH,(),()⟩
 have f1:Yi ⟨33,-1,[(true,9)],.tup [.int 1,.int 2],false⟩ [1,2]:=⟨all1 λ_=>⟨(),()⟩,(),()⟩
 have f2:Yi ⟨35,-1,[zB6 n2],.int 0,false⟩ []:=⟨all1 λ_=>⟨Int.le_trans () (Int.add_le_add_left m3.1 6),lt_trans (add_lt_add_left m3.2 6) ()⟩,(),()⟩
 have ends:∀{f:PS} {w:List Int},Yi f w->∀o∈f.args,o.1=true->o.2.toNat<11:=λh o ho q=>zHe (Int.le_trans () (h.args o ho q).1) (h.args o ho q).2;refine⟨⟨rfl,zB da (zB db (zB dc zH)),zB (ends f0) (zB (ends f1) (zB (ends f2) zH)),⟨(by decide:0<3),(by decide:3<=16),?_⟩,le_trans w33 ()⟩,run0 ha hb hc v0 v1 (w_16 (le_trans lt hm) (le_trans lb (Nat.div_le_div_right (c:=3) (succ_le_succ hm)))),w33,zGA ha.sy sb hc.sy,zB (λo ho q=>(f0.args o ho q).1) (zB (λo ho q=>(f1.args o ho q).1) (zB (λo ho q=>(f2.args o ho q).1) zH))⟩;exact zB (zF6 (λp hp=>(da p hp).1) (le_trans (le_add_right _ _) (le_trans w33 ())) f0) (zB (zF6 (λp hp=>(db p hp).1) (le_trans (le_trans (le_add_right _ _) (le_add_left _ _)) (le_trans w33 ())) f1) (zB (zF6 (λp hp=>(dc p hp).1) (le_trans (le_trans (le_add_left _ _) (le_add_left _ _)) (le_trans w33 ())) f2) zH))
theorem zGo {ns:List Int}(h:NsOK ns){v:Int}(v0:0<=v)(v1:v<1000000):Ys (zz (ns.getD 0 0)) v (zAP (zz (ns.getD 0 0)) ns):=by
 have ok:=zA4 (ns.getD 0 0);have hd:=zES (ns.getD 0 0);generalize zz (ns.getD 0 0)=sl at ok hd ⊢;have p:=zJW ok hd (e:=zo (ns.getD 2 0)) (ns:=ns.drop 3) (i:=0) (ps:=[zo (ns.getD 2 0),[],[]]) (by
  have:=Pts.mk (sl:=sl) (e:=zo (ns.getD 2 0)) (i:=0) [] [] [] 0 0 0 .nil .nil .nil () ();rw[append_nil] at this;exact this)
 refine zGp p ?_ v0 v1;rw[length_drop];rw[zero_add];exact Nat.sub_le_sub_right h.hi 3
end
section
variable {X:Cx}{n:Nat}{G:Gh}{sc:Scope}{os os' os'':List (Option Val)}{m:M}{v w:Val}
theorem Blt.eL {bs:List Bool}(e:G a=some (.list (bs.map .bool)))(hl:bs.length<cap)(q:Q (.bool (bs.any id)) G):Blt X n (.builtin "any") [.ref a] G Q:=.one ⟨λ{A b s x} hA hb hr hv=>by
 rw[hv.aC];refine wn (zO hr e) λzs k _ ho hs hlen=>?_;have hL:s.heap.IsList a zs:=⟨_,ho,rfl,k,rfl⟩
 rw[length_map] at hlen;refine call_any_walk (wpAny_pyIter_list hL ?_);have hne:a≠s.heap.objs.size:=ne_of_lt (lt_size ho);refine⟨s.heap.objs.size,_,_,_,_,_,λi=>bs.getD i false,rfl,Walks.list (A:=A.in1) hA.hd _ a hne zs,⟨⟨_,get?_push_size _ rfl,rfl,rfl⟩,hL.push _⟩,λi v s' Q' E' hP hQ'=>?_,λh4 tk4 kp6=>?_⟩
 ·have hiz:i<zs.size:=(Array.getElem?_eq_some_iff.mp hP).1;have hi:i<bs.length:=by lia
  have hv2:=hs.at_ i (.bool bs[i]) v (by rw[getElem?_map];rw[getElem?_eq_getElem hi];rfl) (by rw[getElem?_toList];exact hP);rw[hv2.bool_inv];have hQ':Q' (bs.getD i false) s':=hQ';rw[show bs.getD i false=bs[i] by rw[getD_eq_getElem?_getD];rw[getElem?_eq_getElem hi];rfl] at hQ';exact wpAny_truthy_bool hQ'
 ·have e2:((List.range zs.size).any λi=>bs.getD i false)=bs.any id:=by
   rw[<-hlen];rw[Bool.eq_iff_iff];rw[List.any_eq_true];rw[List.any_eq_true];refine⟨λ⟨i,hi,h⟩=>?_,λ⟨b,hb,h⟩=>?_⟩
   ·have hi:=List.mem_range.mp hi;rw[getD_eq_getElem?_getD] at h;rw[getElem?_eq_getElem hi] at h;exact⟨_,List.getElem_mem hi,h⟩
   ·obtain⟨i,hi⟩:=List.getElem?_of_mem hb;refine⟨i,List.mem_range.mpr (List.getElem?_eq_some_iff.mp hi).1,?_⟩;rw[getD_eq_getElem?_getD];rw[hi];exact h
  rw[e2];exact Out.grow (s:=s) (tk:=tk4) hr (.bool _) (λa' o e=>kp6 a' o (by rw[mem_singleton];exact ne_of_lt (lt_size e)) (get?_push_of_some _ e)) q⟩
theorem Blt.d8 (e:G a=some (.list ((List.range k).map λi=>.int (f i))))(hl:k<cap)(q:Q (.int (preSum f k)) G):Blt X n (.builtin "sum") [.ref a] G Q:=.one ⟨λ{A b s x} hA hb hr hv=>by
 rw[hv.aC];refine wn (zO hr e) λzs z _ ho hs hlen=>?_;have hL:s.heap.IsList a zs:=⟨_,ho,rfl,z,rfl⟩
 rw[length_map] at hlen;rw[length_range] at hlen;refine call_sum_walkG (wpAny_pyIter_list hL ?_);have hne:a≠s.heap.objs.size:=ne_of_lt (lt_size ho);refine⟨s.heap.objs.size,_,_,_,_,_,f,rfl,Walks.list (A:=A.in1) hA.hd _ a hne zs,⟨⟨_,get?_push_size _ rfl,rfl,rfl⟩,hL.push _⟩,λy hy=>?_,λi v hP=>?_,λh4 tk4 t4 kp6=>?_⟩
 ·show y<(s.heap.push _).objs.size;rw[size_push];rcases List.mem_cons.mp hy with rfl | hy
  ·exact lt_succ_self _
  ·rw[List.mem_singleton.mp hy];exact lt_succ_of_lt (lt_size ho)
 ·have hiz:i<zs.size:=(Array.getElem?_eq_some_iff.mp hP).1;have hi:i<k:=by lia
  exact(hs.at_ i (.int (f i)) v (by rw[getElem?_map];rw[List.getElem?_range hi];rfl) (by rw[getElem?_toList];exact hP)).int_inv
 ·rw[<-hlen];exact Out.grow (s:=s) (tk:=tk4) hr (.int _ _) (λa' o e=>kp6 a' o (by rw[mem_singleton];exact ne_of_lt (lt_size e)) (get?_push_of_some _ e)) q⟩
theorem zIY (hij:i≠j)(x y:Value):merged ([]:List (Int×Value)) [(i,x),(j,y)]=[(i,x),(j,y)]:=by show stored (stored [] i x) j y=_;unfold stored;simp [hij]
theorem Sn.dW (hij:i≠j)(h1:∀G',Rd X n sc e1 m G' v)(h2:∀G',Rd X n sc e2 m G' w)(q:∀a G',G a=none->Ext G G'->G' a=some (.dict [(i,v),(j,w)])->Q (.ref a) G'):Sn X n sc (.Dict [some (.Constant (.int i) d1 p1),some (.Constant (.int j) d2 p2)] [e1,e2] pos) m G Q:=⟨λ{env A b s} hy=>by
 refine wpAny_Dict_walk (knd:=intKind X.prog X.w) rfl rfl (List.cons_ne_nil _ _) (show 2<=15 by decide) ?_;have hn:=zj (h:=s.heap) (le_refl _);have kp:∀a o,s.heap.get? a=some o->(s.heap.push { cls:=.type "dict",data:=.dict #[] }).get? a=some o:=λa o e=>get?_push_of_some _ e;have r1:=hy.hr.alloc (g:=.dict []) kp hn (hlow hy.hb hy.hr) ⟨zero_le _,[],Heap.DictOf.new _,.nil⟩ rfl;have f1:Fwd s { s with heap:=s.heap.push { cls:=.type "dict",data:=.dict #[] } }:=⟨.of_keep kp,rfl,rfl⟩
 have hy1:=hy.next r1 f1
 generalize hs1:({ s with heap:=s.heap.push { cls:=.type "dict",data:=.dict #[] } }:Shared)=s1 at f1 hy1 ⊢;clear r1 hs1;refine pairTrees_cons_walk (wpAny_Constant_int ?_);refine(h1 _).use (hy1.next (s':={ s1 with toks:=s1.toks+1 }) hy1.hr ⟨.refl _,rfl,rfl⟩) λx s2 v2 G2 hv2 hy2 f2 q2=>?_;obtain⟨rfl,rfl⟩:=q2;refine pairTrees_cons_walk (wpAny_Constant_int ?_);refine(h2 _).use (hy2.next (s':={ s2 with toks:=s2.toks+1 }) hy2.hr ⟨.refl _,rfl,rfl⟩) λy s3 v3 G3 hv3 hy3 f3 q3=>?_;obtain⟨rfl,rfl⟩:=q3;refine pairTrees_nil_walk ?_;obtain⟨_,kvs,hd,hes⟩:=(hy3.hr.own _ _ (Gh.aA ..)).2;cases hes;refine⟨[(i,x),(j,y)],⟨intKind_is _ _ _ _,rfl,intKind_is _ _ _ _,rfl,trivial⟩,hd,λh' hd' hs'=>?_⟩;refine wm (id hd) λoo ees eep hoo hxx _=>?_;have kk:TK s3.heap h':=.aL hs' hoo (notT hxx.1);have em:=zIY hij x y;rw[em] at hd';have r':=(hy3.hr.change (g':=.dict [(i,v2),(j,v3)]) (Gh.aA ..) rfl rfl hs' ⟨by show 2<=2 * cap;decide,_,hd',.cons ((hv2.mono f3.tk).mono kk) (.cons (hv3.mono kk) .nil)⟩).1;have ff:Fwd s { s3 with heap:=h',toks:=s3.toks+2 }:=f1.trans (Fwd.trans (s₁:={ s1 with toks:=s1.toks+1 }) ⟨.refl _,rfl,rfl⟩ (f2.trans (Fwd.trans (s₁:={ s2 with toks:=s2.toks+1 }) ⟨.refl _,rfl,rfl⟩ (f3.trans ⟨kk,rfl,rfl⟩))));have nG:=hy.hr.dA hn;exact .mk (.ref _) _ (.ref _) r' ff (q _ _ nG (λz o e=>by
  have:z≠s.heap.objs.size:=λq=>by rw[q] at e;rw[nG] at e;cases e
  rw[Gh.aD _ _ this];rw[Gh.aD _ _ this];exact e) (Gh.aA ..))⟩
end
section
end
set_option hygiene false in
local macro_rules | `(tactic| walk_at "d") => `(tactic|
 ((first | apply Z2.nil | apply Z2.cons | apply RowE.row | apply Yc.list)<;>first | rfl | (intro _;walk_at"r") | (intro _ _;rfl) | walk_at"d" | walk_at"r" | exact Nat.le_of_ble_eq_true rfl))
section
variable {X:Cx}{n:Nat}{G:Gh}{sc:Scope}{os os' os'':List (Option Val)}{m:M}{v w:Val}
inductive RowN (G0 G:Gh)(p:PS)(v:Val):Prop where
 | mk (la:Addr) (e:v=.tup [.str (opS p.op),.int p.dst,.ref la,p.more,.bool p.vol]) (h:G la=some (.list (p.args.map opdV))) (ho:p.op<36) (hn:G0 la=none)
inductive Zy (G0 G:Gh):List PS->List Val->Prop
 | nil:Zy G0 G [] []
 | cons {p:PS} {ps:List PS} {v:Val} {vs:List Val} (h:RowN G0 G p v) (t:Zy G0 G ps vs):Zy G0 G (p::ps) (v::vs)
inductive Ye (G0 G:Gh)(ps:List PS)(a:Addr):Prop where
 | mk (vs:List Val) (e:G a=some (.list vs)) (h:Zy G0 G ps vs)
theorem RowN.ext (h:RowN G0 G p v)(x:Ext G G'):RowN G0 G' p v:=by obtain⟨la,e,h,ho,hn⟩:=h;exact⟨la,e,x _ _ h,ho,hn⟩
theorem Zy.ext (h:Zy G1 G ps vs)(y:Ext G0 G1)(x:Ext G G'):Zy G0 G' ps vs:=by
 induction h with
 | nil=>exact .nil
 | cons h _ ih=>obtain⟨la,e,h,ho,hn⟩:=h;exact .cons ⟨la,e,x _ _ h,ho,y.none hn⟩ ih
theorem Zy.length (h:Zy G0 G ps vs):vs.length=ps.length:=by
 induction h with
 | nil=>rfl
 | cons _ _ ih=>exact congrArg (· + 1) ih
def RowE (X:Cx)(n:Nat)(sc:Scope)(e:Expr)(m:M)(G0:Gh)(p:PS):Prop:=∀(G:Gh) (Q:QE),Ext G0 G->(∀v G',Ext G G'->RowN G G' p v->Q v G')->Sn X n sc e m G Q
def Z2 (X:Cx)(n:Nat)(sc:Scope)(es:List Expr)(m:M)(G0:Gh)(ps:List PS):Prop:=∀(G:Gh) (Q:List Val->Gh->Prop),Ext G0 G->(∀vs G',Ext G G'->Zy G G' ps vs->Q vs G')->SnEs X n sc es m G Q
def Yc (X:Cx)(n:Nat)(sc:Scope)(e:Expr)(m:M)(G0:Gh)(ps:List PS):Prop:=∀(G:Gh) (Q:QE),Ext G0 G->(∀a G',Ext G G'->Ye G G' ps a->Q (.ref a) G')->Sn X n sc e m G Q
def NS (e:Expr):Prop:=∀es env,starEach (e::es) env=(false,eval e env)::starEach es env
section
variable {G0:Gh}{p:PS}{ps qs:List PS}{e:Expr}{es:List Expr}
theorem RowE.cB (h1:∀G,Ext G0 G->Rd X n sc e1 m G (.str s))(h2:∀G,Ext G0 G->Rd X n sc e2 m G (.int p.dst))(h3:∀G,Ext G0 G->Rds X n sc es m G vs)(h4:∀G,Ext G0 G->Rd X n sc e4 m G p.more)(h5:∀G,Ext G0 G->Rd X n sc e5 m G (.bool p.vol))
  (q1:s=opS p.op) (q3:vs=p.args.map opdV) (hl:Nat.ble vs.length 1000=true) (ho:Nat.blt p.op 36=true:=by rfl) (n1:NS e1:=by intro _ _;rfl) (n2:NS e2:=by intro _ _;rfl) (n4:NS e4:=by intro _ _;rfl) (n5:NS e5:=by intro _ _;rfl):RowE X n sc (.Tuple [e1,e2,.List es lp,e4,e5] k pos) m G0 p:=λG Q x0 kk=>
 Sn.tup (SnEs.cons ((h1 G x0).to (SnEs.cons ((h2 G x0).to (SnEs.cons (Sn.aJ (h3 G x0) (λla G' hla x l1=>SnEs.cons ((h4 G' (x0.trans x)).to (SnEs.cons ((h5 G' (x0.trans x)).to (SnEs.nil ⟨by show 5<cap;decide,kk _ _ x ⟨la,by rw[q1],by rw[l1];rw[q3],Nat.le_of_ble_eq_true ho,hla⟩⟩)) (n5 _))) (n4 _)) hl) (λ_=>rfl))) (n2 _))) (n1 _))
theorem RowE.row (h1:∀G,Rd X n sc e1 m G (.str s))(h2:∀G,Rd X n sc e2 m G (.int p.dst))(h3:∀G,Rds X n sc es m G vs)(h4:∀G,Rd X n sc e4 m G p.more)(h5:∀G,Rd X n sc e5 m G (.bool p.vol))
  (q1:s=opS p.op) (q3:vs=p.args.map opdV) (hl:Nat.ble vs.length 1000=true) (ho:Nat.blt p.op 36=true:=by rfl) (n1:NS e1:=by intro _ _;rfl) (n2:NS e2:=by intro _ _;rfl) (n4:NS e4:=by intro _ _;rfl) (n5:NS e5:=by intro _ _;rfl):RowE X n sc (.Tuple [e1,e2,.List es lp,e4,e5] k pos) m G0 p:=
 .cB (λG _=>h1 G) (λG _=>h2 G) (λG _=>h3 G) (λG _=>h4 G) (λG _=>h5 G) q1 q3 hl ho n1 n2 n4 n5
theorem Z2.nil:Z2 X n sc [] m G0 []:=λG Q _ kk=>SnEs.nil (kk _ _ .refl .nil)
theorem Z2.cons (h:RowE X n sc e m G0 p)(k:Z2 X n sc es m G0 ps)(hn:NS e:=by intro _ _;rfl):Z2 X n sc (e::es) m G0 (p::ps):=λG Q x0 kk=>
 SnEs.cons (h G _ x0 λv G1 x1 r1=>k G1 _ (x0.trans x1) λvs G2 x2 r2=>kk _ _ (x1.trans x2) (.cons (r1.ext x2) (r2.ext x1 .refl))) (hn _)
theorem Yc.list {pos:Pos}(h:Z2 X n sc es m G0 ps)(hl:Nat.ble ps.length 1000=true:=by rfl):Yc X n sc (.List es pos) m G0 ps:=λG Q x0 kk=>
 Sn.listE (h G _ x0 λvs G1 x1 r1=>⟨by rw[r1.length];exact hl,λa G2 ha x2 e2=>kk a G2 (x1.trans x2) ⟨vs,e2,r1.ext .refl x2⟩⟩)
end
theorem RowE.go (h:RowE X n sc e m G p)(kk:∀v G',Ext G G'->RowN G G' p v->Q v G'):Sn X n sc e m G Q:=h G Q .refl kk
theorem Yc.go (h:Yc X n sc e m G ps)(kk:∀a G',Ext G G'->Ye G G' ps a->Q (.ref a) G'):Sn X n sc e m G Q:=h G Q .refl kk
def RetL (X:Cx)(n:Nat)(sc:Scope)(sts:List Stmt)(m:M)(G:Gh)(ps:List PS):Prop:=∀Q:QE,(∀a G',Ext G G'->Ye G G' ps a->Q (.ref a) G')->SnB X n sc sts m G (Back Q)
def RetI (X:Cx)(n:Nat)(sc:Scope)(sts:List Stmt)(m:M)(G:Gh)(v:Val):Prop:=∀Q:QE,Q v G->SnB X n sc sts m G (Back Q)
section
variable {sts:List Stmt}{t e:Expr}{p1 p2:Pos}{c:Prop} [Decidable c] {ps qs:List PS}
theorem RetL.use (h:RetL X n sc sts m G ps)(k:∀a G',Ext G G'->Ye G G' ps a->Q (.ref a) G'):SnB X n sc sts m G (Back Q):=h Q k
theorem RetL.ret (h:Yc X n sc e m G ps):RetL X n sc (.Return (some e) p1::sts) m G ps:=λQ k=>.aH (h.go k)
theorem RetL.ifs (h:RdT X n sc t m G (decide c))(ha:Yc X n sc e m G ps)(hb:RetL X n sc sts m G qs):RetL X n sc (.If t [.Return (some e) p1] [] p2::sts) m G (if c then ps else qs):=λQ k=>
 .ifs h (λq=>by rw[if_pos (of_decide_eq_true q)] at k;exact .aR (ha.go k)) λq=>by rw[if_neg (of_decide_eq_false q)] at k;exact .aK (hb Q k)
theorem RetL.nest (h:RdT X n sc t m G (decide c))(ha:RetL X n sc sts2 m G ps)(hb:RetL X n sc sts m G qs):RetL X n sc (.If t sts2 [] p2::sts) m G (if c then ps else qs):=λQ k=>
 .ifs h (λq=>by
  rw[if_pos (of_decide_eq_true q)] at k;refine(ha (λv G=>(∃a,v=.ref a)/\Q v G) λa G' x r=>⟨⟨a,rfl⟩,k a G' x r⟩).mono λfl m G q=>?_;cases q with
  | ret h=>exact .ret (.ret h.2)
  | next h=>obtain⟨⟨_,h⟩,_⟩:=h;cases h) λq=>by rw[if_neg (of_decide_eq_false q)] at k;exact .aK (hb Q k)
end
theorem SnB.aq (h:Rd X n sc e (L sc os) G (.tup [v,w]))(u1:Upd false sc.names os y w os')(u2:Upd false sc.names os' x v os'')(kk:SnB X n sc sts (L sc os'') G Q)
  (hw:swappedStores [.Tuple [.Name x p1,.Name y p2] k p] e (zC7 sc)=pure (some [x,y]):=by rfl) (hsw:∀env,swapsWithSole [.Tuple [.Name x p1,.Name y p2] k p] e pos.line env=pure false:=by intro _;rfl):SnB X n sc (.Assign [.Tuple [.Name x p1,.Name y p2] k p] e pos::sts) (L sc os) G Q:=
 .cons (.br [x,y] (h.to ⟨_,_,rfl,.cons u1.put (.cons u2.put .nil),.next kk⟩) hw hsw)
theorem zA3 {i k:Int}(h:0<=i/\i<k)(hk:k<=1000):i.natAbs<cap:=wD h.1 (lt_of_lt_of_le (zHe (k:=1000) h.1 (Int.lt_of_lt_of_le h.2 hk)) ())
theorem Rd.aO (h:Rd X n sc e m G (.int x))(hk:k≠0:=by decide):Rd X n sc (.BinOp e .Mod (.Constant (.int k) kd p) pos) m G (.int (Int.fmod x k)):=.bin h .int (.mod hk qA)
theorem Rd.ao (h:Rd X n sc e m G (.int x))(hk:k≠0:=by decide)(hb:k.natAbs<8589934592:=by decide):Rd X n sc (.BinOp e .FloorDiv (.Constant (.int k) kd p) pos) m G (.int (Int.fdiv x k)):=.bin h .int (.fdiv hk hb qA)
theorem RdT.bK (h:Rd X n sc e m G (.int x)):RdT X n sc (.Compare e [.Eq] [.Constant (.int k) kd p] pos) m G (decide (x=k)):=.cmp h .int (.cv qA)
theorem Rd.bK (h:Rd X n sc e m G (.int x)):Rd X n sc (.Compare e [.Eq] [.Constant (.int k) kd p] pos) m G (.bool (decide (x=k))):=.cmp h .int (.cv qA)
theorem zI7 {c:Bool}{a b:Int}:Val.int (if c then a else b)=if c then .int a else .int b:=by cases c<;>rfl
theorem zJE (h:0<=i/\i<3):zy [Val.int 1,.int 2,.int 4] i=some (.int (wid i)):=by rcases i3 h.1 h.2 with rfl | rfl | rfl<;>rfl
theorem zHi (h:0<=i/\i<4):zy [Val.int 2,.int 3,.int 4,.int 0] i=some (.int (zAW i)):=by rcases i4 h.1 h.2 with rfl | rfl | rfl | rfl<;>rfl
theorem zII (h:0<=i/\i<3):zy [Val.str "add",.str "xor",.str "sub"] i=some (.str (opS (opAr i))):=by
 rcases i3 h.1 h.2 with rfl | rfl | rfl
 ·exact congrArg (λx=>some (Val.str x)) (by decide +kernel:("add" : Str)=opS 13)
 ·exact congrArg (λx=>some (Val.str x)) (by decide +kernel:("xor" : Str)=opS 18)
 ·exact congrArg (λx=>some (Val.str x)) (by decide +kernel:("sub" : Str)=opS 14)
theorem zIJ (h:0<=i/\i<3):Nat.blt (opAr i) 36=true:=by rcases zEc h with e | e | e<;>rw[e]<;>rfl
theorem Rd.size (e:G a=some (.list (sl.map wX)))(h1:Rd X n sc e1 m G (.ref a))(h2:Rd X n sc e2 m G (.int i))(h0:0<=i)(hi:i<sl.length)(h4:sl.length=4)(hs:∀x y,subscripted e2 false x y=operate [x,y] (getItem x y):=by intro _ _;rfl):Rd X n sc (.Subscript (.Subscript e1 e2 p1) (.Constant (.int 0) kd p2) p3) m G (.int (zP sl i)):=by
 have hn:i.toNat<sl.length:=(toNat_lt h0).mpr hi;have e2':sl[i.toNat]?=some sl[i.toNat]:=getElem?_eq_getElem hn;have hat:zy (sl.map wX) i=some (wX sl[i.toNat]):=by have:=zY (f:=wX) e2';rw[toNat_of_nonneg h0] at this;exact this
 have es:zP sl i=sl[i.toNat].1:=by unfold zP;rw[e2'];rfl
 rw[es];exact .aW (vs:=[.int sl[i.toNat].1,.int sl[i.toNat].2]) (.aF h1 e h2 (wD h0 (lt_of_lt_of_le hn (by rw[h4];decide))) hat hs) .int () rfl
abbrev rwL (nu sa:Val)(kind rest dst:Option Val)(one slot spot near width way free:Option Val):M:=L ut [some nu,some sa,kind,rest,dst,one,slot,spot,near,width,way,free,none]
inductive WdI (F:Int->M)(G0:Gh)(w:Int)(m:M)(G:Gh):Prop where
 | mk (e:m=F w) (x:G=G0)
theorem zBt {number:Int}(T:Tops X)(hs:G sa=some (.list (sl.map wX)))(h4:sl.length=4)(kk:∀a G',Ext G G'->Ye G G' (vh sl number) a->Q (.ref a) G'):Cal X (n+1) uM [.int number,.ref sa] G Q:=by
 refine Cal.start (T.d 26 rfl) rfl rfl ?_;unfold vh zHr at kk;refine SnB.aq (v:=.int (Int.fmod number 10)) (w:=.int (Int.fdiv number 10)) (.tup (.cons (.aO ()) (.cons (.ao ()) .nil))) () () ?_;generalize Int.fmod number 10=kind at kk ⊢;generalize Int.fdiv number 10=rest at kk ⊢;refine SnB.aq (v:=.int (6+Int.fmod rest 3)) (w:=opdV (true,6+Int.fmod (Int.fdiv rest 3) 3)) (.tup (.cons (.bin .int (.aO ()) (.add qA)) (.cons (.tup (.cons .str (.cons (.bin .int (.aO (.ao ())) (.add qA)) .nil))) .nil))) () () ?_;refine SnB.assign (v:=opdV (true,2+Int.fmod (Int.fdiv rest 9) 3)) (.tup (.cons .str (.cons (.bin .int (.aO (.ao ())) (.add qA)) .nil))) () ?_;have m4:=fm (x:=Int.fdiv rest 9) (k:=4) ();refine SnB.assign (v:=opdV (true,zAW (Int.fmod (Int.fdiv rest 9) 4))) (.tup (.cons .str (.cons (.aW (.tup ()) (.aO (.ao ())) (zA3 m4 ()) (zHi m4)) .nil))) () ?_;refine SnB.assign (v:=opdV (false,2+Int.fmod (Int.fdiv rest 9) 3)) (.tup (.cons .str (.cons (.bin .int (.aO (.ao ())) (.add qA)) .nil))) () ?_;have m3:=fm (x:=Int.fdiv rest 36) (k:=3) ();refine SnB.aq (v:=.int (wid (Int.fmod (Int.fdiv rest 36) 3))) (w:=.int (Int.fdiv rest 108)) (.tup (.cons (.aW (.tup ()) (.aO (.ao ())) (zA3 m3 ()) (zJE m3)) (.cons (.ao ()) .nil))) () () ?_;refine SnB.ck (WdI (λw=>rwL (.int number) (.ref sa) (some (.int kind)) (some (.int rest)) (some (.int (6+Int.fmod rest 3))) (some (opdV (true,6+Int.fmod (Int.fdiv rest 3) 3))) (some (opdV (true,2+Int.fmod (Int.fdiv rest 9) 3))) (some (opdV (true,zAW (Int.fmod (Int.fdiv rest 9) 4)))) (some (opdV (false,2+Int.fmod (Int.fdiv rest 9) 3))) (some (.int w)) (some (.int (Int.fdiv rest 108))) none) G (widP sl (Int.fdiv rest 108) (Int.fmod (Int.fdiv rest 36) 3) (Int.fmod (Int.fdiv rest 9) 4)))
  (.cmp (.aO ()) .int (.gt qA)) (λm' G' hJ=>?_) λQJ hM _=>⟨λe=>?_,λe=>?_⟩
 rotate_left
 ·have e2:widP sl (Int.fdiv rest 108) (Int.fmod (Int.fdiv rest 36) 3) (Int.fmod (Int.fdiv rest 9) 4)=if zP sl (Int.fmod (Int.fdiv rest 9) 4)<wid (Int.fmod (Int.fdiv rest 36) 3) then zP sl (Int.fmod (Int.fdiv rest 9) 4) else wid (Int.fmod (Int.fdiv rest 36) 3):=if_pos (of_decide_eq_true e)
  rw[e2] at hM;exact SnB.assign (v:=.int (if zP sl (Int.fmod (Int.fdiv rest 9) 4)<wid (Int.fmod (Int.fdiv rest 36) 3) then zP sl (Int.fmod (Int.fdiv rest 9) 4) else wid (Int.fmod (Int.fdiv rest 36) 3))) (Sn.fn (id:="min") T.blt () () () (λ_ _=>rfl) (Rds.to (vs:=[.int (wid (Int.fmod (Int.fdiv rest 36) 3)),.int (zP sl (Int.fmod (Int.fdiv rest 9) 4))]) (.cons () (.cons (.size hs () (.aO (.ao ())) m4.1 (by rw[h4];exact m4.2) h4) .nil)) (Blt.min qA))) () (.nil (hM ⟨rfl,rfl⟩))
 ·have e2:widP sl (Int.fdiv rest 108) (Int.fmod (Int.fdiv rest 36) 3) (Int.fmod (Int.fdiv rest 9) 4)=wid (Int.fmod (Int.fdiv rest 36) 3):=if_neg (of_decide_eq_false e);rw[e2] at hM;exact .nil (hM ⟨rfl,rfl⟩)
 obtain⟨rfl,rfl⟩:=hJ;refine SnB.assign (v:=.bool (decide (Int.fmod (Int.fdiv rest 108) 4=3))) (.bK (.aO ())) () ?_;generalize 6+Int.fmod rest 3=d at kk ⊢;generalize ((true,6+Int.fmod (Int.fdiv rest 3) 3):Opd)=one at kk ⊢;generalize ((true,2+Int.fmod (Int.fdiv rest 9) 3):Opd)=slot at kk ⊢;generalize ((true,zAW (Int.fmod (Int.fdiv rest 9) 4)):Opd)=spot at kk ⊢;generalize ((false,2+Int.fmod (Int.fdiv rest 9) 3):Opd)=near at kk ⊢;generalize widP sl (Int.fdiv rest 108) (Int.fmod (Int.fdiv rest 36) 3) (Int.fmod (Int.fdiv rest 9) 4)=w at kk ⊢;generalize Int.fdiv rest 108=way at kk ⊢;generalize decide (Int.fmod way 4=3)=free at kk ⊢;refine RetL.use (ps:=zEX kind d one slot spot near w way free) ?_ kk;unfold zEX;clear kk m3 m4;refine .ifs (.bK ()) (.list (.cons (.cB (vs:=[opdV (true,5),opdV one]) (λ_ _=>.str) (λ_ _=>zI7▸.ite (.bK (.aO ())) (λ_=>()) λ_=>()) (λ_ _=>()) (λ_ _=>()) (λ_ _=>()) rfl rfl rfl) .nil)) ?_;refine .ifs (.bK ()) (by walk_at"d") ?_;refine .ifs (.cmp () .int (.lt qA)) (by walk_at"d") ?_;refine .ifs (.bK ()) (.list (.cons (.row (vs:=[opdV spot]) (λ_=>.str) (λ_=>()) (λ_=>()) (λ_=>.tup (.cons () (.cons (.bK (.aO ())) .nil))) (λ_=>()) rfl rfl rfl) .nil)) ?_;refine .ifs (.bK ()) (by walk_at"d") ?_;refine .nest (.bK ()) (.ifs (.bK (.aO ())) (by walk_at"d") (.ret (by walk_at"d"))) ?_;refine .ifs (.bK ()) (.list (.cons (.row (λ_=>.aW (.tup ()) (.aO ()) (zA3 (fm ()) ()) (zII (fm ()))) (λ_=>()) (λ_=>.cons () (.cons (.tup (.cons .str (.cons (.aO (.ao ())) .nil))) .nil)) (λ_=>()) (λ_=>()) rfl rfl rfl (zIJ (fm ()))) .nil)) ?_;refine .ifs (.bK ()) (by walk_at"d") ?_;exact .ret (.list (.cons (by walk_at"d") (.cons (.row (vs:=[opdV (true,10)]) (λ_=>.str) (λ_=>()) (λ_=>()) (λ_=>.tup (.cons .int (.cons (.bK (.aO ())) .nil))) (λ_=>()) rfl rfl rfl) .nil)))
end
section
section
variable {prog:Program}{w:World}{A:Around}{E:Value->Shared->Prop}{s:Shared}
theorem zCc (a n:Nat):Builtin.Slice.sliceAdjust (some (a:Int)) none 1 (n:Int)=(((min a n:Nat):Int),(n:Int)):=by
 unfold Builtin.Slice.sliceAdjust;have h1:¬((1:Int)<0):=()
 have h2:¬((a:Int)<0):=Int.not_lt.mpr (natCast_nonneg a);simp only [h1,h2,if_false]
 congr 1
 omega
theorem zBm {a n:Nat}{Q:Int×Int×Nat->Shared->Prop}(hs:s.heap.IsSliceOf sl (.int a u) .none .none)(h:Q (((min a n:Nat):Int),1,n - min a n) s) :
  wpAny (model prog w) A (Builtin.Slice.sliceApplied (.ref sl) (pure (n:Int))) Q E s:=by refine zU (id hs) λos hos hcs hds=>?_;unfold Builtin.Slice.sliceApplied Builtin.Slice.sliceFields;refine wpAny_bind (wpAny_bind (wpAny_field hos hds (x:=.int a u) rfl (wpAny_bind (wpAny_field hos hds (x:=.none) rfl (wpAny_bind (wpAny_field hos hds (x:=.none) rfl (wpAny_pure ?_)))))));refine wpAny_bind (slicePart_none ?_);show wpAny _ _ (if ((1:Int) == 0)=true then _ else _) _ _ s;rw[if_neg ()];refine wpAny_bind (slicePart_int (wpAny_bind (slicePart_none (wpAny_bind (wpAny_pure ?_)))));show wpAny _ _ (match Builtin.Slice.sliceAdjust (some (a:Int)) none 1 (n:Int) with | (lo,hi)=>pure (lo,(1:Int),Builtin.Slice.slicePlaces lo hi 1)) _ _ s;rw[zCc a n];show wpAny _ _ (pure (((min a n:Nat):Int),(1:Int),Builtin.Slice.slicePlaces ((min a n:Nat):Int) (n:Int) 1)) _ _ s;rw[places_from _ n (min_le_right a n)];exact wpAny_pure h
theorem jf {a:Nat}{Q:Value->Shared->Prop}(ht:IsTup s.heap t items)(hs:s.heap.IsSliceOf sl (.int a u) .none .none)(hn:0<items.size)(h0:a=0->Q (.ref t) s)
  (h:Q (.ref s.heap.objs.size) { s with heap:=s.heap.push { cls:=.type "tuple",data:=.seq (items.toList.drop a).toArray } })
  (hsz:items.size<=sizeLine:=by size_fits):wpAny (model prog w) A (getItem (.ref t) (.ref sl)) Q E s:=by
 have hdrop:sizeOk (.seq (items.toList.drop a).toArray):=by
  show (items.toList.drop a).toArray.size<=sizeLine;rw[size_toArray];rw[length_drop];rw[length_toList];exact le_trans (sub_le _ _) hsz
 refine zU (id hs) λos hos hcs hds=>?_;have hTs:s.TypeIs (.ref sl) "slice":=⟨os,hos,hcs⟩
 unfold getItem;refine wpAny_holding ?_;refine wpAny_bind (wpAny_sequenceKey ht.typeIs () ?_);refine wpAny_bind (wpAny_callSpecial?_slot (name:=Str.ofString "__getitem__") ht.typeIs slot_tuple_getitem
  (wpAny_call_entry slot_tuple_getitem ht.typeIs entry_tuple_getitem ?_ (args_tuple_getitem _ _)))
 show wpAny _ _ (Builtin.Tuple.tupleItemsOf (.ref t) >>= _) _ _ s;refine wpAny_bind (tupleItemsOf_ ht ?_);refine wpAny_bind (wpAny_typeOf hTs ?_);rw[if_pos ()];refine wpAny_bind (zBm hs ?_);show wpAny _ _ (if (((min a items.size:Nat):Int) == 0&&(1:Int) == 1&&(items.size - min a items.size) == items.size)=true then _ else _) _ _ s;have one:((1:Int) == 1)=true:=rfl;by_cases c:a=0
 ·subst c;rw[Nat.zero_min];rw[one];rw[Nat.sub_zero];rw[beq_self_eq_true];rw[if_pos (by rfl)];unfold Builtin.Tuple.tupleIsExact;refine wpAny_bind (wpAny_bind (wpAny_typeOf ht.typeIs (wpAny_pure ?_)));rw[if_pos ()];exact wpAny_bind (wpAny_rule (wpAny_pure ⟨_,rfl,wpAny_pure (h0 rfl)⟩))
 ·have nz:(((min a items.size:Nat):Int) == 0&&(1:Int) == 1&&(items.size - min a items.size) == items.size)=false:=by
   have:(items.size - min a items.size == items.size)=false:=by rw[beq_eq_false_iff_ne];exact ne_of_lt (Nat.sub_lt hn (Nat.lt_min.mpr ⟨Nat.pos_of_ne_zero c,hn⟩))
   rw[this];rw[Bool.and_false]
  rw[nz];rw[if_neg Bool.false_ne_true];have pk:((List.range (items.size - min a items.size)).filterMap λ(k:Nat)=>items[(((min a items.size:Nat):Int)+(k:Int) * 1).toNat]?).toArray=(items.toList.drop a).toArray:=by
   rw[pick_from items _ (min_le_right a _)];by_cases l:a<=items.size
   ·rw[Nat.min_eq_left l]
   ·rw[Nat.min_eq_right (Nat.le_of_not_le l)];rw[drop_eq_nil_of_le (by rw[length_toList];exact le_refl _)];rw[drop_eq_nil_of_le (by rw[length_toList];exact le_of_lt (lt_of_not_le l))]
  rw[pk];exact wpAny_bind (m:=Builtin.Tuple.tupleExact _) (wpAny_newObj_type (wpAny_pure ⟨_,rfl,wpAny_pure h⟩) hdrop)
end
section
variable {X:Cx}{n:Nat}{G:Gh}{m:M}{s:Shared}{Q:QE}
theorem SlOp.tup {vs:List Val}{a:Nat}(hl:vs.length<cap)(hn:0<vs.length)(h:Q (.tup (vs.drop a)) G):SlOp X (.tup vs) (some (a:Int)) .none G Q:=⟨λ{A b s x vl vu o l u p} hb hr hv pl pu=>by
 refine wm hv.aT λt k ys eq3 e hs=>?_;subst eq3;cases pu;cases pl with | int _ tk=>
 generalize hso:({ cls:=.type "slice",data:=.fields #[.int a tk,.none,.none] }:Obj)=so;have kp:∀a o,s.heap.get? a=some o->(s.heap.push so).get? a=some o:=λa o e=>get?_push_of_some _ e;have ht:IsTup s.heap t ys.toArray:=⟨_,e,rfl,_,rfl⟩
 have ht':IsTup (s.heap.push so) t ys.toArray:=ht.keeps kp;have hr':=hr.mono kp;have hs':=hs.mono (.of_keep kp);have f':Fwd s { s with heap:=s.heap.push so }:=⟨.of_keep kp,rfl,rfl⟩
 refine tail_any (s:={ s with heap:=s.heap.push so }) ht'.typeIs slot_tuple_getitem.lookup
  (jf (s:={ s with heap:=s.heap.push so }) ht' (by rw[<-hso];exact Heap.IsSliceOf.new ..) (by rw[size_toArray];rw[<-hs.length];exact hn) (λe=>?_) ?_ (by rw[size_toArray];rw[<-hs.length];rw[sizeLine_eq];exact zDr (yA hl))) rfl
 ·subst e;exact .mk _ _ (hv.mono (.of_keep kp)) hr' f' h
 ·exact(newT (s:={ s with heap:=s.heap.push so }) (Q:=Q) hr' (hs'.drop a) h).next f'⟩
end
end
section
variable {X:Cx}{n:Nat}{G:Gh}{sc:Scope}{os os' os'':List (Option Val)}{m:M}{v w:Val}
noncomputable def zGH:List Int:=[27,9,5,812,10,834,5,32,271]
noncomputable def u6 (ns:List Int):List Int:=(slice ns none (some 15)).map λi=>Int.fmod i 2147483647
noncomputable def zEd (ns:List Int):List Int:=u6 ns++zGH.drop (u6 ns).length
theorem zDF (ns:List Int):(u6 ns).length<=15:=by unfold u6 slice;rw[length_map];rw[length_take];exact le_trans (Nat.min_le_left ..) (le_trans (sub_le ..) (Nat.min_le_left ..))
theorem zIM (ns:List Int):NsOK (zEd ns):=by
 have h:=zDF ns;have hl:(zEd ns).length=(u6 ns).length+(9 - (u6 ns).length):=by unfold zEd;rw[length_append];rw[length_drop];rfl
 have key:∀k<16,9<=k+(9 - k)/\k+(9 - k)<=15:=()
 obtain⟨k1,k2⟩:=key _ (Nat.lt_succ_of_le h);refine⟨hl▸k1,hl▸k2,uL (λi hi=>?_) λi hi=>?_⟩
 ·refine zC (List.mem_map.mp hi) λj _ eq2=>?_;subst eq2;exact⟨(fm ()).1,lt_trans (fm (x:=j) (k:=2147483647) ()).2 ()⟩
 ·exact(show ∀i∈zGH,okN i by unfold okN;decide +kernel) i (List.mem_of_mem_drop hi)
theorem jx (ns:List Int)(lo hi:Option Int):slice (ns.map Val.int) lo hi=(slice ns lo hi).map .int:=by unfold slice;rw[length_map];rw[List.map_take];rw[List.map_drop]
inductive NuI (G0:Gh)(goal:List Int)(xs acc:List Val)(G:Gh):Prop where
 | mk (is ks:List Int) (e1:xs=is.map .int) (e2:acc=ks.map .int) (x:G=G0) (hg:ks++is.map (λi=>Int.fmod i 2147483647)=goal)
theorem v7 (T:Tops X)(hl:(ns.map Val.int).length<=2 * cap/\∃ys,X.H0.IsList l ys/\VRs X.H0 (ns.map .int) ys.toList)(kk:∀a G',G' a=some (.list ((zEd ns).map .int))->Ext G G'->Q (.ref a) G'):Cal X (n+1) yT [.ref l] G Q:=by
 refine Cal.start (T.d 25 rfl) rfl rfl ?_;have h15:=zDF ns;refine .cons (SnS.aQ (by decide +kernel) (.seq (Sn.slice (Rd.to (v:=.ref l) () (.none (.some (Rd.int.to ⟨15,rfl,SlOp.ground hl (NewL.nl λsa G1 h1 x1 e1=>⟨_,_,.list e1,?_,NuI G1 (u6 ns),.cap (sc':=uA) [none,none] ⟨λv xs acc G2 hI=>?_,λacc G2 hI=>?_⟩ (capn (capn (cap0))),⟨slice ns none (some 15),[],jx _ _ _,rfl,rfl,rfl⟩⟩)⟩)))))))
 ·rw[jx];rw[length_map];unfold u6 at h15;rw[length_map] at h15;exact lt_of_le_of_lt h15 ()
 ·obtain⟨is,ks,e2,rfl,rfl,hk⟩:=hI;refine wF (zt e2) λi is eq2 eq3 eq4=>?_;subst eq2;subst eq3;subst eq4;exact⟨e1,_,Upd.aM (),.nil ⟨λ_=>Rd.to (.aO ()) ⟨is,ks++[_],rfl,by rw[List.map_append];rfl,rfl,by rw[<-hk];rw[append_assoc];rfl⟩,λq=>nomatch q⟩⟩
 ·obtain⟨is,ks,e2,rfl,rfl,hk⟩:=hI;obtain rfl:=wM e2;have hk:ks=u6 ns:=by rw[<-hk];exact(append_nil ks).symm
  subst hk;refine⟨e1,NewL.nl λnu G3 h3 x3 e3=>⟨_,Upd.put (),.next ?_⟩⟩;refine .aH (Sn.bin (Rd.to (v:=.ref nu) () (Sn.ty (id:="list") T.blt () () () (λ_ _=>rfl) (.cons (Sn.slice (Rd.to (.glob T.g_law_REST ()) (.some (Rd.to (v:=.int (u6 ns).length) (.fn (id:="len") T.blt () () () (λ_ _=>rfl) (vs:=[.ref nu]) () (Blt.aw e3 (by rw[length_map];exact lt_of_le_of_lt h15 ()) ⟨by rw[length_map],rfl⟩)) ⟨_,rfl,.none (SlOp.tup () () (.nil (Blt.cP ?_ (NewL.nl λra G4 h4 x4 e4=>?_))))⟩)))) (λ_=>rfl)))))
  ·rw[length_drop];exact lt_of_le_of_lt (sub_le ..) ()
  ·rw[show List.drop (u6 ns).length [Val.int 27,.int 9,.int 5,.int 812,.int 10,.int 834,.int 5,.int 32,.int 271]=(zGH.drop (u6 ns).length).map .int from(List.map_drop (f:=Val.int) (l:=zGH)).symm] at e4;refine Op2.bu (x4 _ _ e3) e4 (by rw[length_map,length_map,length_drop];show _+(9 - _)<_;exact lt_of_le_of_lt (add_le_add h15 (sub_le 9 _)) ()) (NewL.nl λnb G5 h5 x5 e5=>?_);rw[<-List.map_append] at e5;exact kk nb G5 e5 ((x1.trans x3).trans (x4.trans x5))
end
section
variable {X:Cx}{n:Nat}{G:Gh}{sc:Scope}{os os' os'':List (Option Val)}{m:M}{v w:Val}
noncomputable def rg (i w:Nat):List Val:=(List.range' i (w - i)).map λ(k:Nat)=>Val.int k
theorem zCl {i w:Nat}(h:w<=i):rg i w=[]:=by unfold rg;rw[Nat.sub_eq_zero_of_le h];rfl
theorem jO {i w:Nat}(h:i<w):rg i w=.int i::rg (i+1) w:=by unfold rg;rw[show w - i=(w - (i+1))+1 from(sub_add_cancel (Nat.sub_pos_of_lt h)).symm];rfl
theorem jb (w:Nat):uX w=rg 0 w:=by unfold uX rg;rw[Nat.sub_zero];rw[<-List.range_eq_range']
inductive RgI (w:Nat)(I:Nat->M->Gh->Prop)(xs:List Val)(m:M)(G:Gh):Prop where
 | mk (i:Nat) (hi:i<=w) (e:xs=rg i w) (h:I i m G)
theorem SnB.forR (w:Nat)(hx:Zv X)(hk:Zf sc "range")(he:Rd X n sc e m G (.int w))(hw:w<1000)(I:Nat->M->Gh->Prop)(h0:I 0 m G)
  (turn:∀i m G,i<w->I i m G->BT X n sc (.Name x p1) (.int i) m body G (Turn (I (i+1)) (Then X n sc sts Q))) (z:∀m G,I w m G->SnB X n sc sts m G Q)
  (hn:Zj [e]:=by exact λ_ _=>rfl) (hs:∀env x,foldedSetIterable (.Call (.Name "range" p2) [e] [] p3) env x=pure x:=by intro _ _;rfl) (hp:∀env,starEach [e] env=(false,eval e env)::starEach [] env:=by intro _;rfl):SnB X n sc (.For (.Name x p1) (.Call (.Name "range" p2) [e] [] p3) body [] p4::sts) m G Q:=by
 refine .cons (.cG (.range hx hk hn (Rds.to (vs:=[.int w]) (.cons he .nil hp) ⟨w,rfl,Nat.lt_trans hw (),RgI w I,⟨λx xs m G hI=>?_,λm G hI=>?_⟩,⟨0,zero_le _,jb w,h0⟩⟩)) hs)
 ·obtain⟨i,hi,e1,h⟩:=hI;have hlt:i<w:=lt_of_not_le λq=>by rw[zCl q] at e1;cases e1
  rw[jO hlt] at e1;obtain⟨rfl,rfl⟩:=List.cons.inj e1;obtain⟨m',b,q⟩:=turn i m G hlt h;refine⟨trivial,m',b,q.mono λfl m G q=>?_⟩;cases q with
  | next h=>exact .next ⟨_,hlt,rfl,h⟩
  | cont h=>exact .cont ⟨_,hlt,rfl,h⟩
  | brk h=>exact .brk h
  | ret h=>exact .ret h
 ·obtain⟨i,hi,e1,h⟩:=hI
  have:i=w:=le_antisymm hi (le_of_not_lt λq=>by rw[jO q] at e1;cases e1);subst this;exact⟨trivial,.next (z m G h)⟩
theorem zFr {i w:Nat}(h:i<w):w - i=(w - (i+1))+1:=(sub_add_cancel (Nat.sub_pos_of_lt h)).symm
inductive Zm (bad:List Addr)(G:Gh):List PS->List Val->Prop
 | nil:Zm bad G [] []
 | cons {p:PS} {ps:List PS} {v:Val} {vs:List Val} (la:Addr) (e:v=.tup [.str (opS p.op),.int p.dst,.ref la,p.more,.bool p.vol]) (h:G la=some (.list (p.args.map opdV))) (ho:p.op<36) (hn:la∉bad) (t:Zm bad G ps vs):Zm bad G (p::ps) (v::vs)
section
variable {bad:List Addr}{G':Gh}{ps qs:List PS}{vs ws:List Val}
theorem Zm.off (h:Zm bad G ps vs)(x:∀a o,a∉bad->G a=some o->G' a=some o):Zm bad G' ps vs:=by
 induction h with
 | nil=>exact .nil
 | cons la e h ho hn _ ih=>exact .cons la e (x _ _ hn h) ho hn ih
theorem Zm.more (h:Zm bad G ps vs)(ha:G a=none):Zm (a::bad) G ps vs:=by
 induction h with
 | nil=>exact .nil
 | cons la e h ho hn _ ih=>exact .cons la e h ho (ze (λq=>by rw[q] at h;rw[ha] at h;cases h) hn) ih
theorem Zm.append (h:Zm bad G ps vs)(k:Zm bad G qs ws):Zm bad G (ps++qs) (vs++ws):=by
 induction h with
 | nil=>exact k
 | cons la e h ho hn _ ih=>exact .cons la e h ho hn ih
theorem Zm.len (h:Zm bad G ps vs):vs.length=ps.length:=by
 induction h with
 | nil=>rfl
 | cons _ _ _ _ _ _ ih=>exact congrArg (· + 1) ih
theorem Zy.x (h:Zy G0 G ps vs)(hb:∀a∈bad,(G0 a).isSome=true):Zm bad G ps vs:=by
 induction h with
 | nil=>exact .nil
 | cons h _ ih=>obtain⟨la,e,h,ho,hn⟩:=h;exact .cons la e h ho (λq=>by have:=hb _ q;rw[hn] at this;cases this) ih
theorem Zm.rv (h:Zm bad G ps vs):Zk G ps vs:=by
 induction h with
 | nil=>exact .nil
 | cons la e h ho hn _ ih=>exact .cons ⟨la,e,h,ho⟩ ih
end
structure PtH (G:Gh)(N:Nat)(qs:List (List PS))(as:List Addr):Prop where
 len:as.length=qs.length
 at_:∀(i:Nat) a ps,as[i]?=some a->qs[i]?=some ps->∃vs,G a=some (.list vs)/\Zm as G ps vs/\vs.length<=N
theorem PtH.ext (h:PtH G N qs as)(x:Ext G G'):PtH G' N qs as:=⟨h.len,λi a ps h1 h2=>by
 refine zU (h.at_ i a ps h1 h2) λvs e r l=>?_;exact⟨vs,x _ _ e,r.off λa o _ e=>x a o e,l⟩⟩
theorem PtH.df {N:Nat}:∀{qs:List (List PS)} {as:List Addr},as.length=qs.length->(∀(i:Nat) a ps,as[i]?=some a->qs[i]?=some ps->RowL G ps a)->RLs G qs as:=λ{qs}=>by
 induction qs with
 | nil=>exact λh _=>by rw[List.eq_nil_of_length_eq_zero h];exact .nil
 | cons q qs ih=>
  intro as h k;cases as with
  | nil=>cases h
  | cons a as=>exact .cons (k 0 a q rfl rfl) (ih (Nat.succ.inj h) λi b ps h1 h2=>k (i+1) b ps h1 h2)
theorem PtH.R (h:PtH G N qs as):RLs G qs as:=PtH.df (N:=N) h.len λi a ps h1 h2=>by
 refine zU (h.at_ i a ps h1 h2) λvs e r _=>?_;exact⟨vs,e,r.rv⟩
theorem PtH.set (h:PtH G N qs as)(hnd:as.Nodup)(ha:as[i]?=some a)(hp:qs[i]?=some ps)(x:Ext1 a G G')(e0:G a=some (.list vs))(e:G' a=some (.list (vs++ws)))(hw:Zm as G new ws)(hk:ws.length<=k):PtH G' (N+k) (qs.set i (ps++new)) as:=by
 have ham:=mem_of_getElem? ha;have off:∀z o,z∉as->G z=some o->G' z=some o:=λz o hz=>x z o λq=>hz (q▸ham);refine⟨by rw[length_set];exact h.len,λj b rs h1 h2=>?_⟩;by_cases q:i=j
 ·subst q;rw[ha] at h1;cases h1;rw[List.getElem?_set_self (List.getElem?_eq_some_iff.mp hp).1] at h2;cases h2;refine zU (h.at_ i a ps ha hp) λvs' e' r l=>?_;rw[e0] at e';cases e';exact⟨_,e,(r.append hw).off off,by rw[length_append];exact add_le_add l hk⟩
 ·rw[List.getElem?_set_ne q] at h2;refine zU (h.at_ j b rs h1 h2) λvs' e' r l=>?_;refine⟨vs',x _ _ (λz=>q ?_) e',r.off off,le_trans l (le_add_right ..)⟩;subst z;exact(List.getElem?_inj (List.getElem?_eq_some_iff.mp ha).1 hnd).mp (ha.trans h1.symm)
theorem zCE {l:List Int}{i:Nat}(h:i<l.length):zy (l.map Val.int) (i:Int)=some (.int (l.getD i 0)):=by rw[getD_eq_getElem?_getD];rw[getElem?_eq_getElem h];exact zY (getElem?_eq_getElem h)
theorem zJQ {l:List Int}(h:3<=l.length):slice l (some 3) none=l.drop 3:=by
 have e1:kms_lo (some (3:Int)) l.length=3:=by
  show (if (3:Int)<0 then l.length - (-(3:Int)).toNat else min (3:Int).toNat l.length)=3;rw[if_neg ()];exact Nat.min_eq_left h
 unfold slice;rw[e1];exact List.take_of_length_le (by rw[length_drop];exact le_refl _)
theorem mod3 (i:Nat):Int.fmod (i:Int) 3=((i % 3:Nat):Int):=by rw[Int.fmod_eq_emod_of_nonneg _ ()];rfl
theorem zGD (ok:SlOK sl)(hd:SlD sl)(k:Int):(vh sl k).length<=2:=by
 have h:=(zF2 ok hd k).wt;have key:∀ps:List PS,ps.length<=wtS ps:=λps=>by
  induction ps with
  | nil=>exact le_refl _
  | cons p ps ih=>rw[wc];rw[length_cons];rw[Nat.add_comm];exact add_le_add (uf p) ih
 exact le_trans (key _) h
theorem Z2.dP (bad:List Addr)(h:Z2 X n sc es m G ps)(hb:∀a∈bad,(G a).isSome=true)(k:∀a vs G',G a=none->Ext G G'->G' a=some (.list vs)->Zm (a::bad) G' ps vs->Q (.ref a) G')(hl:Nat.ble ps.length 1000=true:=by rfl):Sn X n sc (.List es pos) m G Q:=
 Sn.listE (h G _ .refl λvs G1 x1 r1=>⟨by rw[r1.length];exact hl,λa G2 ha x2 e2=>k a vs G2 (x1.none ha) (x1.trans x2) e2 (((r1.x hb).more ha).off λz o _ e=>x2 z o e)⟩)
theorem Zm.sub (h:Zm bad G ps vs)(k:∀x∈bad',x∈bad):Zm bad' G ps vs:=by
 induction h with
 | nil=>exact .nil
 | cons la e h ho hn _ ih=>exact .cons la e h ho (λq=>hn (k _ q)) ih
theorem Sn.cw (op:Nat)(args:List Opd)(h1:Rd X n sc e1 m G (.str (opS op)))(h2:Rds X n sc es m G (args.map opdV))(h3:∀G',Ext G G'->Sn X n sc e3 m G' λw G2=>Ext G' G2/\∀v,EndV G2 ⟨op,-1,args,w,false⟩ v->Q v G2)
  (hl:Nat.ble (args.map opdV).length 1000=true:=by rfl) (ho:Nat.blt op 36=true:=by rfl) (n1:NS e1:=by intro _ _;rfl) (n3:NS e3:=by intro _ _;rfl):Sn X n sc (.Tuple [e1,.List es lp,e3] k pos) m G Q:=
 Sn.tup (SnEs.cons (h1.to (SnEs.cons (Sn.aJ h2 (λla G' hla x l1=>SnEs.cons ((h3 G' x).mono λw G2 q=>SnEs.nil ⟨by show 3<cap;decide,q.2 _ ⟨la,rfl,q.1 _ _ l1,Nat.le_of_ble_eq_true ho⟩⟩) (n3 _)) hl) (λ_=>rfl))) (n1 _))
theorem PtH.some {N:Nat}{qs:List (List PS)}{as:List Addr}(h:PtH G N qs as):∀a∈as,(G a).isSome=true:=λa ha=>by
 obtain⟨i,hi⟩:=List.getElem?_of_mem ha;have hl:=(List.getElem?_eq_some_iff.mp hi).1;obtain⟨vs,e,_⟩:=h.at_ i a _ hi (getElem?_eq_getElem (by rw[<-h.len];exact hl));rw[e];rfl
end
section
variable {X:Cx}{n:Nat}{G:Gh}{sc:Scope}{os os' os'':List (Option Val)}{m:M}{v w:Val}
abbrev pgL (nu:Addr)(pl sa ea pa nm la:Option Val):M:=L wA [some (.ref nu),pl,sa,ea,pa,nm,la,none,none,none]
inductive SzI (G0:Gh)(n0:Int)(xs acc:List Val)(G:Gh):Prop where
 | mk (i:Nat) (hi:i<=4) (e1:xs=rg i 4) (e2:acc=((List.range i).map (zBL n0)).map wX) (x:G=G0)
theorem p4_d (hi:i<4):(4:Int) ^ i≠0/\((4:Int) ^ i).natAbs<8589934592:=(by decide +kernel:∀k:Fin 4,(4:Int) ^ k.1≠0/\((4:Int) ^ k.1).natAbs<8589934592) ⟨i,hi⟩
theorem Rd.p4 {i:Nat}{kd:Nat}(h:Rd X n sc e m G (.int i))(hi:i<=8):Rd X n sc (.BinOp (.Constant (.int 4) kd p) .Pow e pos) m G (.int (4 ^ i)):=.bin .int h (.pow (natCast_nonneg i) (Int.le_trans (Int.ofNat_le.mpr hi) ()) () qA)
theorem zFy (h:0<=i/\i<4):zy [Val.tup [.int 1,.int 1],.tup [.int 2,.int 2],.tup [.int 4,.int 4],.tup [.int 8,.int 4]] i=some (wX (zFz.getD i.toNat (0,0))):=by rcases i4 h.1 h.2 with rfl | rfl | rfl | rfl<;>rfl
structure PgR (G0 G:Gh)(ns:List Int)(pa ea sa:Addr)(as:List Addr):Prop where
 ex:Ext G0 G
 pt:G pa=some (.list (as.map .ref))
 rl:RLs G (vB (zz (ns.getD 0 0)) ns) as
 sl:G sa=some (.list ((zz (ns.getD 0 0)).map wX))
 en:∃e0 e1 e2,G ea=some (.list [e0,e1,e2])/\EndV G ⟨32,-1,[],.int 1,false⟩ e0/\EndV G ⟨33,-1,[(true,9)],.tup [.int 1,.int 2],false⟩ e1/\EndV G ⟨35,-1,[zB6 (ns.getD 2 0)],.int 0,false⟩ e2
theorem zGO (h1:G a=some (.list x))(r1:Zm [a,b,c] G p x)(l1:x.length<=N)(h2:G b=some (.list y))(r2:Zm [a,b,c] G q y)(l2:y.length<=N)(h3:G c=some (.list z))(r3:Zm [a,b,c] G r z)(l3:z.length<=N):PtH G N [p,q,r] [a,b,c]:=⟨rfl,λi t ps e1 e2=>by
 cases i with
 | zero=>cases e1;cases e2;exact⟨_,h1,r1,l1⟩
 | succ i=>cases i with
 | zero=>cases e1;cases e2;exact⟨_,h2,r2,l2⟩
 | succ i=>cases i with
 | zero=>cases e1;cases e2;exact⟨_,h3,r3,l3⟩
 | succ i=>cases e1⟩
def PgI (G0:Gh)(sl:Za)(ns:List Int)(nu sa ea pa:Addr)(as:List Addr)(a:Addr)(xs:List Val)(i:Nat)(js:List Int)(m:M)(G:Gh):Prop:=
 ∀C:M->Prop,(∀(pl nm:Option Val) (qs:List (List PS)),Ext G0 G->G a=some (.list xs)->G nu=some (.list (ns.map .int))->G sa=some (.list (sl.map wX))->G pa=some (.list (as.map .ref))->PtH G (8+2 * i) qs as->qs.length=3->vO sl i js qs=vt sl ns->i+js.length=ns.length - 3->C (pgL nu pl (some (.ref sa)) (some (.ref ea)) (some (.ref pa)) nm none))->C m
theorem zIA (la:a<=8+2 * i)(hw:b<=2)(hi:i+(j+1)=k - 3)(hk:k<=15):a+b<cap:=by have h1:i<=12:=le_trans (le_add_right i _) (hi▸Nat.sub_le_sub_right hk 3);exact lt_of_le_of_lt (add_le_add (le_trans la (add_le_add_left (Nat.mul_le_mul_left 2 h1) 8)) hw) ()
theorem v6 {ns:List Int}(T:Tops X)(hn:G nu=some (.list (ns.map .int)))(ok:NsOK ns)(kk:∀pa ea sa as G',PgR G G' ns pa ea sa as->Q (.tup [.ref pa,.ref ea,.ref sa]) G'):Cal X (n+2) yS [.ref nu] G Q:=by
 refine Cal.start (T.d 27 rfl) rfl rfl ?_;have hlo:=ok.lo;have hhi:=ok.hi;refine .cons (SnS.aQ (by decide +kernel) (.range T.blt () (λ_ _=>rfl) (Rds.to (vs:=[.int 4]) (.cons .int .nil) ⟨4,rfl,(),(),SzI G (ns.getD 0 0),.cap (sc':=jz) [none,none,none,some (.ref nu)] ⟨λv xs acc G1 hI=>?_,λacc G1 hI=>?_⟩ (capn (capn (capn (capv ⟨by walk_at"0",by walk_at"0",()⟩ cap0)))),⟨0,(),jb 4,rfl,rfl⟩⟩)))
 ·obtain⟨i,hi,e0,rfl,rfl⟩:=hI;have hlt:i<4:=lt_of_not_le λq=>by rw[zCl q] at e0;cases e0
  rw[jO hlt] at e0;obtain⟨rfl,rfl⟩:=List.cons.inj e0;obtain⟨d1,d2⟩:=p4_d hlt;have mm:=fm (x:=Int.fdiv (ns.getD 0 0) (4 ^ i)) (k:=4) ();refine⟨trivial,_,Upd.aM (),.nil ⟨λ_=>?_,λq=>nomatch q⟩⟩;exact Rd.to (v:=wX (zBL (ns.getD 0 0) i)) (.aW (.glob T.g_law_SIZES ()) (.aO (.bin (.aF () hn .int () (zCE (i:=0) (lt_of_lt_of_le () hlo))) (.p4 () (le_trans (le_of_lt hlt) ())) (.fdiv d1 d2 qA))) (zA3 mm ()) (zFy mm)) ⟨i+1,hlt,rfl,by rw[range_succ];rw[List.map_append];rw[List.map_append];rfl,rfl⟩
 ·obtain⟨i,hi,e0,rfl,rfl⟩:=hI
  have:i=4:=le_antisymm hi (le_of_not_lt λq=>by rw[jO q] at e0;cases e0);subst this;refine⟨trivial,NewL.nl λsa G2 hsa x2 e2=>⟨_,Upd.put (),.next ?_⟩⟩;have e2:G2 sa=some (.list ((zz (ns.getD 0 0)).map wX)):=e2;have sok:=zA4 (ns.getD 0 0);have sld:=zES (ns.getD 0 0);have hDr:vt (zz (ns.getD 0 0)) ns=vO (zz (ns.getD 0 0)) 0 (ns.drop 3) [zo (ns.getD 2 0),[],[]]:=rfl;have hPt:vB (zz (ns.getD 0 0)) ns=(vt (zz (ns.getD 0 0)) ns).set 1 ((vt (zz (ns.getD 0 0)) ns).getD 1 []++[subP]):=rfl;have kk:∀pa ea as G',Ext G2 G'->G' pa=some (.list (as.map .ref))->RLs G' (vB (zz (ns.getD 0 0)) ns) as->(∃e0 e1 e2,G' ea=some (.list [e0,e1,e2])/\EndV G' ⟨32,-1,[],.int 1,false⟩ e0/\EndV G' ⟨33,-1,[(true,9)],.tup [.int 1,.int 2],false⟩ e1/\EndV G' ⟨35,-1,[zB6 (ns.getD 2 0)],.int 0,false⟩ e2)->Q (.tup [.ref pa,.ref ea,.ref sa]) G':=λpa ea as G' x h1 h2 h3=>kk pa ea sa as G' ⟨x2.trans x,h1,h2,x _ _ e2,h3⟩;have n2:=x2 _ _ hn;generalize hsl:zz (ns.getD 0 0)=sl at *;clear hn x2 e0 hi;generalize hn2:ns.getD 2 0=z2 at *;have rn:∀{G':Gh} {os:List (Option Val)} {p1 p2 p3:Pos} {kd:Nat},Ext G2 G'->Loc wA.names os "numbers" (.ref nu)->Rd X (n+1) wA (.Subscript (.Name "numbers" p1) (.Constant (.int 2) kd p2) p3) (L wA os) G' (.int z2):=λx h=>hn2▸.aF (.var h) (x _ _ n2) .int () (zCE (i:=2) (lt_of_lt_of_le () hlo));refine SnB.aB (Z2.dP [sa,nu] (ps:=zo z2) ?_ (zB (by rw[e2];rfl) (zB (by rw[n2];rfl) zH)) λea vs G3 h3 x3 e3 r3=>⟨_,(),?_⟩)
  ·unfold zo zCJ;exact .cons (by walk_at"d") (.cons (by walk_at"d") (.cons (by walk_at"d") (.cons (by walk_at"d") (.cons (by walk_at"d") (.cons (.cB (vs:=[opdV (false,Int.fmod z2 256)]) (λ_ _=>.str) (λ_ _=>.int) (λ_ x=>.cons (.tup (.cons .str (.cons (.aO (rn x ())) .nil))) .nil) (λ_ _=>.int) (λ_ _=>.av) rfl rfl rfl) (.cons (by walk_at"d") (.cons (.cB (vs:=[opdV (false,1+Int.fmod (Int.fdiv z2 3) 2)]) (λ_ _=>.str) (λ_ _=>.int) (λ_ x=>.cons (.tup (.cons .str (.cons (.bin .int (.aO (.ao (rn x ()))) (.add qA)) .nil))) .nil) (λ_ _=>.int) (λ_ _=>.av) rfl rfl rfl) .nil)))))))
  have l3:vs.length=8:=r3.len;refine SnB.aB (Sn.listE (SnEs.cons (Rd.to (v:=.ref ea) () (SnEs.cons (Sn.aJ .nil λa1 G4 f1 x4 e4=>SnEs.cons (Sn.aJ .nil λa2 G5 f2 x5 e5=>SnEs.nil ⟨rfl,λpa G6 f6 x6 e6=>⟨_,(),?_⟩⟩) (λ_=>rfl)) (λ_=>rfl))) (λ_=>rfl)));have x36:Ext G3 G6:=x4.trans (x5.trans x6);have n1:a1≠ea:=λq=>by rw[q] at f1;rw[e3] at f1;cases f1
  have n3:a2≠ea:=λq=>by rw[q] at f2;rw[x4 _ _ e3] at f2;cases f2
  have n4:a2≠a1:=λq=>by rw[q] at f2;rw[e4] at f2;cases f2
  have nd:[ea,a1,a2].Nodup:=yh (ze n1.symm (ze n3.symm jL)) (yh (ze n4.symm jL) (yh jL .nil));have rr1:Zm [ea,a1,a2] G5 (zo z2) vs:=((((r3.more f1).off λz o _ q=>x4 z o q).more f2).off λz o _ q=>x5 z o q).sub (zB (.tail _ (.tail _ (.head _))) (zB (.tail _ (.head _)) (zB (.head _) zH)));have pt5:PtH G5 8 [zo z2,[],[]] [ea,a1,a2]:=zGO ((x4.trans x5) _ _ e3) rr1 (by rw[l3];decide) (x5 _ _ e4) .nil (zero_le _) e5 .nil (zero_le _);have pt:=pt5.ext x6;have x26:=x3.trans x36;have hf:∀z∈[ea,a1,a2],G2 z=none:=zB h3 (zB (x3.none f1) (zB ((x3.trans x4).none f2) zH));have hpa:pa∉[ea,a1,a2]:=λq=>by have:=pt5.some _ q;rw[f6] at this;cases this
  have n26:=x26 _ _ n2;have s26:=x26 _ _ e2;have hnu:nu∉[ea,a1,a2]:=λq=>by have:=hf _ q;rw[n2] at this;cases this
  have hsa':sa∉[ea,a1,a2]:=λq=>by have:=hf _ q;rw[e2] at this;cases this
  clear x36 n1 n3 n4 rr1 l3 f1 f2 e4 e5 x4 x5 r3 h3 pt5 f6 x6 e3 x3;have e6:G6 pa=some (.list ([ea,a1,a2].map .ref)):=e6;generalize [ea,a1,a2]=as at *;generalize hq0:[zo z2,[],[]]=qs0 at *;have hq3:qs0.length=3:=by rw[<-hq0];rfl
  refine SnB.a9 .int T.blt () (λ_ _=>rfl) (Sn.slice (Rd.to (v:=.ref nu) () (.some (Rd.int.to ⟨3,rfl,.none (SlOp.list n26 (NewL.nl λla G7 f7 x7 e7=>?_))⟩))));rw[jx] at e7;rw[zJQ (le_trans () hlo)] at e7;have hla:la∉as:=λq=>by have:=pt.some _ q;rw[f7] at this;cases this
  refine⟨la,ns.drop 3,rfl,e7,PgI G2 sl ns nu sa ea pa as la ((ns.drop 3).map .int),λ_ k=>k _ _ qs0 (x26.trans x7) e7 (x7 _ _ n26) (x7 _ _ s26) (x7 _ _ e6) (pt.ext x7) hq3 hDr.symm (by rw[length_drop];exact zero_add _),λi r m G8 hI=>hI (λ_=>_) λ_ _ _ _ hx _ _ _ _ _ _ _=>hx,λi j js m G8 QT hI hN _=>?_,λi m G8 hI=>?_⟩
  ·clear kk pt e6 n26 s26 hq0 hq3 e7 f7 x7 hDr hPt rn;apply hI;intro pl nm qs x hx hn' hs' hp h hq hg hi;refine⟨_,.tup (.two () ()),?_⟩;have hk:i % 3<3:=mod_lt i ();obtain⟨a,ha⟩:∃a,as[i % 3]?=some a:=⟨_,getElem?_eq_getElem (by rw[h.len];rw[hq];exact hk)⟩
   have hps:qs[i % 3]?=some (qs.getD (i % 3) []):=by rw[getD_eq_getElem?_getD];rw[getElem?_eq_getElem (by rw[hq];exact hk)];rfl
   refine zU (h.at_ _ _ _ ha hps) λvs ea' ra la'=>?_;have hat:zy (as.map Val.ref) (Int.fmod (i:Int) 3)=some (.ref a):=by
    have:=zY (f:=Val.ref) ha;rw[mod3];exact this
   have ham:=mem_of_getElem? ha;refine SnB.expr (Sn.aV .extend (λ_ _=>rfl) (Rd.to (v:=.ref a) (.aF () hp (.aO ()) (by rw[mod3];exact(show i % 3<cap from lt_of_lt_of_le hk ())) hat) ⟨.list ea',SnEs.cons (Sn.ref (T.f 23 rfl) () (λ_ _=>rfl) () (zBt T hs' sok.len λra G3 x3 r3=>SnEs.nil ?_)) (λ_=>rfl)⟩));obtain⟨ws,er,rr⟩:=r3;have hw:=zGD sok sld j;rw[<-rr.length] at hw;exact Meth.extend (x3 _ _ ea') er (zIA la' hw hi hhi) (.nil (hN λ_ k=>k _ _ (qs.set (i % 3) (qs.getD (i % 3) []++vh sl j)) ((x.trans x3).fresh (hf _ ham) .upd) (Ext1.upd _ _ (λq=>hla (q▸ham)) (x3 _ _ hx)) (Ext1.upd _ _ (λq=>hnu (q▸ham)) (x3 _ _ hn')) (Ext1.upd _ _ (λq=>hsa' (q▸ham)) (x3 _ _ hs')) (Ext1.upd _ _ (λq=>hpa (q▸ham)) (x3 _ _ hp)) ((h.ext x3).set (k:=2) nd ha hps .upd (x3 _ _ ea') (Gh.aA ..) (rr.x h.some) hw) (by rw[length_set];exact hq) hg (zEK.symm.trans hi)))
  ·apply hI;intro pl nm qs x hx hn' hs' hp h hq hg hi;have hg:qs=vt sl ns:=hg;subst hg;obtain⟨a,ha⟩:∃a,as[1]?=some a:=⟨_,getElem?_eq_getElem (by rw[h.len];rw[hq];decide)⟩
   have hps:(vt sl ns)[1]?=some ((vt sl ns).getD 1 []):=by rw[getD_eq_getElem?_getD];rw[getElem?_eq_getElem (by rw[hq];decide)];rfl
   refine zU (h.at_ _ _ _ ha hps) λvs ea' ra la'=>?_;have ham:=mem_of_getElem? ha;have i12:i<=12:=by
    have hi:i+0=ns.length - 3:=hi;exact le_trans (le_of_eq hi) (Nat.sub_le_sub_right hhi 3)
   clear e6 f7 x7 e7 hx pt hDr hq0 hq3 hi n26 s26 rn;refine SnB.expr (Sn.aV .append (λ_ _=>rfl) (Rd.to (v:=.ref a) (.aF () hp .int () (zY (f:=Val.ref) ha)) ⟨.list ea',SnEs.cons (RowE.go (p:=subP) (by unfold subP;walk_at"d") λv G3 x3 r3=>SnEs.nil (Meth.cJ (x3 _ _ ea') (le_trans la' (le_trans (add_le_add_left (Nat.mul_le_mul_left 2 i12) 8) ())) λG4 x4 e4=>?_)) (λ_=>rfl)⟩));have rx:Zm as G3 [subP] [v]:=by
    obtain⟨lz,ez,hz,ho,hfz⟩:=r3;exact .cons lz ez hz ho (λq=>by have:=h.some _ q;rw[hfz] at this;cases this) .nil
   have h4:=(h.ext x3).set (k:=1) nd ha hps x4 (x3 _ _ ea') e4 rx (le_refl 1);rw[<-hPt] at h4;have rls:=h4.R;have x24:Ext G2 G4:=(x.trans x3).fresh (hf _ ham) x4;have p4:=x4 pa _ (λq=>hpa (by rw[q];exact ham)) (x3 _ _ hp);have n4:=x4 nu _ (λq=>hnu (by rw[q];exact ham)) (x3 _ _ hn');clear hPt h4 h ra ea' hps rx x4 e4 r3 x3 hf;refine SnB.aB (Sn.cw 35 [zB6 z2] .str (.cons (.tup (.cons .str (.cons (.bin .int (.aO (hn2▸.aF () n4 .int () (zCE (i:=2) (lt_of_lt_of_le () hlo)))) (.add qA)) .nil))) .nil) λG5 x5=>Rd.int.to ⟨.refl,λv2 hv2=>⟨_,(),?_⟩⟩);refine SnB.aH (Sn.tup (SnEs.cons (Rd.to (v:=.ref pa) () (SnEs.cons (Sn.listE (SnEs.cons (Sn.cw 32 [] .str .nil λG6 x6=>Rd.int.to ⟨.refl,λv0 hv0=>SnEs.cons (Sn.cw 33 [(true,9)] .str (.cons () .nil) λG7 x7=>Rd.to (v:=.tup [.int 1,.int 2]) () ⟨.refl,λv1 hv1=>SnEs.cons (Rd.to (v:=v2) () (SnEs.nil ⟨rfl,λen G8 hen x8 e8=>SnEs.cons (Rd.to (v:=.ref sa) () (SnEs.nil ⟨by show 3<cap;decide,?_⟩)) (λ_=>rfl)⟩)) (λ_=>rfl)⟩) (λ_=>rfl)⟩) (λ_=>rfl))) (λ_=>rfl))) (λ_=>rfl)));have y:=x5.trans (x6.trans (x7.trans x8));exact kk pa en as _ (x24.trans y) (y _ _ p4) (rls.map λ_ _ h=>h.ext y) ⟨v0,v1,v2,e8,hv0.ext (x7.trans x8),hv1.ext x8,hv2.ext (x6.trans (x7.trans x8))⟩
end
section
variable {X:Cx}{n:Nat}{G:Gh}{sc:Scope}{os os' os'':List (Option Val)}{m:M}{v w:Val}
theorem Sn.b8 (T:Tops X)(hk:Zf sc "Func")(hn:Zj [e])(h:Rds X (n+1) sc [e] m G [.str s])
  (k:∀f bl pa fs G',G f=none->G bl=none->G pa=none->f≠bl->f≠pa->pa≠bl->Ext G G'->G' f=some (.inst .func fs)->fs .blocks=some (.ref bl)->fs .params=some (.ref pa)->G' bl=some (.list [])->G' pa=some (.list [])->Q (.ref f) G'):Sn X (n+1) sc (.Call (.Name "Func" p) [e] [] pos) m G Q:=by refine Sn.dJ T.f_Func T.cls hk hn h λb G1 hb x1 b1=>?_;refine Cal.start (T.d 2 rfl) rfl rfl ?_;refine SnB.aY (f:=.name) T.cls (.name) () () b1 λG2 x2 b2=>?_;refine SnB.ay (f:=.params) T.cls () (Sn.aJ .nil λpa G3 hpa x3 s3=>⟨b,.func,_,(),x3 _ _ b2,λG4 x4 b4=>?_⟩);refine SnB.aY (f:=.is_static) T.cls .is_static (v:=.bool false) () () b4 λG5 x5 b5=>?_;refine SnB.ay (f:=.slots) T.cls () (Sn.aJ .nil λsl G6 hsl x6 s6=>⟨b,.func,_,(),x6 _ _ b5,λG7 x7 b7=>?_⟩);refine SnB.ay (f:=.blocks) T.cls () (Sn.aJ .nil λbl G8 hbl x8 s8=>⟨b,.func,_,(),x8 _ _ b7,λG9 x9 b9=>?_⟩);refine SnB.aY (f:=.registers) T.cls .registers (v:=.int 0) () () b9 λG10 x10 b10=>?_;refine SnB.aY (f:=.has_value) T.cls .has_value (v:=.bool false) () () b10 λG11 x11 b11=>?_;have y2:=x1.fresh hb x2;have y7:=(((y2.trans x3).fresh hb (x4.trans x5)).trans x6).fresh hb x7;have bs:=ne_new b7 hbl;have bp:=ne_new b2 hpa;have x911:=(x9.trans x10).trans x11;have p7:=x7 _ _ bp.symm (x6 _ _ ((x4.trans x5) _ _ bp.symm s3));exact .nil (.next ⟨rfl,k b bl pa _ G11 hb (y7.none hbl) (y2.none hpa) bs bp (ne_new p7 hbl) ((y7.trans x8).fresh hb x911) b11 rfl rfl (x911 _ _ (Ne.symm bs) s8) (x911 _ _ bp.symm (x8 _ _ p7))⟩)
theorem Zd.snoc {sts:List Addr}{B:PB}{j:Int}(hs:Zb G sts B.steps)(he:Zg G eo B.fin)(hw:Zt G B.fin B.ways){i:Int}{bs:List Addr}{Bs:List PB}(h:Zd G i bs Bs):j=i+bs.length->Zn G b j sts eo->Zd G i (bs++[b]) (Bs++[B]):=by
 induction h with
 | nil=>intro e hb;rw[show j=_ from(e.trans (add_zero _))] at hb;exact .cons hb hs he hw .nil
 | @cons i' _ _ _ bs' _ _ a1 a2 a3 a4 _ ih=>intro e hb;exact .cons a1 a2 a3 a4 (ih (by rw[e];rw[length_cons];rw[Int.natCast_add];show i'+((bs'.length:Int)+1)=_;lia) hb)
theorem zIT {α:Type}{a:α}{l:List α}(h:l.Nodup)(k:a∉l):(l++[a]).Nodup:=List.nodup_append.mpr ⟨h,yh jL .nil,λx hx y hy q=>k (by rw[mem_singleton] at hy;rw[<-hy];rw[<-q];exact hx)⟩
theorem zIS (e:(G a).isSome=true)(h:G c=none):a≠c:=λq=>by rw[q] at e;rw[h] at e;cases e
inductive Mk4 (G:Gh):List PB->List Addr->List Val->Prop
 | nil:Mk4 G [] [] []
 | cons {B:PB} {Bs:List PB} {a:Addr} {as:List Addr} {v:Val} {vs:List Val} (h1:RowL G B.steps a) (h2:EndV G B.fin v) (h3:Zt G B.fin B.ways) (h4:B.fin=⟨B.fin.op,-1,B.fin.args,B.fin.more,false⟩) (h5:B.fin.args.length<=8) (h6:B.steps.length<=900/\∀p∈B.steps,p.args.length<=8) (t:Mk4 G Bs as vs):Mk4 G (B::Bs) (a::as) (v::vs)
abbrev mdL (pt en sa f:Addr)(nm rw bk op ds ar mo lo ea:Option Val):M:=L uu [some (.ref pt),some (.ref en),some (.ref sa),some (.ref f),nm,rw,bk,op,ds,ar,mo,lo,ea,none,none,none,none,none]
def Md1 (Gb:Gh)(pt en sa f b st bl:Addr)(fs:Fld->Option Val)(nm rw:Option Val)(goal:List PS)(xs:List Val)(m:M)(G:Gh):Prop:=
 ∀C:M->Prop,(∀(op ds ar mo lo ea:Option Val) (ps qs:List PS) (as:List Addr),Ext Gb G->G b=some (.inst .block fs)->G st=some (.list (as.map .ref))->Zk Gb ps xs->(∀H,ExtB [b,st,bl] G H->Zb H as qs)->qs++ps=goal->as.length+ps.length<=900->C (mdL pt en sa f nm rw (some (.ref b)) op ds ar mo lo ea))->C m
def Md2 (G0:Gh)(sl:Za)(pt en sa f bl pa:Addr)(ff:Fld->Option Val)(vs0:List Val)(goal:List PB)(i:Nat)(as:List Addr)(m:M)(G:Gh):Prop:=
 ∀C:M->Prop,(∀(nm rw bk op ds ar mo lo ea:Option Val) (vs:List Val) (ps Bs:List PB) (bs:List Addr),Ext G0 G->G f=some (.inst .func ff)->G pa=some (.list [.int 0,.int 1])->G sa=some (.list (sl.map wX))->G bl=some (.list (bs.map .ref))->Mk4 G0 ps as vs->vs0.drop i=vs->(∀H,ExtB [bl] G H->Zd H 0 bs Bs)->bs.Nodup->(∀b∈bs,(G b).isSome=true)->(∀b∈bs,G0 b=none)->Bs++ps=goal->i=bs.length->bs.length+ps.length<=16->C (mdL pt en sa f nm rw bk op ds ar mo lo ea))->C m
theorem zIl {i:Nat}(h:vs.drop i=v::r):zy vs (i:Int)=some v/\vs.drop (i+1)=r:=by
 have e:vs[i]?=some v:=by rw[<-Nat.add_zero i];rw[<-getElem?_drop];rw[h];rfl
 obtain⟨_,e2⟩:=yl e;rw[h] at e2;refine⟨?_,(List.cons.inj e2).2.symm⟩;unfold zy;rw[if_pos (natCast_nonneg i)];rw[toNat_natCast];exact e
theorem zBu (T:Tops X)(hpt:G pt=some (.list (ptas.map .ref)))(hen:G en=some (.list evs))(hsa:G sa=some (.list (sl.map wX)))(hv:Mk4 G Bs0 ptas evs)(hl16:Bs0.length<=16)
  (kk:∀f bs G',Ext G G'->Zh G' f [0,1] sl bs->Zd G' 0 bs Bs0->bs.Nodup->(∀b∈bs,G b=none)->Q (.ref f) G'):Cal X (n+2) uN [.ref pt,.ref en,.ref sa] G Q:=by
 refine Cal.start (T.d 28 rfl) rfl rfl ?_;refine SnB.aB (Sn.b8 T () (λ_ _=>rfl) () λf bl pa0 fs G1 f1 b1 pa1 nfb nfp npb x1 e1 g1 g2 l1 p1=>⟨_,(),?_⟩);refine SnB.ay (f:=.params) T.cls () (Sn.aJ (vs:=[.int 0,.int 1]) () λpa G2 hpa x2 s2=>⟨f,.func,_,(),x2 _ _ e1,λG3 x3 e3=>?_⟩);refine SnB.aY (f:=.has_value) T.cls .has_value (v:=.bool true) () () e3 λG4 x4 e4=>?_;refine SnB.aY (f:=.registers) T.cls .registers (v:=.int 11) () () e4 λG5 x5 e5=>?_;refine SnB.aY (f:=.slots) T.cls .slots (v:=.ref sa) () () e5 λG7 x7 e7=>?_;have y37:Ext1 f G2 G7:=x3.trans (x4.trans (x5.trans x7));have nfpa:f≠pa:=ne_new e1 hpa;have l7:=y37 _ _ (Ne.symm nfb) (x2 _ _ l1);have p7:=y37 _ _ (Ne.symm nfpa) s2;have y7:Ext G G7:=(x1.trans x2).fresh f1 y37;have npb:pa≠bl:=Ne.symm (ne_new l1 hpa);have nsa:bl≠sa:=λq=>by rw[q] at b1;rw[hsa] at b1;cases b1
 have s7:=y7 _ _ hsa;obtain⟨ff,e7,fi⟩:∃ff,G7 f=some (.inst .func ff)/\Yn ff pa sa bl:=⟨_,e7,rfl,rfl,g1⟩
 clear y37 x2 x3 x4 x5 x7 e3 e4 e5 e1 g1 g2 l1 p1 x1 s2 hpa;refine SnB.a9 .ref T.blt () (λ_ _=>rfl) (Rd.to (v:=.ref pt) () ⟨pt,ptas,rfl,y7 _ _ hpt,Md2 G sl pt en sa f bl pa ff evs Bs0,λ_ k=>k none none none none none none none none none evs Bs0 [] [] y7 e7 p7 s7 l7 hv rfl (λ_ _=>.nil) .nil zH zH rfl rfl (le_trans (le_of_eq (zero_add _)) hl16),λi r m G8 hI=>hI (λ_=>_) λ_ _ _ _ _ _ _ _ _ _ _ _ _ x _ _ _ _ _ _ _ _ _ _ _ _ _=>x _ _ hpt,λi rl as m G8 QT hI hN _=>?_,λi m G8 hI=>?_⟩)
 ·clear y7 e7 p7 s7 l7 hv hl16 kk;apply hI;intro nm rw_ bk op ds ar mo lo ea vs ps' Bs bs x hf hpa hsa8 hbl hp hvs hS nd ex fr hg hi hl;cases hp with | @cons B ps' rl as ve vs hp1 hp2 hp3 hp4 hp5 hp6 hp=>
  obtain⟨rvs,r1,r2⟩:=hp1;obtain⟨el,rfl,el1,elo⟩:=hp2;obtain⟨hat,hvs⟩:=zIl hvs;refine⟨_,.tup (.two () ()),?_⟩;refine SnB.aB (Sn.newBlock T () (λ_ _=>rfl) () λb st fb G9 hb hst nbs x9 b9 fb1 fb2 st9=>⟨_,(),?_⟩);refine SnB.cH (a:=rl) () (x9 _ _ (x _ _ r1)) (Md1 G8 pt en sa f b st bl fb (some (.int i)) (some (.ref rl)) B.steps) (λ_ k=>k op ds ar mo lo ea B.steps [] [] x9 b9 st9 (r2.ext x) (λ_ _=>.nil) rfl (le_trans (le_of_eq (zero_add _)) hp6.1)) (λv xs m G10 hI=>?_) (λm G10 hI=>?_) λxs m G10 hI=>hI (λ_=>_) λ_ _ _ _ _ _ _ _ _ h _ _ _ _ _ _=>h _ _ (x _ _ r1)
  ·clear hN x9 b9 st9;apply hI;intro op ds ar mo lo ea qs' qs as' x10 hb10 hst10 hr hS1 hg1 hl1;cases hr with | @cons q qs' _ _ hq hr=>
   obtain⟨la,rfl,la1,qo⟩:=hq;have la1:=x10 _ _ la1;have hbl10:=x10 _ _ hbl;refine⟨_,.tup (.cons (Upd.aM ()) (.cons (Upd.aM ()) (.cons (Upd.aM ()) (.cons (Upd.aM ()) (.cons (Upd.aM ()) .nil))))),.abs λQU hM _=>?_⟩;have hqm:q∈B.steps:=by rw[<-hg1];exact mem_append_right _ (.head _)
   have hqw:=hp6.2 q hqm;refine SnB.aB (Sn.bE (s:=q) T () (λ_ _=>rfl) (SnEs.cons (Rd.to (v:=.str (opS q.op)) () (SnEs.cons (Rd.to (v:=.int q.dst) () (SnEs.cons (Sn.ty (id:="list") T.blt () () () (λ_ _=>rfl) (Rds.to (vs:=[.ref la]) () (Blt.ak la1 (by rw[length_map];exact le_trans hqw ()) λlb G11 hlb x11 l11=>SnEs.cons (Rd.to (v:=q.more) () (SnEs.nil ⟨lb,rfl,λa fa G12 ha x12 fa1 a12=>⟨_,(),?_⟩⟩)))))))))));refine SnB.aY (f:=.is_volatile) T.cls () (v:=.bool q.vol) () () a12 λG13 x13 a13=>?_;have y13:Ext G10 G13:=(x11.trans x12).fresh (x11.none ha) x13;have st13:=y13 _ _ hst10;have b13:=y13 _ _ hb10;have lb13:G13 lb=_:=x13.kind a12 (x12 _ _ l11);have nlb:=ne_new hst10 hlb;have nlb2:=ne_new hbl10 hlb;refine SnB.bF (a:=st) (v:=.ref a) (.attr T.cls .steps () b13 fb2) st13 () (by rw[length_map];exact zAJ hl1 ()) λG14 x14 st14=>?_;have y14:Ext G8 G14:=(x10.trans y13).fresh hst x14;have abl:a≠bl:=Ne.symm (ne_new (x11 _ _ hbl10) ha);refine .nil (hM λ_ k=>k _ _ _ _ _ _ qs' (qs++[q]) (as'++[a]) y14 (x14.kind st13 b13) (by rw[st14];rw[List.map_append];rfl) hr (λH xH=>?_) (by rw[<-hg1];rw[append_assoc];rfl) (zA2 hl1));have xx:ExtB [b,st,bl] G13 H:=(x14.bP (.tail _ (.head _))).trans xH;have ab:=Ne.symm (ne_new (x11 _ _ hb10) ha);have lbb:=Ne.symm (ne_new hb10 hlb);have nin:∀{z:Addr},z≠b->z≠st->z≠bl->z∉[b,st,bl]:=λh0 h1 h2=>ze h0 (ze h1 (ze h2 jL));exact(hS1 H (y13.bP.trans xx)).snoc ⟨⟨_,lb,xx _ _ (nin ab (vF st13 a13) abl) a13,⟨fa1.op,fa1.dst,fa1.args,fa1.more,rfl,fa1.line⟩,xx _ _ (nin lbb (Ne.symm nlb) (Ne.symm nlb2)) lb13⟩,qo⟩
  ·clear x9 b9 st9;apply hI;intro op ds ar mo lo ea qs' qs as' x10 hb10 hst10 hr hS1 hg1 hl1;cases hr;have hg1:qs=B.steps:=by rw[<-hg1];exact(append_nil qs).symm
   subst hg1;have el10:=x10 _ _ (x _ _ el1);have hen10:=x10 _ _ (x _ _ hen);refine .cons (.aP (Rd.to (.aF () hen10 () (by exact(show i<cap from hi▸zDB hl ())) hat) ⟨_,.tup (.cons (Upd.aM ()) (.cons (Upd.aM ()) (.cons (Upd.aM ()) .nil))),.next ?_⟩));refine SnB.ay (f:=.end_) T.cls () (Sn.bE (s:=⟨B.fin.op,-1,B.fin.args,B.fin.more,false⟩) T () (λ_ _=>rfl) (SnEs.cons (Rd.to (v:=.str (opS B.fin.op)) () (SnEs.cons (Rd.to (v:=.int (-1)) () (SnEs.cons (Sn.ty (id:="list") T.blt () () () (λ_ _=>rfl) (Rds.to (vs:=[.ref el]) () (Blt.ak el10 (by rw[length_map];exact le_trans hp5 ()) λlb G11 hlb x11 l11=>SnEs.cons (Rd.to (v:=B.fin.more) () (SnEs.nil ⟨lb,rfl,λeo fa G12 heo x12 fa1 a12=>⟨b,.block,fb,(),x12 _ _ (x11 _ _ hb10),λG13 x13 b13=>?_⟩⟩)))))))))));rw[<-hp4] at fa1;have y12:Ext G10 G12:=x11.trans x12;have y13:Ext G8 G13:=(x10.trans y12).fresh hb x13;have hfb:=ne_new hf hb;have hblb:=ne_new hbl hb;have f13:=y13 _ _ hf;have bl13:=y13 _ _ hbl;refine SnB.bF (a:=bl) (v:=.ref b) (.attr T.cls .blocks () f13 fi.blocks) bl13 () (by rw[length_map];exact zAJ hl ()) λG14 x14 bl14=>?_;have nstbl:st≠bl:=Ne.symm (ne_new hbl hst);have neob:eo≠b:=Ne.symm (ne_new (x11 _ _ hb10) heo);have nlbb:lb≠b:=Ne.symm (ne_new hb10 hlb);have nlbbl:lb≠bl:=Ne.symm (ne_new (x10 _ _ hbl) hlb);have neobl:eo≠bl:=Ne.symm (ne_new (x11 _ _ (x10 _ _ hbl)) heo);have eo13:=x13 _ _ neob a12;have lb13:=x13 _ _ nlbb (x12 _ _ l11);have st13:=x13.kind (y12 _ _ hb10) (y12 _ _ hst10);have bnin:b∉bs:=λz=>zIS (ex b z) hb rfl;have hx14:Ext G G14:=(x.trans y13).fresh b1 x14;refine .nil (hN λ_ k=>k _ _ _ _ _ _ _ _ _ vs ps' (Bs++[B]) (bs++[b]) hx14 (x14.kind bl13 f13) (x14 _ _ npb (y13 _ _ hpa)) (x14 _ _ (Ne.symm nsa) (y13 _ _ hsa8)) (by rw[bl14];rw[List.map_append];rfl) hp hvs (λH xH=>?_) (zIT nd bnin) (λz hz=>?_) (λz hz=>(List.mem_append.mp hz).elim (fr z) λq=>by rw[List.mem_singleton.mp q];exact x.none hb) (by rw[<-hg];rw[append_assoc];rfl) (by rw[length_append];rw[length_singleton];rw[<-hi]) (zA2 hl))
   ·have x1H:ExtB [bl] G13 H:=(x14.bP (.head _)).trans xH;have nin:∀{z:Addr},z≠bl->z∉[bl]:=λh=>ze h jL;have x3H:ExtB [b,st,bl] G10 H:=λz o hz e=>x1H _ _ (nin (zEg (vE (vE hz)))) (x13 _ _ (zEg hz) (y12 _ _ e));have hE:Zt H B.fin B.ways:=hp3.keep λz o _ e=>x1H _ _ (λq=>by rw[List.mem_singleton.mp q] at e;rw[b1] at e;cases e) (y13 _ _ (x _ _ e));exact Zd.snoc (hS1 H x3H) ⟨⟨_,lb,x1H _ _ (nin neobl) eo13,fa1,x1H _ _ (nin nlbbl) lb13⟩,elo⟩ hE (hS H (y13.bP.trans x1H)) (by rw[Int.zero_add];rw[hi]) ⟨_,st,x1H _ _ (nin (Ne.symm hblb)) b13,⟨fb1,fb2,rfl⟩,x1H _ _ (nin nstbl) st13⟩
   ·have hk:∀{w o},G13 w=some o->(G14 w).isSome=true:=λ{w o} e=>by
     by_cases q:w=bl
     ·rw[q];rw[bl14];rfl
     ·rw[x14 _ _ q e];rfl
    rcases List.mem_append.mp hz with hz | hz
    ·obtain⟨o,e⟩:=Option.isSome_iff_exists.mp (ex z hz);exact hk (y13 _ _ e)
    ·rw[List.mem_singleton.mp hz];exact hk b13
 ·apply hI;intro nm rw_ bk op ds ar mo lo ea vs ps' Bs bs x hf hpa hsa8 hbl hp hvs hS nd ex fr hg hi hl;cases hp with | nil=>
  have hg:Bs=Bs0:=by rw[<-hg];exact(append_nil Bs).symm
  subst hg;exact .aH (Rd.to (v:=.ref f) () (kk f bs G8 x ⟨ff,pa,sa,bl,hf,fi,hpa,hsa8,hbl⟩ (hS G8 .refl) nd fr))
end
section
variable {X:Cx}{n:Nat}{G:Gh}{sc:Scope}{os os' os'':List (Option Val)}{m:M}{v w:Val}
theorem Zk.snoc (h:Zk G ps vs)(k:RowV G p v):Zk G (ps++[p]) (vs++[v]):=h.append (.cons k .nil)
inductive LsA (G0:Gh)(goal:List PS)(xs acc:List Val)(G:Gh):Prop where
 | mk (as:List Addr) (ps qs:List PS) (e1:xs=as.map .ref) (x:Ext G0 G) (hs:Zb G0 as ps) (hr:Zk G qs acc) (hg:qs++ps=goal) (hf:∀p∈ps,p.args.length<=8)
inductive LsB (G0:Gh)(goal:List (List PS))(xs acc:List Val)(G:Gh):Prop where
 | mk (i:Int) (bs rls:List Addr) (Bs:List PB) (qs:List (List PS)) (e1:xs=bs.map .ref) (e2:acc=rls.map .ref) (x:Ext G0 G) (hB:Zd G0 i bs Bs) (hr:RLs G qs rls) (hg:qs++Bs.map (·.steps)=goal) (hm:∀B∈Bs,B.steps.length<=900/\∀p∈B.steps,p.args.length<=8)
theorem jG {f:Addr}{pr:List Int}{sl:Za}{bs:List Addr}{Bs:List PB}{Q:QE}(T:Tops X)(hf:Zh G f pr sl bs)(hB:Zd G 0 bs Bs)(ok:FnOK Bs)(kk:∀r rls G',Ext G G'->G' r=some (.list (rls.map .ref))->RLs G' (lstB Bs) rls->Q (.ref r) G'):Cal X (n+1) yU [.ref f] G Q:=by
 refine Cal.start (T.d 29 rfl) rfl rfl ?_;obtain⟨ff,fp,fl,fb,f1,⟨g1,g2,g3⟩,f2,f3,f4⟩:=id hf;have hbl:=hB.length;have hfew:=ok.few;refine .aH (Sn.comp (by decide +kernel) (.seq (Rd.to (v:=.ref fb) () ⟨_,_,.list f4,by rw[length_map];unfold cap;lia,LsB G (lstB Bs),.cap (sc':=uB) [none,none] ⟨?_,?_⟩ (capn (capn (cap0))),⟨0,bs,[],Bs,[],rfl,rfl,.refl,hB,.nil,rfl,λB hB=>⟨(ok.blks B hB).len,λp hp=>((ok.blks B hB).wf p hp).few⟩⟩⟩)))
 ·intro v xs acc G2 hI;obtain⟨i,bs',rls,Bs',qs,e1,rfl,x,hB',hr,hg,hm⟩:=hI;refine wF (zt e1) λb bs' eq2 eq3 eq4=>?_;subst eq2;subst eq3;subst eq4;cases hB' with | @cons _ _ eo sts _ B Bs' hb1 hb2 hb3 hb4 hB'=>
  obtain⟨fbb,stl,q1,⟨b1,b2,b3⟩,q3⟩:=hb1;obtain⟨m1,m2⟩:=hm B (.head _);have al:=hb2.length;have q1:=x _ _ q1;refine⟨x _ _ f4,_,Upd.aM (),.nil ⟨λ_=>?_,λq=>nomatch q⟩⟩;refine Sn.comp (by decide +kernel) (.seq (Rd.to (v:=.ref stl) () ⟨_,_,.list (x _ _ q3),?_,LsA G2 B.steps,.cap (sc':=uC) [none,none,none] ⟨?_,?_⟩ (capn (capn (capn (cap0)))),⟨sts,B.steps,[],rfl,.refl,hb2.ext x,.nil,rfl,m2⟩⟩))
  ·rw[length_map];unfold cap;lia
  ·intro v xs acc G3 hI;obtain⟨as,ps,ks,e1,x3,hs,hr3,hg3,hf3⟩:=hI;refine wF (zt e1) λa as eq2 eq3 eq4=>?_;subst eq2;subst eq3;subst eq4;cases hs with | @cons _ p _ ps s1 s2=>
   obtain⟨⟨fs,la,h1,⟨p1,p2,p3,p4,p5,_⟩,h2⟩,ho⟩:=s1.ext x3;have hpl:=hf3 p (.head _);refine⟨x3 _ _ (x _ _ q3),_,Upd.aM (),.nil ⟨λ_=>?_,λq=>nomatch q⟩⟩;refine Sn.tup (SnEs.cons (Rd.to (v:=.str (opS p.op)) () (SnEs.cons (Rd.to (v:=.int p.dst) () (SnEs.cons (Sn.ty (id:="list") T.blt () () () (λ_ _=>rfl) (Rds.to (vs:=[.ref la]) () (Blt.ak h2 (by rw[length_map];lia) λlb G4 hlb x4 l4=>?_))))))));have h1':=x4 _ _ h1;exact SnEs.cons (Rd.to (v:=p.more) () (SnEs.cons (Rd.to (v:=.bool p.vol) () (SnEs.nil ⟨by show 5<cap;decide,as,ps,ks++[p],rfl,x3.trans x4,s2,(hr3.ext x4).snoc ⟨lb,rfl,l4,ho⟩,by rw[<-hg3];rw[append_assoc];rfl,zL hf3⟩))))
  ·intro acc G3 hI;obtain⟨as,ps,ks,e1,x3,hs,hr3,hg3,hf3⟩:=hI;obtain rfl:=wM e1;cases hs;have hg3:ks=B.steps:=by rw[<-hg3];exact(append_nil ks).symm
   subst hg3;refine⟨x3 _ _ (x _ _ q3),NewL.nl λr G4 hr4 x4 e4=>⟨i+1,bs',rls++[r],Bs',qs++[B.steps],rfl,by rw[List.map_append];rfl,x.trans (x3.trans x4),hB',(hr.map λ_ _ h=>h.ext (x3.trans x4)).snoc ⟨acc,e4,hr3.ext x4⟩,by rw[<-hg];rw[append_assoc];rfl,zL hm⟩⟩
 ·intro acc G2 hI;obtain⟨i,bs',rls,Bs',qs,e1,rfl,x,hB',hr,hg,_⟩:=hI;obtain rfl:=wM e1;cases hB';have hg:qs=lstB Bs:=by rw[<-hg];exact(append_nil qs).symm
  subst hg;exact⟨x _ _ f4,NewL.nl λr G3 hr3 x3 e3=>kk r rls G3 (x.trans x3) e3 (hr.map λ_ _ h=>h.ext x3)⟩
inductive EnsV (G:Gh):List PB->List Val->Prop
 | nil:EnsV G [] []
 | cons {B:PB} {Bs:List PB} {v:Val} {vs:List Val} (h:EndV G B.fin v) (t:EnsV G Bs vs):EnsV G (B::Bs) (v::vs)
theorem EnsV.ext {Bs:List PB}{vs:List Val}(h:EnsV G Bs vs)(x:Ext G G'):EnsV G' Bs vs:=by
 induction h with
 | nil=>exact .nil
 | cons a _ ih=>exact .cons (a.ext x) ih
theorem EnsV.snoc {B:PB}{Bs:List PB}{v:Val}{vs:List Val}(h:EnsV G Bs vs)(k:EndV G B.fin v):EnsV G (Bs++[B]) (vs++[v]):=by
 induction h with
 | nil=>exact .cons k .nil
 | cons a _ ih=>exact .cons a ih
inductive LsE1 (G0:Gh)(goal:List PB)(xs acc:List Val)(G:Gh):Prop where
 | mk (i:Int) (bs:List Addr) (Bs Ds:List PB) (e1:xs=bs.map .ref) (x:Ext G0 G) (hB:Zd G0 i bs Bs) (hr:EnsV G Ds acc) (hg:Ds++Bs=goal) (hm:∀B∈Bs,B.fin.args.length<=8)
theorem zBw {pr:List Int}{sl:Za}{bs:List Addr}{Bs:List PB}(T:Tops X)(hf:Zh G f pr sl bs)(hB:Zd G 0 bs Bs)(hl:Bs.length<=16)(h8:∀B∈Bs,B.fin.args.length<=8)(kk:∀r vs G',Ext G G'->G' r=some (.list vs)->EnsV G' Bs vs->Q (.ref r) G'):Cal X (n+1) uP [.ref f] G Q:=by
 refine Cal.start (T.d 30 rfl) rfl rfl ?_;obtain⟨ff,fp,fl,fb,f1,⟨g1,g2,g3⟩,f2,f3,f4⟩:=id hf;have hbl:=hB.length;refine .aH (Sn.comp (by decide +kernel) (.seq (Rd.to (v:=.ref fb) () ⟨_,_,.list f4,by rw[length_map];unfold cap;lia,LsE1 G Bs,.cap (sc':=vd) [none,none,none] ⟨?_,?_⟩ (capn (capn (capn (cap0)))),⟨0,bs,Bs,[],rfl,.refl,hB,.nil,rfl,h8⟩⟩)))
 ·intro v xs acc G2 hI;obtain⟨i,bs',Bs',Ds,e1,x,hB',hr,hg,hm⟩:=hI;refine wF (zt e1) λb bs' eq2 eq3 eq4=>?_;subst eq2;subst eq3;subst eq4;cases hB' with | @cons _ _ eo sts _ B Bs' hb1 hb2 hb3 hb4 hB'=>
  obtain⟨fbb,stl,q1,⟨b1,b2,b3⟩,q3⟩:=hb1;have hpl:=hm B (.head _);have q1:=x _ _ q1;obtain⟨⟨fs,la,h1,⟨p1,p2,p3,p4,p5,_⟩,h2⟩,ho⟩:=hb3.ext x;refine⟨x _ _ f4,_,Upd.aM (),.nil ⟨λ_=>?_,λq=>nomatch q⟩⟩;refine Sn.tup (SnEs.cons (Rd.to (v:=.str (opS B.fin.op)) () (SnEs.cons (Sn.ty (id:="list") T.blt () () () (λ_ _=>rfl) (Rds.to (vs:=[.ref la]) () (Blt.ak h2 (by rw[length_map];lia) λlb G4 hlb x4 l4=>?_))))));have h1':=x4 _ _ h1;have q1':=x4 _ _ q1;exact SnEs.cons (Rd.to (v:=B.fin.more) () (SnEs.nil ⟨by show 3<cap;decide,i+1,bs',Bs',Ds++[B],rfl,x.trans x4,hB',(hr.ext x4).snoc ⟨lb,rfl,l4,ho⟩,by rw[<-hg];rw[append_assoc];rfl,zL hm⟩))
 ·intro acc G2 hI;obtain⟨i,bs',Bs',Ds,e1,x,hB',hr,hg,_⟩:=hI;obtain rfl:=wM e1;cases hB';have hg:Ds=Bs:=by rw[<-hg];exact(append_nil Ds).symm
  subst hg;exact⟨x _ _ f4,NewL.nl λr G3 hr3 x3 e3=>kk r acc G3 (x.trans x3) e3 (hr.ext x3)⟩
end
section
variable {X:Cx}{n:Nat}{G:Gh}{sc:Scope}{os os' os'':List (Option Val)}{m:M}{v w:Val}
theorem SnB.bg (h:SnT X n sc t m G λr' G'=>r'=r/\Ext G G')(ha:r=true->∀G',Ext G G'->SnB X n sc a m G' (Then X n sc sts Q))(hb:r=false->∀G',Ext G G'->SnB X n sc c m G' (Then X n sc sts Q)):SnB X n sc (.If t a c pos::sts) m G Q:=
 .cons (.ifs (h.mono λr' G' q=>⟨λe=>ha (q.1▸e) G' q.2,λe=>hb (q.1▸e) G' q.2⟩))
theorem Zk.get (h:Zk G ps vs):∀{i:Nat} {p:PS},ps[i]?=some p->∃v,vs[i]?=some v/\RowV G p v:=by
 induction h with
 | nil=>intro i p e;cases e
 | cons a _ ih=>
  intro i p e;cases i with
  | zero=>cases e;exact⟨_,rfl,a⟩
  | succ i=>exact ih (i:=i) e
theorem ya {i:Nat}(h:vs[i]?=some v):zy vs (i:Int)=some v:=by unfold zy;rw[if_pos (natCast_nonneg i)];rw[toNat_natCast];exact h
section
variable {sts:List Stmt}{t e:Expr}{p1 p2:Pos}{c:Prop} [Decidable c]
end
theorem zJ1 (ha:a<36)(hb:b<36):(opS a == opS b)=decide (a=b):=by rw[zHT _ ha _ hb];rw[Bool.eq_iff_iff];rw[Nat.beq_eq];rw[decide_eq_true_iff]
theorem RdT.aG (b:Nat)(h:Rd X n sc e m G (.str (opS a)))(ha:a<36)(hs:s=opS b:=by decide +kernel)(hb:b<36:=by decide):RdT X n sc (.Compare e [.Eq] [.Constant (.str s) kd p] pos) m G (decide (a=b)):=
 .cmp h .str (.bH ⟨by rw[hs];rw[zJ1 ha hb],rfl⟩)
theorem zI6 [Decidable c]:Val.int (if c then a else b)=if c then .int a else .int b:=by by_cases q:c;(rw[if_pos q];rw[if_pos q]);(rw[if_neg q];rw[if_neg q])
theorem zF8 (a b:Nat):Nat.beq a b=decide (a=b):=by rw[Bool.eq_iff_iff];rw[Nat.beq_eq];rw[decide_eq_true_iff]
inductive LeI (F:Nat->Option Val->Option Val->Option Val->Option Val->Option Val->Option Val->M)(G0:Gh)(left:List PS)(goal:Nat)(xs:List Val)(m:M)(G:Gh):Prop where
 | mk (k:Nat) (a b c d e r:Option Val) (ps:List PS) (e2:m=F k a b c d e r) (x:G=G0) (h:Zk G0 ps xs) (hd:∀p∈ps,Zi p.more) (hg:ps.foldl (jM left) k=goal) (hk:k<=left.length)
theorem RdT.cS (h1:Rd X n sc e1 m G v)(h2:Rd X n sc e2 m G w)(r1:RowV G q v)(r2:RowV G p w)(mq:Zi q.more)(mp:Zi p.more)(hm:behindInMarks .Eq e2=false:=by with_unfolding_all rfl):RdT X n sc (.Compare e1 [.Eq] [e2] pos) m G (eqP q p):=by obtain⟨_,_,_,hq⟩:=id r1;obtain⟨_,_,_,hp⟩:=id r2;rw[<-zHY q p hq hp];exact .cmp h1 h2 (.eq (r1.rd (k:=9) mq) (r2.rd (k:=9) mp) qA) hm
theorem v8 {ls ws:List PS}(T:Tops X)(hl:RowL G ls la)(hw:RowL G ws wa)(ml:∀p∈ls,Zi p.more)(mw:∀p∈ws,Zi p.more)(h1000:ls.length<=1000)(kk:Q (.bool (zDb ls ws)) G):Cal X (n+1) yV [.ref la,.ref wa] G Q:=by
 refine Cal.start (T.d 38 rfl) rfl rfl ?_;obtain⟨lvs,e1,hlv⟩:=hl;obtain⟨wvs,e2,hwv⟩:=hw;have hll:=hlv.length;have len:∀{os:List (Option Val)} {p2 p3 p4:Pos},Loc wB.names os "left" (.ref la)->Rd X n wB (.Call (.Name "len" p2) [.Name "left" p3] [] p4) (L wB os) G (.int lvs.length):=λh=>.fn (id:="len") T.blt () () () (λ_ _=>rfl) (vs:=[.ref la]) (.cons (.var h) .nil) (Blt.aw e1 (by rw[hll];exact lt_of_le_of_lt h1000 ()) qA);refine SnB.assign (v:=.int 0) .int () ?_;refine SnB.cH (a:=wa) () e2 (LeI (λk a b c d e r=>L wB [some (.ref la),some (.ref wa),some (.int k),a,b,c,d,e,r,none]) G ls (ws.foldl (jM ls) 0)) ⟨0,none,none,none,none,none,none,ws,rfl,rfl,hwv,mw,rfl,zero_le _⟩ (λv xs m G1 hI=>?_) (λm G1 hI=>?_) λxs m G1 hI=>by obtain⟨_,_,_,_,_,_,_,_,_,rfl,_⟩:=hI;exact e2
 ·obtain⟨k,a,b,c,d,e,r,ps,rfl,rfl,hv,hd,hg,hk⟩:=hI;cases hv with | @cons p ps _ _ hp hv=>
  obtain⟨ga,rfl,hga,ho⟩:=hp;refine⟨_,.tup (.cons (Upd.aM ()) (.cons (Upd.aM ()) (.cons (Upd.aM ()) (.cons (Upd.aM ()) (.cons (Upd.aM ()) .nil))))),?_⟩;rw[foldl_cons] at hg;have hmp:=hd p (.head _);refine SnB.ifs (r:=decide ((k:Int)<lvs.length)) (.cmp () (len ()) (.lt qA)) (λc=>?_) λc=>?_
  ·have hkl:k<ls.length:=by rw[<-hll];exact Int.ofNat_lt.mp (of_decide_eq_true c)
   obtain⟨q,hq⟩:∃q,ls[k]?=some q:=⟨_,getElem?_eq_getElem hkl⟩
   refine zC (hlv.get hq) λvx hvx hrx=>?_;have hmq:=ml q (mem_of_getElem? hq);have e0:jM ls k p=if mtP q p then k+1 else k:=by unfold jM;rw[hq];rfl
   rw[e0] at hg;have h1:RowV G1 p (.tup [.str (opS p.op),.int p.dst,.ref ga,p.more,.bool p.vol]):=⟨ga,rfl,hga,ho⟩
   have h2:RowV G1 (zAQ p) (.tup [.str (opS p.op),.int (-1),.ref ga,p.more,.bool p.vol]):=⟨ga,rfl,hga,ho⟩
   refine SnB.assign (v:=vx) (.aF () e1 () (by exact(show k<cap from lt_of_lt_of_le hkl (le_trans h1000 ()))) (ya hvx)) () ?_;have em:mtP q p=(eqP q p||(decide (p.op=4)&&eqP q (zAQ p))):=by unfold mtP;rw[zF8]
   refine SnB.ifs (r:=mtP q p) (em▸.or (.cS () () hrx h1 hmq hmp) λ_=>.bG (.and (.aG 4 () ho) λ_=>.aX (.cS () () hrx h2 hmq hmp))) (λz=>?_) λz=>?_
   ·rw[if_pos z] at hg;exact .assign (v:=.int ((k+1:Nat):Int)) (.bin () .int (.add qA)) () (.nil (.next (.nil (.next (.nil (.next ⟨_,_,_,_,_,_,_,ps,rfl,rfl,hv,zL hd,hg,hkl⟩))))))
   ·rw[if_neg (by rw[z];decide)] at hg;exact .nil (.next (.nil (.next (.nil (.next ⟨_,_,_,_,_,_,_,ps,rfl,rfl,hv,zL hd,hg,hk⟩)))))
  ·have hq:ls[k]?=none:=getElem?_eq_none (by rw[<-hll];exact Int.ofNat_le.mp (Int.not_lt.mp (of_decide_eq_false c)));have e0:jM ls k p=k:=by unfold jM;rw[hq];rfl
   rw[e0] at hg;exact .nil (.next (.nil (.next ⟨_,_,_,_,_,_,_,ps,rfl,rfl,hv,zL hd,hg,hk⟩)))
 ·obtain⟨k,a,b,c,d,e,r,ps,rfl,rfl,hv,hd,hg,hk⟩:=hI;cases hv;have hg:k=ws.foldl (jM ls) 0:=hg;refine .aH (Rd.to (v:=.bool (zDb ls ws)) ?_ kk);have el:zDb ls ws=((k:Int) == (lvs.length:Int)):=by
   unfold zDb;rw[<-hg];rw[hll];rw[zF8];rw[Bool.eq_iff_iff];rw[decide_eq_true_iff];rw[beq_iff_eq];exact Int.ofNat_inj.symm
  rw[el];exact .cmp () (len ()) (.cv qA)
end
section
variable {X:Cx}{n:Nat}{G:Gh}{sc:Scope}{os os' os'':List (Option Val)}{m:M}{v w:Val}
theorem zBv (T:Tops X)(k:Q (.int (home i)) G):Cal X (n+1) uO [.int i] G Q:=by refine Cal.start (T.d 31 rfl) rfl rfl ?_;exact SnB.aH (Rd.to (v:=.int (home i)) (.bin .int (.bin .int () (.mulL () qA)) (.add qA)) k)
theorem Rd.home (T:Tops X)(hk:Zf sc "_law_home")(h:Rd X (n+1) sc e m G (.int i))(hn:Zj [e]:=by exact λ_ _=>rfl)(hs:NS e:=by intro _ _;rfl):Rd X (n+1) sc (.Call (.Name "_law_home" p) [e] [] pos) m G (.int (home i)):=
 Sn.ref (T.f 28 rfl) hk hn (vs:=[.int i]) (.cons h .nil (hs _)) (zBv T qA)
noncomputable def zFv (p:Int×Int):Val:=.tup [.int p.1,.int p.2]
inductive SpI (G0:Gh)(sl:Za)(xs acc:List Val)(G:Gh):Prop where
 | mk (i:Nat) (r:Za) (done:List (Int×Int)) (e1:xs=enF wX i r) (e2:acc=done.map zFv) (x:G=G0) (hg:done++zBG i r=zBG 0 sl)
inductive ThI (G0:Gh)(a w:Int)(goal:List Bool)(xs acc:List Val)(G:Gh):Prop where
 | mk (ps:List (Int×Int)) (bs:List Bool) (e1:xs=ps.map zFv) (e2:acc=bs.map .bool) (x:G=G0) (hg:bs++ps.map (th1 a w)=goal)
theorem zIg (l:List α):∀i,(enF f i l).length=l.length:=by
 induction l with
 | nil=>exact λ_=>rfl
 | cons p r ih=>exact λi=>congrArg (· + 1) (ih (i+1))
theorem zFt (sl:Za):∀i,(zBG i sl).length=sl.length:=by
 induction sl with
 | nil=>exact λ_=>rfl
 | cons p r ih=>exact λi=>congrArg (· + 1) (ih (i+1))
theorem y6 {a w:Int}(T:Tops X)(hs:G sa=some (.list (sl.map wX)))(h4:sl.length=4)(k:∀G',Ext G G'->Q (.bool (z7 sl a w)) G'):Cal X (n+2) yC [.ref sa,.int a,.int w] G Q:=by
 refine Cal.start (T.d 32 rfl) rfl rfl ?_;refine SnB.aB (Sn.bin (Sn.aJ (vs:=[.tup [.int 0,.int 4],.tup [.int 8192,.int 8]]) (.cons () (.cons (.tup (.cons (.glob T.g_law_OBJECT ()) (.cons .int .nil))) .nil)) λl1 G1 h1 x1 e1=>?_));refine Sn.comp (by decide +kernel) (.enum T.blt () (λ_ _=>rfl) (Rds.to (vs:=[.ref sa]) () ⟨sa,_,rfl,x1 _ _ hs,by rw[zFS];rw[zIg];rw[h4];decide,SpI G1 sl,.cap (sc':=j7) [none,none,none,none] ⟨λv xs acc G2 hI=>?_,λacc G2 hI=>?_⟩ (capn (capn (capn (capn cap0)))),⟨0,sl,[],zFS wX sl,rfl,rfl,rfl⟩⟩))
 ·obtain⟨i,r,done,e2,rfl,rfl,hg⟩:=hI;cases r with
  | nil=>cases e2
  | cons p r=>
   obtain⟨rfl,rfl⟩:=List.cons.inj e2;refine⟨x1 _ _ hs,_,.tup (.two () ()),.nil ⟨λ_=>?_,λq=>nomatch q⟩⟩;exact Rd.to (v:=zFv (home i,p.1)) (.tup (.cons (.home T () ()) (.cons (.aW (vs:=[.int p.1,.int p.2]) (Rd.var (v:=wX p) ()) .int () rfl) .nil))) ⟨i+1,r,done++[(home i,p.1)],rfl,by rw[List.map_append];rfl,rfl,by rw[<-hg];rw[append_assoc];rfl⟩
 ·obtain⟨i,r,done,e2,rfl,rfl,hg⟩:=hI;cases r with
  | cons=>cases e2
  | nil=>
   have hg:done=zBG 0 sl:=by rw[<-hg];exact(append_nil done).symm
   subst hg;refine⟨x1 _ _ hs,NewL.nl λl2 G3 h3 x3 e3=>?_⟩;have sl4:(zBG 0 sl).length=4:=(zFt sl 0).trans h4;refine Op2.bu (x3 _ _ e1) e3 (by rw[length_map];rw[sl4];decide) (NewL.nl λsp G4 h5 x4 e4=>⟨_,(),?_⟩);have e4:G4 sp=some (.list ((zBF sl).map zFv)):=by rw[e4];unfold zBF;rw[List.map_append];rfl
   have ls:(zBF sl).length=6:=by unfold zBF;rw[length_append];rw[sl4];rfl
   refine SnB.aH (Sn.fn (id:="any") T.blt () () () (λ_ _=>rfl) (SnEs.cons (Sn.comp (by decide +kernel) (.seq (Rd.to (v:=.ref sp) () ⟨_,_,.list e4,by rw[length_map];rw[ls];decide,ThI G4 a w ((zBF sl).map (th1 a w)),.cap (sc':=j6) [none,none,none,some (.int a),some (.int w)] ⟨λv xs acc G5 hI=>?_,λacc G5 hI=>?_⟩ (capn (capn (capn (capv ⟨by walk_at"0",by walk_at"0",()⟩ (capv ⟨by walk_at"0",by walk_at"0",()⟩ cap0))))),⟨zBF sl,[],rfl,rfl,rfl,rfl⟩⟩))))) 
   ·obtain⟨ps,bs,e5,rfl,rfl,hg⟩:=hI;cases ps with
    | nil=>cases e5
    | cons p ps=>
     obtain⟨rfl,rfl⟩:=List.cons.inj e5;refine⟨e4,_,.tup (.two () ()),.nil ⟨λ_=>?_,λq=>nomatch q⟩⟩;exact Rd.to (v:=.bool (th1 a w p)) (.and (.cmp () () (.le qA)) λ_=>.aX (.cmp (.bin () () (.add qA)) (.bin () () (.add qA)) (.le qA))) ⟨ps,bs++[th1 a w p],rfl,by rw[List.map_append];rfl,rfl,by rw[<-hg];rw[append_assoc];rfl⟩
   ·obtain⟨ps,bs,e5,rfl,rfl,hg⟩:=hI;cases ps with
    | cons=>cases e5
    | nil=>
     have hg:bs=(zBF sl).map (th1 a w):=by rw[<-hg];exact(append_nil bs).symm
     subst hg;refine⟨e4,NewL.nl λlb G6 h6 x6 e6=>SnEs.nil (Blt.eL e6 (by rw[length_map];rw[ls];decide) ?_)⟩;rw[any_map];exact k G6 (x1.trans (x3.trans (x4.trans x6)))
theorem zJm (mem:Me)(a:Int)(w:Nat):preSum (λi=>getM mem (a+i) * 256 ^ i) w=getW mem a w:=by
 induction w with
 | zero=>rfl
 | succ w ih=>
  unfold getW;rw[range_succ];rw[List.foldl_append];exact congrArg (· + getM mem (a+w) * 256 ^ w) ih
theorem Rd.p256 {i:Nat}{kd:Nat}(h:Rd X n sc e m G (.int i))(hi:i<=8):Rd X n sc (.BinOp (.Constant (.int 256) kd p) .Pow e pos) m G (.int (256 ^ i)):=.bin .int h (.pow (natCast_nonneg i) (Int.le_trans (Int.ofNat_le.mpr hi) ()) () qA)
theorem zIC (hi:i<=7):((256:Int) ^ i).natAbs<2 ^ 63:=(by decide +kernel:∀k:Fin 8,((256:Int) ^ k.1).natAbs<2 ^ 63) ⟨i,Nat.lt_succ_of_le hi⟩
inductive GtI (G0:Gh)(g:Nat->Int)(w:Nat)(xs acc:List Val)(G:Gh):Prop where
 | mk (i:Nat) (hi:i<=w) (e1:xs=rg i w) (e2:acc=(List.range i).map λi=>.int (g i)) (x:G=G0)
theorem yz {a:Int}{w:Nat}(T:Tops X)(hm:G me=some (.dict (adE mem)))(hw:w<=8)(k:∀G',Ext G G'->Q (.int (getW mem a w)) G'):Cal X (n+1) vT [.ref me,.int a,.int w] G Q:=by
 refine Cal.start (T.d 33 rfl) rfl rfl ?_;refine SnB.aH (Sn.fn (id:="sum") T.blt () () () (λ_ _=>rfl) (SnEs.cons (Sn.comp (by decide +kernel) (.range T.blt () (λ_ _=>rfl) (Rds.to (vs:=[.int w]) () ⟨w,rfl,lt_of_le_of_lt hw (),by unfold uX;rw[length_map];rw[length_range];exact lt_of_le_of_lt hw (),GtI G (λi=>getM mem (a+i) * 256 ^ i) w,.cap (sc':=zAb) [none,none,some (.int a),some (.ref me)] ⟨λv xs acc G1 hI=>?_,λacc G1 hI=>?_⟩ (capn (capn (capv ⟨by walk_at"0",by walk_at"0",()⟩ (capv ⟨by walk_at"0",by walk_at"0",()⟩ cap0)))),⟨0,zero_le _,jb w,rfl,rfl⟩⟩)))))
 ·obtain⟨i,hi,e0,rfl,rfl⟩:=hI;have hlt:i<w:=lt_of_not_le λq=>by rw[zCl q] at e0;cases e0
  rw[jO hlt] at e0;obtain⟨rfl,rfl⟩:=List.cons.inj e0;have hi7:i<=7:=le_of_lt_succ (lt_of_lt_of_le hlt hw);refine⟨trivial,_,Upd.aM (),.nil ⟨λ_=>?_,λq=>nomatch q⟩⟩;refine Rd.to (v:=.int (getM mem (a+i) * 256 ^ i)) (.bin (v:=.int (getM mem (a+i))) (Sn.aV .get (λ_ _=>rfl) (Rd.to (v:=.ref me) () ⟨.dict hm,Rds.to (vs:=[.int (a+i),.int 0]) (.cons (.bin () () (.add qA)) ()) (Meth.get hm ⟨?_,rfl⟩)⟩)) (.p256 () (le_succ_of_le hi7)) (.mulR (zIC hi7) qA)) ⟨i+1,hlt,rfl,by rw[range_succ];rw[List.map_append];rfl,rfl⟩;rw[yK];unfold getM;cases lk mem (a+i)<;>rfl
 ·obtain⟨i,hi,e0,rfl,rfl⟩:=hI
  have:i=w:=le_antisymm hi (le_of_not_lt λq=>by rw[jO q] at e0;cases e0);subst this;refine⟨trivial,NewL.nl λlb G2 h2 x2 e2=>SnEs.nil (Blt.d8 (f:=λj=>getM mem (a+j) * 256 ^ j) e2 (lt_of_le_of_lt hw ()) ?_)⟩;rw[zJm];exact k G2 x2
end
section
variable {X:Cx}{n:Nat}{G:Gh}{sc:Scope}{os os' os'':List (Option Val)}{m:M}{v w:Val}
noncomputable def givL (g:Gv):List Val:=g.map λe=>.int e.1
theorem giv0 (h:0<g.length):zy (givL g) 0=some (.int (g0 g).1):=by
 cases g with
 | nil=>cases h
 | cons a l=>rfl
theorem giv1 (h:1<g.length):zy (givL g) 1=some (.int (g1 g).1):=by
 cases g with
 | nil=>cases h
 | cons a l=>cases l with
  | nil=>exact absurd h (lt_irrefl 1)
  | cons b l=>rfl
def ExtM (me no:Addr)(G G':Gh):Prop:=∀x o,x≠me->x≠no->G x=some o->G' x=some o
theorem Ext1.dN (h:Ext1 me G G'):ExtM me no G G':=λx o a _ e=>h x o a e
theorem Ext1.notM (h:Ext1 no G G'):ExtM me no G G':=λx o _ b e=>h x o b e
theorem Ext.cu (h:Ext G G'):ExtM me no G G':=λx o _ _ e=>h x o e
theorem Tru.b:Tru G (.bool c) c:=.bool c
inductive Yl (no:Addr)(G:Gh):Note->Val->Prop
 | see (l:List Int):Yl no G (none,l) (.tup (l.map .int))
 | acc (op:Nat) (kn:List Int) (more:Val) (x:Int) (ga:Addr) (h:G ga=some (.list (kn.map .int))) (hn:ga≠no) (ho:op<36) (hm:Zi more):Yl no G (some (op,kn,more),[x]) (.tup [.str (opS op),.ref ga,more,.int x])
inductive NtAt (no:Addr)(G:Gh):List Note->List Val->Prop
 | nil:NtAt no G [] []
 | cons {x:Note} {nt:List Note} {v:Val} {vs:List Val} (h:Yl no G x v) (t:NtAt no G nt vs):NtAt no G (x::nt) (v::vs)
theorem NtAt.map (h:NtAt no G nt vs)(x:∀a xs,a≠no->G a=some (.list xs)->G' a=some (.list xs)):NtAt no G' nt vs:=by
 induction h with
 | nil=>exact .nil
 | cons h _ ih=>
  refine .cons ?_ ih;cases h with
  | see l=>exact .see l
  | acc op kn more y ga h hn ho hm=>exact .acc op kn more y ga (x _ _ hn h) hn ho hm
theorem NtAt.snoc (h:NtAt no G nt vs)(k:Yl no G x v):NtAt no G (nt++[x]) (vs++[v]):=by
 induction h with
 | nil=>exact .cons k .nil
 | cons a _ ih=>exact .cons a ih
theorem NtAt.len (h:NtAt no G nt vs):vs.length=nt.length:=by
 induction h with
 | nil=>rfl
 | cons _ _ ih=>exact congrArg (· + 1) ih
structure MsAt (me no:Addr)(G:Gh)(mem:Me)(nt:List Note):Prop where
 m:G me=some (.dict (adE mem))
 n:∃vs,G no=some (.list vs)/\NtAt no G nt vs
theorem MsAt.new {me no:Addr}{G':Gh}{mem mem':Me}{nt:List Note}{vs:List Val}(hn:NtAt no G nt vs)(hm:G me=some (.dict (adE mem)))(x:ExtM me no G G')(e1:G' me=some (.dict (adE mem')))(e2:G' no=some (.list vs)):MsAt me no G' mem' nt:=
 ⟨e1,vs,e2,hn.map λa xs q e=>x _ _ (vF hm e) q e⟩
theorem zGe (g:Gv):givL g=(g.map (·.1)).map .int:=by unfold givL;rw[map_map];rfl
theorem SnB.skip (h:RdT X n sc t m G r)(hr:r=false)(k:SnB X n sc sts m G Q):SnB X n sc (.If t a [] pos::sts) m G Q:=.ifs h (λe=>by rw[hr] at e;cases e) λ_=>.aK k
theorem SnB.take (h:RdT X n sc t m G r)(hr:r=true)(k:SnB X n sc a m G (Then X n sc sts Q)):SnB X n sc (.If t a c pos::sts) m G Q:=.ifs h (λ_=>k) λe=>by rw[hr] at e;cases e
theorem Sn.near (w:Nat)(T:Tops X)(hk1:Zf sc "_law_is_there")(hk2:Zf sc "_law_get")(hs:G sa=some (.list (sl.map wX)))(h4:sl.length=4)(hm:G me=some (.dict (adE mem)))
  (l1:Loc sc.names os "slots" (.ref sa)) (l2:Loc sc.names os "memory" (.ref me)) (l3:Loc sc.names os x (.int a)) (ew:wi=(w:Int)) (hw:w<=8) (k:∀G',Ext G G'->Q (.int (zc sl mem a w d)) G') :
  Sn X (n+2) sc (.IfExp (.Call (.Name "_law_is_there" q1) [.Name "slots" p1,.Name x p2,.Constant (.int wi) k1 p3] [] q2) (.Call (.Name "_law_get" q3) [.Name "memory" p4,.Name x p5,.Constant (.int wi) k2 p6] [] q4) (.Constant (.int d) k3 p7) pos) (L sc os) G Q:=by
 subst ew;refine Sn.ite (SnT.val (Sn.ref (T.f 29 rfl) hk1 (λ_ _=>rfl) (vs:=[.ref sa,.int a,.int w]) (.cons (.var l1) (.cons (.var l3) (.cons .int .nil))) (y6 T hs h4 λG1 x1=>⟨_,.b,λc=>?_,λc=>?_⟩)))
 ·refine Sn.ref (T.f 30 rfl) hk2 (λ_ _=>rfl) (vs:=[.ref me,.int a,.int w]) (.cons (.var l2) (.cons (.var l3) (.cons .int .nil))) (yz T (x1 _ _ hm) hw λG2 x2=>?_)
  have:=k G2 (x1.trans x2);unfold zc at this;rw[if_pos c] at this;exact this
 ·have:=k G1 x1;unfold zc at this;rw[if_neg (by rw[c];decide)] at this;exact Rd.int.to this
theorem zDV (T:Tops X)(hs:G sa=some (.list (sl.map wX)))(h4:sl.length=4)(hm:G me=some (.dict (adE mem)))(hn:G no=some (.list vs))(hv:vs.length<=1000)
  (k:∀G',Ext1 no G G'->G' no=some (.list (vs++[.tup [.int a,.int (zc sl mem a 1 300),.int (farV sl mem a),.int (zc sl mem (farV sl mem a) 1 400)]]))->Q (.int (seeV sl mem a (vs.length+1))) G'):Cal X (n+3) vR [.int a,.ref sa,.ref me,.ref no] G Q:=by refine Cal.start (T.d 34 rfl) rfl rfl ?_;have k:∀G',Ext1 no G G'->G' no=some (.list (vs++[.tup [.int a,.int (zc sl mem a 1 300),.int (zc sl mem a 4 0),.int (zc sl mem (zc sl mem a 4 0) 1 400)]]))->Q (.int (zc sl mem a 1 300 * 5+zc sl mem (zc sl mem a 4 0) 1 400+((vs.length+1:Nat):Int))) G':=k;refine SnB.aB (Sn.near 1 T () () hs h4 hm () () () rfl () λG1 x1=>⟨_,(),?_⟩);refine SnB.aB (Sn.near 4 T () () (x1 _ _ hs) h4 (x1 _ _ hm) () () () rfl () λG2 x2=>⟨_,(),?_⟩);have x12:=x1.trans x2;refine SnB.aB (Sn.near (a:=zc sl mem a 4 0) 1 T () () (x12 _ _ hs) h4 (x12 _ _ hm) () () () rfl () λG3 x3=>⟨_,(),?_⟩);have x13:=x12.trans x3;have hn3:=x13 _ _ hn;refine SnB.bF (a:=no) (v:=.tup [.int a,.int (zc sl mem a 1 300),.int (zc sl mem a 4 0),.int (zc sl mem (zc sl mem a 4 0) 1 400)]) () hn3 (.tup (.cons () (.cons () (.cons (Rd.var (v:=.int (zc sl mem a 4 0)) ()) (.cons () .nil))))) (le_trans hv ()) λG4 x4 e4=>?_;refine SnB.aH (Rd.to (v:=.int (zc sl mem a 1 300 * 5+zc sl mem (zc sl mem a 4 0) 1 400+((vs.length+1:Nat):Int))) ?_ (k G4 (λz o hz e=>x4 z o hz (x13 z o e)) e4));refine .bin (.bin (.bin () .int (.mulR () qA)) () (.add qA)) (.fn (id:="len") T.blt () () () (λ_ _=>rfl) (vs:=[.ref no]) () (Blt.aw e4 (by rw[length_append];exact lt_of_le_of_lt (add_le_add_right hv _) (show 1000+1<cap by decide)) ⟨by rw[length_append];rfl,rfl⟩)) (.add qA)
end
section
variable {X:Cx}{n:Nat}{G:Gh}{sc:Scope}{os os' os'':List (Option Val)}{m:M}{v w:Val}
theorem zJ0 (hi:i<=3):(256:Int) ^ i≠0/\((256:Int) ^ i).natAbs<8589934592:=(by decide +kernel:∀k:Fin 4,(256:Int) ^ k.1≠0/\((256:Int) ^ k.1).natAbs<8589934592) ⟨i,Nat.lt_succ_of_le hi⟩
theorem zE5 (mem:Me)(a v:Int)(i:Nat):putM mem a (i+1) v=st (putM mem a i v) (a+i) (Int.fmod (Int.fdiv v (256 ^ i)) 256):=by unfold putM;rw[range_succ];rw[List.foldl_append];rfl
theorem zHQ (mem:Me)(a v:Int)(i:Nat):(putM mem a i v).length<=mem.length+i:=by
 induction i with
 | zero=>exact le_refl _
 | succ i ih=>rw[zE5];exact le_trans (ul _ _ _) (succ_le_succ ih)
inductive PutI (f:Option Val->M)(g:Nat->Me)(me:Addr)(G0:Gh)(i:Nat)(m:M)(G:Gh):Prop where
 | mk (x:Option Val) (e:m=f x) (h:G me=some (.dict (adE (g i)))) (k:Ext1 me G0 G)
theorem zHy (h:a<=b+i)(hb:b<1000000)(hi:i<=3):a<cap:=lt_of_le_of_lt h (lt_of_lt_of_le (Nat.add_lt_add_of_lt_of_le hb hi) ())
theorem zHb {w:Int}(h:w=1\/w=2\/w=4):∃k:Nat,w=k/\k<=4:=by
 rcases h with rfl | rfl | rfl
 ·exact⟨1,rfl,()⟩
 ·exact⟨2,rfl,()⟩
 ·exact⟨4,rfl,()⟩
structure AccP (op:Nat)(g:Gv)(more:Val)(w:Nat)(sg:Bool):Prop where
 k:(op=0/\more=.tup [.int w,.bool sg])\/(op=1/\more=.int w/\1<g.length)
 l0:0<g.length
 w4:w<=4
theorem jZ {op w:Nat}{sg:Bool}(T:Tops X)(A:AccP op g more w sg)(hg:G ga=some (.list (givL g)))(hs:G sa=some (.list (sl.map wX)))(h4:sl.length=4)(hm:G me=some (.dict (adE mem)))(hl:mem.length<1000000)
  (kN:z7 sl (g0 g).1 w=false->∀G',Ext G G'->Q .none G') (kL:op=0->z7 sl (g0 g).1 w=true->∀G',Ext G G'->Q (.int (getS mem (g0 g).1 w sg)) G')
  (kS:op=1->z7 sl (g0 g).1 w=true->∀G',Ext1 me G G'->G' me=some (.dict (adE (putM mem (g0 g).1 w (g1 g).1)))->Q (.int 0) G'):Cal X (n+3) yr [.str (opS op),.ref ga,more,.ref sa,.ref me] G Q:=by
 refine Cal.start (T.d 35 rfl) rfl rfl ?_;have p0:=giv0 A.l0;have o36:op<36:=by rcases A.k with ⟨rfl,_⟩ | ⟨rfl,_⟩<;>decide
 refine SnB.assign (v:=.int w) ?_ () ?_
 ·have e:Val.int w=if decide (op=1)=true then .int w else .int w:=(ite_self _).symm
  rw[e];refine .ite (.aG 1 () o36) (λq=>?_) λq=>?_
  ·rcases A.k with ⟨rfl,_⟩ | ⟨_,e,_⟩
   ·cases q
   ·rw[e];walk_at"r"
  ·rcases A.k with ⟨_,e⟩ | ⟨rfl,_⟩
   ·rw[e];exact .aW (vs:=[.int w,.bool sg]) () .int () rfl
   ·cases q
 refine SnB.bg (r:=!z7 sl (g0 g).1 w) (SnT.not (SnT.val (Sn.ref (T.f 29 rfl) () (λ_ _=>rfl) (.cons () (.cons (.aF () hg .int () p0) ())) (y6 T hs h4 λG1 x1=>⟨_,.b,rfl,x1⟩)))) (λe G1 x1=>.aR (Rd.ai.to (kN (by rw[not_eq_true'] at e;exact e) G1 x1))) λe G1 x1=>.aK ?_;have ht:z7 sl (g0 g).1 w=true:=by rw[Bool.not_eq_false'] at e;exact e
 have hg1:=x1 _ _ hg;have hm1:=x1 _ _ hm;clear kN e;refine SnB.ifs (r:=decide (op=1)) (.aG 1 () o36) (λq=>?_) λq=>.aK ?_
 ·have q:=of_decide_eq_true q;have l1:1<g.length:=by
   rcases A.k with ⟨e,_⟩ | ⟨_,_,h⟩
   ·rw[q] at e;cases e
   ·exact h
  have p1:=giv1 l1;refine SnB.forR w T.blt () () (lt_of_le_of_lt A.w4 ()) (PutI (λx=>L j9 [some (.str (opS op)),some (.ref ga),some more,some (.ref sa),some (.ref me),some (.int w),x,none,none,none,none]) (λi=>putM mem (g0 g).1 i (g1 g).1) me G1) ⟨none,rfl,hm1,.refl⟩ (λi m G' hi hI=>?_) λm G' hI=>?_
  ·obtain⟨x,rfl,h,x0⟩:=hI;refine⟨_,.name (Upd.put ()),?_⟩;have hi3:i<=3:=le_of_lt_succ (lt_of_lt_of_le hi A.w4);obtain⟨d1,d2⟩:=zJ0 hi3;have hlen:=zHQ mem (g0 g).1 (g1 g).1 i;have hg2:=x0.kind hm1 hg1;refine .cons (.bU (Rd.to (v:=.int (Int.fmod (Int.fdiv (g1 g).1 (256 ^ i)) 256)) (.aO (.bin (.aF () hg2 .int () p1) (.p256 () (le_trans hi3 ())) (.fdiv d1 d2 qA))) (Rd.to (v:=.ref me) () (Rd.to (v:=.int ((g0 g).1+i)) (.bin (.aF () hg2 .int () p0) () (.add qA)) ⟨me,_,(g0 g).1+i,rfl,rfl,h,by rw[zFf];exact zHy hlen hl hi3,.next (.nil (.next ⟨_,rfl,?_,x0.trans .upd⟩))⟩))));rw[Gh.aA];rw[zEN];rw[zDO];rw[zE5]
  ·obtain⟨x,rfl,h,x0⟩:=hI;exact .aR (Rd.int.to (kS q ht G' (λz o hz e=>x0 z o hz (x1 z o e)) h))
 ·have q:=of_decide_eq_false q;have e0:op=0/\more=.tup [.int w,.bool sg]:=by
   rcases A.k with e | ⟨e,_⟩
   ·exact e
   ·exact absurd e q
  obtain⟨rfl,rfl⟩:=e0;refine SnB.aB (Sn.ref (T.f 30 rfl) () (λ_ _=>rfl) (.cons () (.cons (.aF () hg1 .int () p0) ())) (yz T hm1 (le_trans A.w4 ()) λG2 x2=>⟨_,(),?_⟩));refine SnB.aH (Rd.to (v:=.int (getS mem (g0 g).1 w sg)) ?_ (kL rfl ht G2 (x1.trans x2)));unfold getS;rw[zI6];have w8:w<=8:=le_trans A.w4 ();exact .ite (.and (.val (.aW (vs:=[.int w,.bool sg]) () .int () rfl) .b) λ_=>.aX (.cmp () (.ao (.p256 () w8)) (.ge qA))) (λ_=>.bin () (.p256 () w8) (.sub qA)) λ_=>()
end
section
variable {X:Cx}{n:Nat}{G:Gh}{sc:Scope}{os os' os'':List (Option Val)}{m:M}{v w:Val}
structure VQ (me no:Addr)(G:Gh)(p:PS)(g:Gv)(o:Option ((Int×Option Int)×Me×Nx))(Q:QE):Prop where
 flt:o=none->∀G',Ext G G'->Q .none G'
 ok:∀e mem' nx' nt1,o=some (e,mem',nx')->nx'.1=(if p.vol then nt1++[zGV p.op g p.more e.1] else nt1)->∀G',ExtM me no G G'->MsAt me no G' mem' nt1->Q (.int e.1) G'
theorem ar3 (h:isAr op=true):op=13\/op=14\/op=18:=jn (P:=λk=>k=13\/k=14\/k=18) h (.inl rfl) (.inr (.inl rfl)) (.inr (.inr rfl))
section
variable {sl:Za}{p:PS}{g:Gv}{mem:Me}{nx:Nx}{o:Option ((Int×Option Int)×Me×Nx)}
theorem zFg (h:accE op g more vol x mem' nx=some o'):∃nx',o'=some ((x,none),mem',nx')/\nx'.1=if vol then nx.1++[zGV op g more x] else nx.1:=by refine⟨_,(Option.some.inj h).symm,?_⟩;cases vol<;>rfl
end
theorem RdT.aZ (h1:Rd X n sc e1 m G (.str (opS a)))(h2:Rd X n sc e2 m G (.str (opS a)))(ha:a<36):RdT X n sc (.BoolOp .Or [.Compare e1 [.Eq] [.Constant (.str "load") k1 p1] p2,.Compare e2 [.Eq] [.Constant (.str "store") k2 p3] p4] pos) m G (decide (a=0)||decide (a=1)):=.or (.aG 0 h1 ha) λ_=>.bG (.aG 1 h2 ha)
theorem zBJ (T:Tops X)(hd:DrS p)(hg:wL kn p.args=some g)(hga:G ga=some (.list (givL g)))(hs:G sa=some (.list (sl.map wX)))(h4:sl.length=4)(hms:MsAt me no G mem nx.1)(hl:mem.length<1000000)(hv:nx.1.length<=1000)
  (he:effT sl p g mem nx=some o) (q:VQ me no G p g o Q):Cal X (n+4) jR [.str (opS p.op),.ref ga,p.more,.ref sa,.ref me,.ref no] G Q:=by
 refine Cal.start (T.d 36 rfl) rfl rfl ?_;obtain⟨qf,qo⟩:=q;obtain⟨hm,vs,hn,hnt⟩:=id hms;have len:=zBl hg;have same:∀G',Ext G G'->MsAt me no G' mem nx.1:=λG' x=>.new hnt hm x.cu (x _ _ hm) (x _ _ hn);have val:∀{x:Int} {t:Option Int},o=some ((x,t),mem,nx)->p.vol=false->∀G',Ext G G'->Q (.int x) G':=λe hvl G' x=>qo _ _ _ nx.1 e (by rw[hvl];rfl) G' x.cu (same G' x);cases hd with
 | @load d w a sg vl hw=>
  dsimp only at *;refine zC (zHb hw) λk eq1 hk=>?_;subst eq1;have he:uG sl g (.tup [.int k,.bool sg]) vl mem nx=some o:=he;unfold uG at he;have he:=(wQ he rfl).2;refine SnB.take (.aZ () () ()) rfl (.aR (Sn.ref (T.f 32 rfl) () (λ_ _=>rfl) () (jZ T (sg:=sg) (w:=k) ⟨.inl qA,by rw[len];exact succ_pos _,hk⟩ hga hs h4 hm hl (λc G' x=>?_) (λ_ c G' x=>?_) λe=>noN e rfl)))
  ·rw[if_neg (show ¬z7 sl (g0 g).1 (zCT (.tup [.int k,.bool sg]))=true by rw[show z7 sl (g0 g).1 (zCT (.tup [.int k,.bool sg]))=false from c];decide)] at he;exact qf (Option.some.inj he).symm G' x
  ·rw[if_pos (show z7 sl (g0 g).1 (zCT (.tup [.int k,.bool sg]))=true from c)] at he;refine zC (zFg he) λnx' e1 e2=>?_;exact qo _ _ _ nx.1 e1 e2 G' x.cu (same G' x)
 | @store w a b vl hw=>
  dsimp only at *;refine zC (zHb hw) λk eq1 hk=>?_;subst eq1;have he:wU sl g (.int k) vl mem nx=some o:=he;unfold wU at he;have he:=(wQ he rfl).2;refine SnB.take (.aZ () () ()) rfl (.aR (Sn.ref (T.f 32 rfl) () (λ_ _=>rfl) () (jZ T (sg:=false) (w:=k) ⟨.inr ⟨rfl,rfl,by rw[len];exact lt_succ_self 1⟩,by rw[len];exact succ_pos _,hk⟩ hga hs h4 hm hl (λc G' x=>?_) (λe=>noN e rfl) λ_ c G' x e3=>?_)))
  ·rw[if_neg (show ¬z7 sl (g0 g).1 (wI (.int k))=true by rw[show z7 sl (g0 g).1 (wI (.int k))=false from c];decide)] at he;exact qf (Option.some.inj he).symm G' x
  ·rw[if_pos (show z7 sl (g0 g).1 (wI (.int k))=true from c)] at he;refine zC (zFg he) λnx' e1 e2=>?_;exact qo _ _ _ nx.1 e1 e2 G' x.dN (.new hnt hm x.dN e3 (x.kind hm hn))
 | @slot d s _=>
  dsimp only at *;refine SnB.skip (.aZ () () ()) rfl ?_;exact SnB.take (.aG 9 () ()) rfl (.aR (Rd.to (Rd.home (i:=s) T () ()) (val (Option.some.inj he).symm rfl G .refl)))
 | name=>
  dsimp only at *;refine SnB.skip (.aZ () () ()) rfl ?_;refine SnB.skip (.aG 9 () ()) rfl ?_;exact SnB.take (.aG 12 () ()) rfl (.aR (Rd.to (.glob T.g_law_SEE ()) (val (Option.some.inj he).symm rfl G .refl)))
 | @call d a ha=>
  dsimp only at *;have he:jm sl g mem nx=some o:=he;unfold jm at he;have l1:1<g.length:=by rw[len];exact lt_succ_self 1
  refine SnB.skip (.aZ () () ()) rfl ?_;refine SnB.skip (.aG 9 () ()) rfl ?_;refine SnB.skip (.aG 12 () ()) rfl ?_;refine SnB.take (.aG 4 () ()) rfl (.aR (Sn.ite ((RdT.cmp (t:=(g0 g).1 == 20000) (.aF () hga .int () (giv0 (Nat.lt_trans Nat.zero_lt_one l1))) (.glob T.g_law_SEE ()) (.cv qA)).to ⟨λc=>?_,λc=>?_⟩)))
  ·rw[if_pos (decide_eq_true (eq_of_beq c))] at he;have he:=(wQ he rfl).2;have hvl:vs.length=nx.1.length:=hnt.len;refine Sn.ref (T.f 31 rfl) () (λ_ _=>rfl) (.cons (.aF () hga .int () (giv1 l1)) ()) (zDV T hs h4 hm hn (by rw[hvl];exact hv) λG' x e=>?_);rw[hvl];refine qo _ _ _ (nx.1++[seeN sl mem (g1 g).1]) (Option.some.inj he).symm rfl G' x.notM ⟨x.kind hn hm,_,e,(hnt.map λz xs hz e=>x z _ hz e).snoc (.see _)⟩
  ·have c:¬(g0 g).1=20000:=λz=>by rw[z] at c;cases c
   rw[if_neg (by rw[decide_eq_false c];decide)] at he;exact Rd.ai.to (qf (Option.some.inj he).symm G .refl)
 | @ar op d a b h1=>
  dsimp only at *;have l1:1<g.length:=by rw[len];exact lt_succ_self 1
  have p0:=giv0 (g:=g) (Nat.lt_trans Nat.zero_lt_one l1);have p1:=giv1 (g:=g) l1;have he2:o=some ((arV op g,none),mem,nx):=by rw[vN h1] at he;exact(Option.some.inj he).symm
  have val:=val he2 rfl G .refl;clear he he2;rcases ar3 h1 with rfl | rfl | rfl
  ·refine SnB.skip (.aZ () () ()) rfl ?_;exact SnB.skip (.aG 9 () ()) rfl (SnB.skip (.aG 12 () ()) rfl (SnB.skip (.aG 4 () ()) rfl (SnB.take (.aG 13 () ()) rfl (.aR (Rd.to (.bin (.aF () hga .int () p0) (.aF () hga .int () p1) (.add qA)) val)))))
  ·refine SnB.skip (.aZ () () ()) rfl ?_;exact SnB.skip (.aG 9 () ()) rfl (SnB.skip (.aG 12 () ()) rfl (SnB.skip (.aG 4 () ()) rfl (SnB.skip (.aG 13 () ()) rfl (SnB.take (.aG 14 () ()) rfl (.aR (Rd.to (.bin (.aF () hga .int () p0) (.aF () hga .int () p1) (.sub qA)) val))))))
  ·refine SnB.skip (.aZ () () ()) rfl ?_;refine SnB.skip (.aG 9 () ()) rfl (SnB.skip (.aG 12 () ()) rfl (SnB.skip (.aG 4 () ()) rfl (SnB.skip (.aG 13 () ()) rfl (SnB.skip (.aG 14 () ()) rfl (.aH (Sn.ite ((RdT.aG 18 () ()).to ⟨λ_=>?_,λe=>absurd e ()⟩)))))));exact Rd.to (.bin (.aF () hga .int () p0) (.aF () hga .int () p1) (.bxor qA)) val
 | @cpy d=>
  dsimp only at *;have p0:=giv0 (g:=g) (by rw[len];exact succ_pos _);have val:=val (Option.some.inj he).symm rfl G .refl;refine SnB.skip (.aZ () () ()) rfl ?_;exact SnB.skip (.aG 9 () ()) rfl (SnB.skip (.aG 12 () ()) rfl (SnB.skip (.aG 4 () ()) rfl (SnB.skip (.aG 13 () ()) rfl (SnB.skip (.aG 14 () ()) rfl (.aH (Sn.ite ((RdT.aG 18 () ()).to ⟨λe=>absurd e (),λ_=>Rd.to (.aF () hga .int () p0) val⟩)))))))
 | @con d k=>
  dsimp only at *;have p0:=giv0 (g:=g) (by rw[len];exact succ_pos _);have val:=val (Option.some.inj he).symm rfl G .refl;refine SnB.skip (.aZ () () ()) rfl ?_;exact SnB.skip (.aG 9 () ()) rfl (SnB.skip (.aG 12 () ()) rfl (SnB.skip (.aG 4 () ()) rfl (SnB.skip (.aG 13 () ()) rfl (SnB.skip (.aG 14 () ()) rfl (.aH (Sn.ite ((RdT.aG 18 () ()).to ⟨λe=>absurd e (),λ_=>Rd.to (.aF () hga .int () p0) val⟩)))))))
end
section
variable {X:Cx}{n:Nat}{G:Gh}{sc:Scope}{os os' os'':List (Option Val)}{m:M}{v w:Val}
inductive GvI (G0:Gh)(f:Opd->Int)(all:List Opd)(goal:List Int)(xs acc:List Val)(G:Gh):Prop where
 | mk (as:List Opd) (ds:List Int) (e1:xs=as.map opdV) (e2:acc=ds.map .int) (eG:G=G0) (hg:ds++as.map f=goal) (hm:∀o∈as,o∈all)
theorem SnB.known {elt it:Expr}{kk:Nat}{sts:List Stmt}{args:List Opd}(f:Opd->Int)(hok:yZ sc scope=true)(he:Rd X n sc it (L sc os) G (.ref la))(hla:G la=some (.list (args.map opdV)))(hl:args.length<=8)
  (elt_ok:∀o∈args,Rd X n sc' elt (L sc' [none,some (.str (rk o.1)),some (.int o.2),some (.ref kd)]) G (.int (f o)))
  (bnd:∀o:Opd,Bnd X true sc' (.Tuple [.Name "kind" p1,.Name "which" p2] kk p3) (opdV o) (L sc' [none,none,none,some (.ref kd)]) (L sc' [none,some (.str (rk o.1)),some (.int o.2),some (.ref kd)]))
  (hm:∀y w,Loc sc'.names [none,none,none,some (.ref kd)] y w->capM sc scope (L sc os) y w)
  (k:∀gi G',G gi=none->Ext G G'->G' gi=some (.list ((args.map f).map .int))->∃os',Upd false sc.names os "known" (.ref gi) os'/\SnB X n sc sts (L sc os') G' Q) (e:relS sc scope=sc':=by rfl)
  (hs:∀env x,foldedSetIterable it env x=pure x:=by intro _ _;rfl):SnB X n sc (.Assign [.Name "known" np] (.ListComp elt [⟨.Tuple [.Name "kind" p1,.Name "which" p2] kk p3,it,[],0⟩] scope cpos) pos::sts) (L sc os) G Q:=by
 refine .cons (SnS.aQ hok (.seq (he.to ⟨_,_,.list hla,by rw[length_map];exact lt_of_le_of_lt hl (),GvI G f args (args.map f),.cap (sc':=sc') [none,none,none,some (.ref kd)] ⟨?_,?_⟩ hm e,⟨args,[],rfl,rfl,rfl,rfl,λ_ h=>h⟩⟩)) hs)
 ·intro x xs acc G1 hI;obtain⟨as,ds,e1,rfl,rfl,hg,hm⟩:=hI;cases as with
  | nil=>cases e1
  | cons o as=>
   obtain⟨rfl,rfl⟩:=List.cons.inj e1;exact⟨hla,_,bnd o,.nil ⟨λ_=>(elt_ok o (hm o (.head _))).to ⟨as,ds++[f o],rfl,by rw[List.map_append];rfl,rfl,by rw[<-hg];rw[append_assoc];rfl,zL hm⟩,λq=>nomatch q⟩⟩
 ·intro acc G1 hI;obtain⟨as,ds,e1,rfl,rfl,hg,_⟩:=hI;cases as with
  | cons=>cases e1
  | nil=>
   have hg:ds=args.map f:=by rw[<-hg];exact(append_nil ds).symm
   subst hg;refine⟨hla,λgi hgi=>?_⟩;refine zC (k gi _ hgi (.new hgi) (Gh.aA ..)) λos' u q=>?_;exact⟨_,u.put,.next q⟩
noncomputable def knE (kn:Kn):List (Int×Val):=kn.map λe=>(e.1,.int e.2.1)
noncomputable def knG (kn:Kn)(r:Int):Int:=((lk kn r).map (·.1)).getD 77
theorem zJe (kn:Kn)(d:Int)(e:Int×Option Int):st (knE kn) d (.int e.1)=knE (st kn d e):=(zBE (λz:Int×Option Int=>Val.int z.1) kn d e).symm
noncomputable def uI (kn:Kn)(o:Opd):Int:=if o.1 then knG kn o.2 else o.2
theorem zGd:∀{args:List Opd} {g:Gv},wL kn args=some g->(args.map (uI kn)).map Val.int=givL g:=λ{args}=>by
 induction args with
 | nil=>exact λh=>by rw[<-Option.some.inj h];rfl
 | cons a l ih=>
  intro g h;obtain⟨h1,g',h2,h3⟩:=zAM h;have e:uI kn a=(g0 g).1:=by
   unfold uI;cases c:a.1 with
   | false=>rw[zAR h1 c];rfl
   | true=>unfold knG;rw[(jD h1 c).1];rfl
  rw[map_cons,map_cons,ih h2,e,h3];rfl
theorem zHu (h:Rd X n sc e m G (.str (rk b))):RdT X n sc (.Compare e [.Eq] [.Constant (.str "r") kd p] pos) m G b:=.cmp h .str (.bH ⟨by rw[show (rk b == ("r" : Str))=b from rk_r b],rfl⟩)
theorem zCz (h:lk kn r=some e):zm (knE kn) r=some (.int e.1):=by have q:zm (knE kn) r=(lk kn r).map λz=>Val.int z.1:=zEp (λz:Int×Option Int=>Val.int z.1) kn r;rw[q];rw[h];rfl
theorem zI8:∀{args:List Opd} {g:Gv},wL kn args=some g->∀o∈args,o.1=true->zm (knE kn) o.2=some (.int (uI kn o)):=λ{args}=>by
 induction args with
 | nil=>exact λ_=>zH
 | cons a l ih=>
  intro g h;obtain⟨h1,g',h2,h3⟩:=zAM h;refine zB (λc=>?_) (ih h2);have hl:=(jD h1 c).1;rw[zCz hl];unfold uI knG;rw[if_pos c];rw[hl];rfl
theorem SnB.eH (h:Rd X n sc e m G (.ref a))(e1:G a=some (.list xs))(I:List Val->M->Gh->Prop)(P:M->Gh->Prop)(h0:I xs m G)
  (t:∀x xs m G (QT:QS),I (x::xs) m G->(∀{m G},I xs m G->QT .next m G)->(∀{m G},P m G->QT .brk m G)->BT X n sc tgt x m body G QT) (z:∀m G,I [] m G->P m G) (gd:∀xs' m G',I xs' m G'->G' a=some (.list xs)) (rest:∀m G,P m G->SnB X n sc sts m G Q)
  (hs:∀env x,foldedSetIterable e env x=pure x:=by intro _ _;rfl):SnB X n sc (.For tgt e body [] pos::sts) m G Q:=
 .cH h e1 I h0 (λx xs m G i=>t x xs m G _ i (λq=>.next q) λq=>.brk (.next (rest _ _ q))) (λm G i=>rest _ _ (z m G i)) gd hs
theorem SnB.dS (w:Nat)(hx:Zv X)(hk:Zf sc "range")(he:Rd X n sc e m G (.int w))(hw:w<1000)(I:Nat->M->Gh->Prop)(P:M->Gh->Prop)(h0:I 0 m G)
  (t:∀i m G (QT:QS),i<w->I i m G->(∀{m G},I (i+1) m G->QT .next m G)->(∀{m G},P m G->QT .brk m G)->BT X n sc (.Name x p1) (.int i) m body G QT) (z:∀m G,I w m G->P m G) (rest:∀m G,P m G->SnB X n sc sts m G Q)
  (hn:Zj [e]:=by exact λ_ _=>rfl) (hs:∀env x,foldedSetIterable (.Call (.Name "range" p2) [e] [] p3) env x=pure x:=by intro _ _;rfl) (hp:∀env,starEach [e] env=(false,eval e env)::starEach [] env:=by intro _;rfl):SnB X n sc (.For (.Name x p1) (.Call (.Name "range" p2) [e] [] p3) body [] p4::sts) m G Q:=
 .forR w hx hk he hw I h0 (λi m G hi hI=>t i m G _ hi hI (λq=>.next q) λq=>.brk (.next (rest _ _ q))) (λm G i=>rest _ _ (z m G i)) hn hs hp
structure LenE (mem:Me)(nt:List Note)(mem':Me)(nt':List Note):Prop where
 m:mem'.length<=mem.length+4
 n:nt'.length<=nt.length+1
theorem LenE.same:LenE mem nt mem nt:=⟨le_add_right _ _,le_succ _⟩
theorem zIj (hd:DrS p)(h:effT sl p g mem nx=some (some (e,mem',nx'))):LenE mem nx.1 mem' nx'.1:=by
 have val:∀{x:Int×Option Int},some (some (x,mem,nx))=some (some (e,mem',nx'))->LenE mem nx.1 mem' nx'.1:=λq=>by
  have q:=Option.some.inj (Option.some.inj q);cases q;exact .same
 have ac:∀{op:Nat} {more:Val} {v:Bool} {x:Int} {m1:Me} {n1:Nx},accE op g more v x m1 n1=some (some (e,mem',nx'))->n1.1=nx.1->m1.length<=mem.length+4->LenE mem nx.1 mem' nx'.1:=λ{op more v x m1 n1} q e1 hm=>by
  unfold accE at q;have q:=Option.some.inj (Option.some.inj q);cases q;refine⟨hm,?_⟩;cases v with
  | true=>show (n1.1++[_]).length<=_;rw[e1];rw[length_append];exact le_refl _
  | false=>show n1.1.length<=_;rw[e1];exact le_succ _
 cases hd with
 | ar h1=>rw[vN h1] at h;exact val h
 | cpy=>exact val h
 | con=>exact val h
 | slot=>exact val h
 | name=>exact val h
 | load=>
  have h:uG sl g _ _ mem nx=some (some (e,mem',nx')):=h;unfold uG at h;exact ac (wg (wQ h rfl).2).2 rfl (le_add_right _ _)
 | @store w a b v hw=>
  refine zC (zHb hw) λk eq1 hk=>?_;subst eq1;have h:wU sl g (.int k) v mem nx=some (some (e,mem',nx')):=h;unfold wU at h;exact ac (wg (wQ h rfl).2).2 rfl (le_trans (zHQ _ _ _ _) (add_le_add_left hk _))
 | call=>
  have h:jm sl g mem nx=some (some (e,mem',nx')):=h;unfold jm at h;have q:=Option.some.inj (Option.some.inj (wQ (wg h).2 rfl).2);cases q;exact⟨le_add_right _ _,by show (nx.1++[_]).length<=_;rw[length_append];exact le_refl _⟩
structure RunH (G0:Gh)(kd me no:Addr)(s:MSt)(G:Gh):Prop where
 x:Ext G0 G
 k:G kd=some (.dict (knE s.1))
 ms:MsAt me no G s.2.1 s.2.2.1
structure Frsh (G0:Gh)(kd me no:Addr):Prop where
 k:G0 kd=none
 m:G0 me=none
 n:G0 no=none
 km:kd≠me
theorem RunH.new {G0 G':Gh}{kd me no:Addr}{s:MSt}(h:RunH G0 kd me no s G)(x:Ext G G'):RunH G0 kd me no s G':=by obtain⟨x0,k,m,vs,hn,ht⟩:=h;exact⟨x0.trans x,x _ _ k,x _ _ m,vs,x _ _ hn,ht.map λa xs _ e=>x _ _ e⟩
theorem RunH.mem {G0 G':Gh}{kd me no:Addr}{s:MSt}{mem:Me}{nx:Nx}(f:Frsh G0 kd me no)(h:RunH G0 kd me no s G)(x:ExtM me no G G')(q:MsAt me no G' mem nx.1):RunH G0 kd me no (s.1,mem,nx) G':=by refine zC h.ms.n λvs hn _=>?_;exact⟨λa o e=>x a o (λq=>by rw[q] at e;rw[f.m] at e;cases e) (λq=>by rw[q] at e;rw[f.n] at e;cases e) (h.x a o e),x _ _ f.km (vF hn h.k) h.k,q⟩
theorem RunH.known (f:Frsh G0 kd me no)(h:RunH G0 kd me no s G)(x:Ext1 kd G G')(q:G' kd=some (.dict (knE kn))):RunH G0 kd me no (kn,s.2) G':=by obtain⟨x0,k,m,vs,hn,ht⟩:=h;exact⟨λa o e=>x a o (λq=>by rw[q] at e;rw[f.k] at e;cases e) (x0 a o e),q,x _ _ f.km.symm m,vs,x.kind k hn,ht.map λa xs _ e=>x.kind k e⟩
inductive ResV (G:Gh)(o:Out1)(v:Val):Prop where
 | mk (no:Addr) (vs:List Val) (e:v=.tup [o.1,.ref no,.int o.2.2.1,.int o.2.2.2]) (h2:G no=some (.list vs)) (h3:NtAt no G o.2.1 vs) (ha:Atom o.1)
noncomputable def zFY (sl:Za)(Bs:List PB)(k:Nat)(B:PB)(r:Bool×MSt):Option Out1:=if r.1 then(endV B.fin r.2.1).bind λv=>if B.fin.op=35 then some (outT (.int v) r.2) else(B.ways[wayI B.fin v]?).bind λj=>runG sl Bs k j r.2 else some (outT (.str "outside") r.2)
structure RunC (c:Nat)(s:MSt):Prop where
 m:s.2.1.length<=4 * c
 n:s.2.2.1.length<=c
 k:s.1.length<=c+2
theorem RunC.up (h:RunC c s)(l:c<=d):RunC d s:=⟨le_trans h.m (Nat.mul_le_mul_left 4 l),le_trans h.n l,le_trans h.k (add_le_add_right l 2)⟩
theorem RunC.step (h:RunC c s)(l:LenE s.2.1 s.2.2.1 mem' nx'.1):RunC (c+1) (setK s.1 d e,mem',nx'):=by
 refine⟨le_trans l.m (add_le_add_right h.m 4),le_trans l.n (succ_le_succ h.n),?_⟩;show (setK s.1 d e).length<=_;unfold setK;by_cases c:0<=d
 ·rw[if_pos c];exact le_trans (ul _ _ _) (le_trans (succ_le_succ h.k) (le_of_eq (add_right_comm _ 2 1)))
 ·rw[if_neg c];exact le_trans h.k (add_le_add_right (le_succ _) 2)
theorem zEO {sl:Za}{p:PS}{ps:List PS}{s:MSt}{Bs:List PB}{k:Nat}{B:PB}{o:Out1}(h:(runS sl (p::ps) s).bind (zFY sl Bs k B)=some o):∃g o',wL s.1 p.args=some g/\effT sl p g s.2.1 s.2.2=some o'/\(o'=none->o=outT (.str "outside") s)/\∀r,o'=some r->(runS sl ps (setK s.1 p.dst r.1,r.2)).bind (zFY sl Bs k B)=some o:=by
 refine zC (Option.bind_eq_some_iff.mp h) λq h1 h2=>?_;rw[wZ] at h1;refine zC (Option.bind_eq_some_iff.mp h1) λz h3 h4=>?_;refine wF (zAV h3) λg o' h5 h6 eq4=>?_;subst eq4;refine⟨g,o',h5,h6,λe=>?_,λr e=>?_⟩
 ·subst e;have h4:some (false,s)=some q:=h4;rw[<-Option.some.inj h4] at h2;exact(Option.some.inj h2).symm
 ·subst e;have h4:runS sl ps (setK s.1 p.dst r.1,r.2)=some q:=h4;rw[h4];exact h2
theorem zKi (h:RunC c s)(hc:c<=1000):s.2.1.length<1000000/\s.2.2.1.length<=1000:=⟨lt_of_le_of_lt (le_trans h.m (Nat.mul_le_mul_left 4 hc)) (),le_trans h.n hc⟩
def LK (G G':Gh):Prop:=∀a xs,G a=some (.list xs)->G' a=some (.list xs)
theorem Ext.lk (x:Ext G G'):LK G G':=λa xs e=>x a _ e
theorem ExtB.lk {bls:List Addr}{i:Int}{Bs:List PB}(x:ExtB bls G G')(h:Zd G i bls Bs):LK G G':=λa xs e=>x _ _ (h.off e rfl) e
theorem Zk.lk (h:Zk G ps vs)(x:LK G G'):Zk G' ps vs:=by
 induction h with
 | nil=>exact .nil
 | cons a _ ih=>obtain⟨la,e,h,ho⟩:=a;exact .cons ⟨la,e,x _ _ h,ho⟩ ih
theorem RLs.lk (h:RLs G qs as)(x:LK G G'):RLs G' qs as:=h.map λ_ _ h=>by
 obtain⟨vs,e,h⟩:=h;exact⟨vs,x _ _ e,h.lk x⟩
theorem EnsV.lk {Bs:List PB}{vs:List Val}(h:EnsV G Bs vs)(x:LK G G'):EnsV G' Bs vs:=by
 induction h with
 | nil=>exact .nil
 | cons a _ ih=>obtain⟨el,h,ha,ho⟩:=a;exact .cons ⟨el,h,x _ _ ha,ho⟩ ih
theorem RLs.get (h:RLs G qs as):∀{i:Nat} {q:List PS},qs[i]?=some q->∃a,as[i]?=some a/\RowL G q a:=by
 induction h with
 | nil=>exact λe=>nomatch e
 | cons a _ ih=>
  intro i q e;cases i with
  | zero=>cases e;exact⟨_,rfl,a⟩
  | succ i=>exact ih (i:=i) e
theorem EnsV.get {Bs:List PB}{vs:List Val}(h:EnsV G Bs vs):∀{i:Nat} {B:PB},Bs[i]?=some B->∃v,vs[i]?=some v/\EndV G B.fin v:=by
 induction h with
 | nil=>intro i p e;cases e
 | cons a _ ih=>
  intro i p e;cases i with
  | zero=>cases e;exact⟨_,rfl,a⟩
  | succ i=>exact ih (i:=i) e
end
section
variable {X:Cx}{n:Nat}{G:Gh}{sc:Scope}{os os' os'':List (Option Val)}{m:M}{v w:Val}
abbrev rnL (pt en sa:Addr)(va:Int)(kd me no:Addr)(at_:Int)(how:Val)(vi op ds ar mo fr kn fo:Option Val):M:=L zAF [some (.ref pt),some (.ref en),some (.ref sa),some (.int va),some (.ref kd),some (.ref me),some (.ref no),some (.int at_),some how,vi,op,ds,ar,mo,fr,kn,fo,none,none,none,none,none]
inductive FinW (B:PB):Prop
 | jump (i:Int) (h:B.fin.op=32) (hm:B.fin.more=.int i) (hw:B.ways=[i])
 | branch (i j r:Int) (h:B.fin.op=33) (hm:B.fin.more=.tup [.int i,.int j]) (hw:B.ways=[i,j]) (ha:B.fin.args=[(true,r)])
 | give (r:Int) (h:B.fin.op=35) (hw:B.ways=[]) (ha:B.fin.args=[(true,r)])
structure BsR (Bs:List PB):Prop where
 len:Bs.length<=16
 st:∀B∈Bs,(∀p∈B.steps,DrW p)/\B.steps.length<=39/\FinW B/\∀j∈B.ways,0<=j
section
variable (G0:Gh) (pt en sa:Addr) (va:Int) (kd me no:Addr) (sl:Za) (Bs:List PB) (o:Out1)
def VsI (i:Nat)(m:M)(G:Gh):Prop:=
 ∀C:M->Prop,(∀(at_:Int) (s:MSt) (vi op ds ar mo fr kn fo:Option Val),0<=at_->RunH G0 kd me no s G->runG sl Bs (8 - i) at_ s=some o->RunC (39 * i) s->C (rnL pt en sa va kd me no at_ (.str "long") vi op ds ar mo fr kn fo))->C m
def AfO (m:M)(G:Gh):Prop:=
 ∀C:M->Prop,(∀(at_:Int) (how:Val) (s:MSt) (vi op ds ar mo fr kn fo:Option Val),RunH G0 kd me no s G->o=outT how s->Atom how->C (rnL pt en sa va kd me no at_ how vi op ds ar mo fr kn fo))->C m
def RnI (at_:Int)(vi:Option Val)(k:Nat)(B:PB)(c:Nat)(xs:List Val)(m:M)(G:Gh):Prop:=
 ∀C:M->Prop,(∀(s:MSt) (c1:Nat) (ps:List PS) (op ds ar mo fr kn fo:Option Val),RunH G0 kd me no s G->Zk G0 ps xs->(∀p∈ps,DrW p)->(runS sl ps s).bind (zFY sl Bs k B)=some o->RunC c1 s->c1+ps.length<=c->C (rnL pt en sa va kd me no at_ (.str "long") vi op ds ar mo fr kn fo))->C m
def AfI (at_:Int)(vi:Option Val)(k:Nat)(B:PB)(c:Nat)(m:M)(G:Gh):Prop:=
 ∀C:M->Prop,(∀(s:MSt) (b:Bool) (op ds ar mo fr kn fo:Option Val),RunH G0 kd me no s G->zFY sl Bs k B (b,s)=some o->RunC c s->C (rnL pt en sa va kd me no at_ (.str (cond b "long" "outside")) vi op ds ar mo fr kn fo))->C m
end
inductive FrI (F:M)(G0:Gh)(kd me no:Addr)(s:MSt)(m:M)(G:Gh):Prop where
 | mk (e:m=F) (h:RunH G0 kd me no s G)
theorem c39 (h:i<8):39 * (i+1)<=1000:=le_trans (Nat.mul_le_mul_left 39 h) ()
theorem zIe {r v:Int}(ha:f.args=[(true,r)])(hop:f.op≠32)(h:endV f kn=some v):zm (knE kn) r=some (.int v):=by unfold endV at h;rw[if_neg hop] at h;rw[ha] at h;refine zC (Option.map_eq_some_iff.mp h) λg h1 h2=>?_;obtain⟨h3,_⟩:=zAM h1;rw[zCz (jD h3 rfl).1];rw[h2]
theorem Rd.held {e1 e2:Expr}{kd el:Addr}{kn:Kn}{f:PS}{r v:Int}{k0 k1:Nat}{p1 p2 p3 p4 p5:Pos}(hk:G kd=some (.dict (knE kn)))(hel:G el=some (.list (f.args.map opdV)))(ha:f.args=[(true,r)])(hop:f.op≠32)(he:endV f kn=some v)(h1:Rd X n sc e1 m G (.ref kd))(h2:Rd X n sc e2 m G (.ref el)) :
  Rd X n sc (.Subscript e1 (.Subscript (.Subscript e2 (.Constant (.int 0) k0 p1) p2) (.Constant (.int 1) k1 p3) p4) p5) m G (.int v):=by rw[ha] at hel;exact .ax h1 hk (.cX (.aF h2 hel .int () (by rfl:zy [opdV (true,r)] 0=some (opdV (true,r))))) (zIe ha hop he)
theorem vz {pt en sa:Addr}{as:List Addr}{evs:List Val}{sl:Za}{value:Int}{Bs:List PB}{o:Out1}{Q:QE}(T:Tops X)(hpt:G pt=some (.list (as.map .ref)))(hR:RLs G (lstB Bs) as)(hen:G en=some (.list evs))(hE:EnsV G Bs evs)(hs:G sa=some (.list (sl.map wX)))(h4:sl.length=4)(ok:BsR Bs)(hrun:runG sl Bs 8 0 (s00 value)=some o)
  (kk:∀v G',Ext G G'->ResV G' o v->Q v G'):Cal X (n+5) vS [.ref pt,.ref en,.ref sa,.int value] G Q:=by
 refine Cal.start (T.d 37 rfl) rfl rfl ?_;refine .cons (.aP (Sn.tup (SnEs.cons (Sn.dW (v:=.int 8192) (w:=.int value) () (λ_=>.glob T.g_law_OBJECT ()) (λ_=>()) λkd G1 hk x1 k1=>SnEs.cons (Sn.az λme G2 hm x2 m2=>SnEs.cons (Sn.aJ .nil λno G3 hn x3 n3=>SnEs.cons (Rd.to (v:=.int 0) .int (SnEs.nil ⟨by show 4<cap;decide,_,.tup (.cons (Upd.aM ()) (.cons (Upd.aM ()) (.cons (Upd.aM ()) (.cons (Upd.aM ()) .nil)))),.next ?_⟩)) (λ_=>rfl)) (λ_=>rfl)) (λ_=>rfl)) (λ_=>rfl))));have fr:Frsh G kd me no:=⟨hk,x1.none hm,(x1.trans x2).none hn,λq=>by rw[q] at k1;rw[hm] at k1;cases k1⟩
 have h0:RunH G kd me no (s00 value) G3:=⟨(x1.trans x2).trans x3,x3 _ _ (x2 _ _ k1),x3 _ _ m2,[],n3,.nil⟩
 clear hk hm hn x1 k1 x2 m2 x3 n3;refine SnB.assign (v:=.str "long") .str () ?_;refine SnB.dS 8 T.blt () .int () (VsI G pt en sa value kd me no sl Bs o) (AfO G pt en sa value kd me no o) (λ_ k=>k 0 (s00 value) none none none none none none none none (Int.le_refl 0) h0 hrun ⟨zero_le _,zero_le _,le_refl 2⟩) (λi m G4 QT hi hI hN hB=>?_) (λm G4 hI=>?_) λm G4 hI=>?_
 ·clear h0 hrun kk;apply hI;intro at_ s vi op ds ar mo fr_ kn fo a0 h run hc;refine⟨_,.name (Upd.put ()),?_⟩;rw[zFr hi] at run;rw[ja] at run;refine zC (Option.bind_eq_some_iff.mp run) λB hBi run=>?_;have run:(runS sl B.steps s).bind (zFY sl Bs (8 - (i+1)) B)=some o:=run;refine vr (ok.st B (mem_of_getElem? hBi)) λoks okl okf okw=>?_;have gB:(lstB Bs)[at_.toNat]?=some B.steps:=by unfold lstB;rw[getElem?_map];rw[hBi];rfl
  obtain⟨a,ha,rvs,r1,r2⟩:=hR.get gB;obtain⟨ev,hev,⟨el,rfl,el1,elo⟩⟩:=hE.get hBi;have hat:zy (as.map Val.ref) at_=some (.ref a):=by have:=zY (f:=Val.ref) ha;rw[toNat_of_nonneg a0] at this;exact this
  have hate:zy evs at_=some (.tup [.str (opS B.fin.op),.ref el,B.fin.more]):=by have:=ya hev;rw[toNat_of_nonneg a0] at this;exact this
  have hcap:at_.natAbs<cap:=wD a0 (lt_of_lt_of_le (List.getElem?_eq_some_iff.mp hBi).1 (le_trans ok.len ()));have c39:=c39 hi;refine SnB.eH (a:=a) (xs:=rvs) (.aF () (h.x _ _ hpt) () hcap hat) (h.x _ _ r1) (RnI G pt en sa value kd me no sl Bs o at_ (some (.int i)) (8 - (i+1)) B (39 * (i+1))) (AfI G pt en sa value kd me no sl Bs o at_ (some (.int i)) (8 - (i+1)) B (39 * (i+1))) (λ_ k=>k s (39 * i) B.steps op ds ar mo fr_ kn fo h r2 oks run hc (add_le_add_left okl _)) (λv xs m G5 QU hJ hM hP=>?_) (λm G5 hJ=>?_) (λxs m G5 hJ=>hJ (λ_=>_) λ_ _ _ _ _ _ _ _ _ _ h _ _ _ _ _=>h.x _ _ r1) λm G5 hA=>?_
  ·clear hN hB h run hc a0 oks okl okf okw hat hate hcap r1 r2 ha hev el1 elo;apply hJ;intro s c1 ps op ds ar mo fr_ kn fo h hr hd run hc le;cases hr with | @cons p ps _ _ hp hr=>
   obtain⟨la,rfl,la1,po⟩:=hp;refine⟨_,.tup (.cons (Upd.aM ()) (.cons (Upd.aM ()) (.cons (Upd.aM ()) (.cons (Upd.aM ()) (.cons (Upd.aM ()) .nil))))),?_⟩;refine wn (zEO run) λg o' hg he hflt hok=>?_;have c1k:=le_trans (le_add_right _ _) (le_trans le c39);obtain⟨c6,c7⟩:=zKi hc c1k;have hdp:=hd p (.head _);have gr:=zI8 hg;refine SnB.known (la:=la) (kd:=kd) (args:=p.args) (uI s.1) (sc':=zAa) (by decide +kernel) () (h.x _ _ la1) ((zJv hdp).few) (λo ho=>?_) (λo=>.tup (.two () ())) (capn (capn (capn (capv ⟨by walk_at"0",by walk_at"0",()⟩ cap0)))) λgi G6 hgi x6 l6=>⟨_,(),?_⟩
   ·by_cases c:o.1=true
    ·have e:Val.int (uI s.1 o)=if o.1=true then .int (uI s.1 o) else .int o.2:=(if_pos c).symm
     rw[e];exact .ite (zHu ()) (λc=>.ax () h.k () (gr o ho c)) λ_=>()
    ·have e:Val.int (uI s.1 o)=if o.1=true then .int o.2 else .int (uI s.1 o):=(if_neg c).symm
     have e2:uI s.1 o=o.2:=by unfold uI;rw[if_neg c]
     have e3:Val.int (uI s.1 o)=if o.1=true then .int o.2 else .int o.2:=by rw[e2];rw[ite_self]
     rw[e3];exact .ite (zHu ()) (λz=>absurd z c) λ_=>()
   ·rw[zGd hg] at l6;have hne:gi≠no:=λq=>by refine zC h.ms.n λvs hn _=>?_;rw[q] at hgi;rw[hn] at hgi;cases hgi
    have h6:=h.new x6;refine SnB.aB (Sn.ref (T.f 33 rfl) () (λ_ _=>rfl) (vs:=[.str (opS p.op),.ref gi,p.more,.ref sa,.ref me,.ref no]) () (zBJ T hdp.dr hg l6 (h6.x _ _ hs) h4 h6.ms c6 c7 he ⟨λe G7 x7=>⟨_,(),?_⟩,λe mem' nx' nt1 e' e2 G7 x7 m7=>⟨_,(),?_⟩⟩))
    ·refine .take (.cmp () .ai (.isNone qA)) rfl (.assign (v:=.str "outside") .str () ?_);refine .cons (.brk (.brk (.brk (hP (λ_ k=>k s false _ _ _ _ _ _ _ (h6.new x7) (by rw[hflt e];rfl) (hc.up (le_trans (le_add_right _ _) le)))))))
    ·subst e';have run':=hok _ rfl;have hc':=hc.step (d:=p.dst) (e:=e) (zIj hdp.dr he);have h7:RunH G kd me no (s.1,mem',nt1,nx'.2) G7:=h6.mem (nx:=(nt1,nx'.2)) fr x7 m7;have g7:G7 gi=some (.list (givL g)):=x7 _ _ (vF h6.ms.m l6) hne l6;refine .skip (.cmp () .ai (.cF qA)) rfl ?_;refine SnB.ck (FrI (rnL pt en sa value kd me no at_ (.str "long") (some (.int i)) (some (.str (opS p.op))) (some (.int p.dst)) (some (.ref la)) (some p.more) (some (.bool p.vol)) (some (.ref gi)) (some (.int e.1))) G kd me no (s.1,mem',nx')) (r:=p.vol) (.val () .b) (λm' G8 hF=>?_) λQJ hF _=>⟨λq=>?_,λq=>?_⟩
     ·obtain⟨rfl,h8⟩:=hF;refine SnB.ifs (r:=decide (p.dst >= 0)) (.cmp () .int (.ge qA)) (λq=>?_) λq=>?_
      ·have e1:setK s.1 p.dst e=Mine.Internal.st s.1 p.dst (Int.fmod e.1 sz,e.2):=if_pos (of_decide_eq_true q);rw[e1] at run' hc';refine SnB.aN (Rd.to (v:=.int (Int.fmod e.1 sz)) (.bin () (.glob T.g_law_ALL ()) (.mod () qA)) ⟨kd,_,p.dst,(),(),h8.k,?_,λG9 x9 k9=>?_⟩)
       ·unfold knE;rw[length_map];exact le_trans hc.k (le_trans (add_le_add_right c1k 2) ())
       ·rw[show Mine.Internal.st (knE (s.1,mem',nx').1) p.dst (.int (Int.fmod e.1 sz))=knE (Mine.Internal.st s.1 p.dst (Int.fmod e.1 sz,e.2)) from zJe s.1 p.dst (Int.fmod e.1 sz,e.2)] at k9;exact .nil (.next (.nil (hM λ_ k=>k _ (c1+1) ps _ _ _ _ _ _ _ (h8.known fr x9 k9) hr (zL hd) run' hc' (zGF le))))
      ·have e1:setK s.1 p.dst e=s.1:=if_neg (of_decide_eq_false q);rw[e1] at run' hc';exact .nil (.next (.nil (hM λ_ k=>k _ (c1+1) ps _ _ _ _ _ _ _ h8 hr (zL hd) run' hc' (zGF le))))
     ·rw[q] at e2;rw[if_pos rfl] at e2;refine zC h7.ms.n λvs n7 t7=>?_;have m7':=h7.ms.m;have tl:vs.length=nt1.length:=t7.len;have nl:nt1.length<=1000:=by
       have l1:nx'.1.length<=c1+1:=hc'.n;have l2:c1+1<=1000:=le_trans (le_trans (le_add_right _ _) (zGF le)) c39;rw[e2] at l1;rw[length_append] at l1;exact le_trans (le_add_right _ _) (le_trans l1 l2)
      refine SnB.bF (a:=no) (v:=.tup [.str (opS p.op),.ref gi,p.more,.int e.1]) () n7 () (by rw[tl];exact le_trans nl ()) λG8 x8 n8=>.nil (hF ⟨rfl,λz o' hz=>x8 z o' (λq=>by rw[q] at hz;rw[fr.n] at hz;cases hz) (h7.x z o' hz),x8.kind n7 h7.k,x8.kind n7 m7',_,n8,?_⟩);have g8:G8 gi=some (.list ((g.map (·.1)).map .int)):=by rw[<-zGe];exact x8 _ _ hne g7
      show NtAt no G8 nx'.1 _;rw[e2];refine(t7.map λz xs hz e=>x8 z _ hz e).snoc ?_;exact .acc p.op (g.map (·.1)) p.more e.1 gi g8 hne po hdp.dr.more
     ·rw[q] at e2;rw[if_neg Bool.false_ne_true] at e2;obtain⟨nx1,nx2⟩:=nx';have e2:nx1=nt1:=e2;subst e2;exact .nil (hF ⟨rfl,h7⟩)
  ·apply hJ;intro s c1 ps op ds ar mo fr_ kn fo h hr _ run hc le;cases hr;exact λ_ k=>k s true _ _ _ _ _ _ _ h run (hc.up (le_trans (le_add_right _ _) le))
  ·clear h run hc oks okl r1 r2 ha hat hev;apply hA;intro s b op ds ar mo fr_ kn fo h run hc;have el2:=h.x _ _ el1;refine .cons (.aP (Rd.to (.aF () (h.x _ _ hen) () hcap hate) ⟨_,.tup (.cons (Upd.aM ()) (.cons (Upd.aM ()) (.cons (Upd.aM ()) .nil))),.next ?_⟩));have out:((cond b "long" "outside" : Str) == ("outside" : Str))=!b:=by cases b<;>decide +kernel
   refine SnB.ifs (r:=!b) (.cmp () .str (.bH ⟨by rw[out],rfl⟩)) (λq=>?_) λq=>.aK ?_
   ·have q:b=false:=by rw[not_eq_true'] at q;exact q
    subst q;exact .cons (.brk (.brk (.brk (hB λ_ k=>k at_ (.str "outside") s _ _ _ _ _ _ _ _ h (Option.some.inj run).symm (.str _ (by decide +kernel))))))
   ·have q:b=true:=by rw[Bool.not_eq_false'] at q;exact q
    subst q;rw[show cond true ("long" : Str) "outside" = "long" from rfl];refine zC (Option.bind_eq_some_iff.mp (show (endV B.fin s.1).bind _=some o from run)) λv hv run=>?_;have go:B.fin.op≠35->∃j,B.ways[wayI B.fin v]?=some j/\runG sl Bs (8 - (i+1)) j s=some o:=λn35=>by
     have run:(if B.fin.op=35 then some (outT (.int v) s) else(B.ways[wayI B.fin v]?).bind λj=>runG sl Bs (8 - (i+1)) j s)=some o:=run;rw[if_neg n35] at run;exact Option.bind_eq_some_iff.mp run
    cases okf with
    | give r h35 _ hargs=>
     have run:(if B.fin.op=35 then some (outT (.int v) s) else(B.ways[wayI B.fin v]?).bind λj=>runG sl Bs (8 - (i+1)) j s)=some o:=run;rw[if_pos h35] at run;exact .take (.aG 35 () elo) (decide_eq_true h35) (.assign (v:=.int v) (.held h.k el2 hargs (by rw[h35];decide) hv () ()) () (.cons (.brk (.brk (.brk (hB λ_ k=>k at_ (.int v) s _ _ _ _ _ _ _ _ h (Option.some.inj run).symm (.int v)))))))
    | jump j h32 hm hw=>
     refine zC (go (by rw[h32];decide)) λj' hj run=>?_;rw[hw] at hj;have ej:j=j':=by unfold wayI at hj;rw[if_pos h32] at hj;exact Option.some.inj hj
     subst ej;have j0:=okw j (by rw[hw];exact .head _);rw[hm];exact .skip (.aG 35 () elo) (decide_eq_false (by rw[h32];decide)) (.aB (Sn.ite ((RdT.aG 32 () elo).to ⟨λ_=>Rd.to (v:=.int j) () ⟨_,(),.nil (hN λ_ k=>k j s _ _ _ _ _ _ _ _ j0 h run hc)⟩,λe=>absurd h32 (of_decide_eq_false e)⟩)))
    | branch j1 j2 r h33 hm hw hargs=>
     refine zC (go (by rw[h33];decide)) λj' hj run=>?_;rw[hw] at hj;have ej:j'=if v=0 then j2 else j1:=by
      unfold wayI at hj;rw[if_neg (by rw[h33];decide)] at hj;by_cases c:v=0
      ·rw[if_pos c] at hj ⊢;exact(Option.some.inj hj).symm
      ·rw[if_neg c] at hj ⊢;exact(Option.some.inj hj).symm
     have j0:0<=j':=by
      rw[ej];by_cases c:v=0
      ·rw[if_pos c];exact okw j2 (by rw[hw];exact .tail _ (.head _))
      ·rw[if_neg c];exact okw j1 (by rw[hw];exact .head _)
     have fin:∀j,j=j'->VsI G pt en sa value kd me no sl Bs o (i+1) (rnL pt en sa value kd me no j (.str "long") (some (.int i)) (some (.str (opS B.fin.op))) ds (some (.ref el)) (some B.fin.more) fr_ kn fo) G5:=λj e _ k=>k j s _ _ _ _ _ _ _ _ (e▸j0) h (e▸run) hc;rw[hm] at fin ⊢;refine .skip (.aG 35 () elo) (decide_eq_false (by rw[h33];decide)) (.aB (Sn.ite ((RdT.aG 32 () elo).to ⟨λe=>absurd (of_decide_eq_true e) (by rw[h33];decide),λ_=>Sn.ite ((RdT.cmp (t:=!(v == 0)) (.held h.k el2 hargs (by rw[h33];decide) hv () ()) .int (.d6 qA)).to ⟨λc=>?_,λc=>?_⟩)⟩)))
     ·have c:¬v=0:=λz=>by rw[z] at c;cases c
      exact Rd.to (v:=.int j1) (.aW (vs:=[.int j1,.int j2]) () .int () rfl) ⟨_,(),.nil (hN (fin j1 (by rw[ej];rw[if_neg c])))⟩
     ·have c:v=0:=by rw[Bool.not_eq_false'] at c;exact eq_of_beq c
      exact Rd.to (v:=.int j2) (.aW (vs:=[.int j1,.int j2]) () .int () rfl) ⟨_,(),.nil (hN (fin j2 (by rw[ej];rw[if_pos c])))⟩
 ·apply hI;intro at_ s vi op ds ar mo fr_ kn fo _ h run _;cases Option.some.inj run;exact λ_ k=>k at_ (.str "long") s _ _ _ _ _ _ _ _ h rfl (.str _ (by decide +kernel))
 ·apply hI;intro at_ how s vi op ds ar mo fr_ kn fo h eo ha;refine zC h.ms.n λvs hn ht=>?_;have hm:=h.ms.m;refine SnB.aH (Sn.tup (SnEs.cons (Rd.to (v:=how) () (SnEs.cons (Rd.to (v:=.ref no) () (SnEs.cons (Sn.ref (T.f 30 rfl) () (λ_ _=>rfl) (vs:=[.ref me,.int 8192,.int 8]) (.cons () (.cons (.glob T.g_law_OBJECT ()) ())) (yz (w:=8) T hm () λG5 x5=>SnEs.cons (Sn.ref (T.f 30 rfl) () (λ_ _=>rfl) (vs:=[.ref me,.int 0,.int 4]) () (yz (w:=4) T (x5 _ _ hm) () λG6 x6=>SnEs.nil ⟨by show 4<cap;decide,?_⟩)) (λ_=>rfl))) (λ_=>rfl))) (λ_=>rfl))) (λ_=>rfl)));have x56:=x5.trans x6;refine kk _ G6 (h.x.trans x56) ?_;rw[eo];exact⟨no,vs,rfl,x56 _ _ hn,ht.map λa xs _ e=>x56 _ _ e,ha⟩
end
section
variable {X:Cx}{n:Nat}{G:Gh}{sc:Scope}{os os' os'':List (Option Val)}{m:M}{v w:Val}
inductive A2SP (X:Cx)(n:Nat)(sc:Scope)(os:List (Option Val))(x y:Str)(sts:List Stmt)(Q:QS)(t:Val)(G':Gh):Prop where
 | mk (v w:Val) (os' os'':List (Option Val)) (e:t=.tup [v,w]) (u1:Upd false sc.names os y w os') (u2:Upd false sc.names os' x v os'') (q:SnB X n sc sts (L sc os'') G' Q)
inductive Y3 (X:Cx)(n:Nat)(sc:Scope)(tgt:Expr)(body sts:List Stmt)(m:M)(Q:QS)(v:Val)(G':Gh):Prop where
 | mk (a:Addr) (xs:List Val) (I:List Val->M->Gh->Prop) (P:M->Gh->Prop) (e:v=.ref a) (e1:G' a=some (.list xs)) (h0:I xs m G')
  (t:∀x xs m G (QT:QS),I (x::xs) m G->(∀{m G},I xs m G->QT .next m G)->(∀{m G},P m G->QT .brk m G)->(∀{v m G},Q (.ret v) m G->QT (.ret v) m G)->BT X n sc tgt x m body G QT) (z:∀m G,I [] m G->P m G) (gd:∀xs' m G',I xs' m G'->G' a=some (.list xs)) (rest:∀m G,P m G->SnB X n sc sts m G Q)
theorem SnB.dT (h:Sn X n sc e m G (Y3 X n sc tgt body sts m Q))(hs:∀env x,foldedSetIterable e env x=pure x:=by intro _ _;rfl):SnB X n sc (.For tgt e body [] pos::sts) m G Q:=
 .bN (h.mono λv G' q=>by
  obtain⟨a,xs,I,P,e,e1,h0,t,z,gd,rest⟩:=q;exact⟨a,xs,I,e,e1,⟨λx xs m G i=>⟨gd _ _ _ i,t x xs m G _ i (λq=>.next q) (λq=>.brk (.next (rest _ _ q))) λq=>.ret (.ret q)⟩,λm G i=>⟨gd _ _ _ i,.next (rest _ _ (z m G i))⟩⟩,h0⟩) hs
theorem zDX (l:List α)(f:Nat):slice l (some (f:Int)) none=l.drop f:=by
 have e1:kms_lo (some (f:Int)) l.length=min f l.length:=by
  show (if (f:Int)<0 then l.length - (-(f:Int)).toNat else min (f:Int).toNat l.length)=_;rw[if_neg (Int.not_lt.mpr (natCast_nonneg f))];rw[toNat_natCast]
 have e2:l.drop (min f l.length)=l.drop f:=by
  by_cases h:f<=l.length
  ·rw[Nat.min_eq_left h]
  ·rw[Nat.min_eq_right (Nat.le_of_not_le h)];rw[List.drop_length];rw[drop_eq_nil_of_le (Nat.le_of_not_le h)]
 unfold slice;rw[e1];rw[e2];exact List.take_of_length_le (by rw[length_drop];rw[show kms_hi none l.length=l.length from rfl];exact Nat.sub_le_sub_left (Nat.min_le_left ..) _)
theorem Zk.drop {ps:List PS}{vs:List Val}(h:Zk G ps vs):∀k:Nat,Zk G (ps.drop k) (vs.drop k):=by
 induction h with
 | nil=>intro k;cases k<;>exact .nil
 | cons a t ih=>
  intro k;cases k with
  | zero=>exact .cons a t
  | succ k=>exact ih k
theorem RdT.bc (h1:Rd X n sc e1 m G (opdV (true,c)))(h2:Rd X n sc e2 m G (.ref la))(hla:G la=some (.list (args.map opdV)))(hm:behindInMarks .In e2=false:=by with_unfolding_all rfl):RdT X n sc (.Compare e1 [.In] [e2] pos) m G (useA c args):=by refine .cmp h1 h2 (.inD (ds:=args.map opdD) (zCp (true,c) 11) (.inr (.aS hla (.map _ _ _ λo _=>zCp o 10))) ⟨?_,rfl⟩) hm;unfold useA;rw[any_map];exact congrArg (λb=>Val.bool b) (congrArg (λf=>args.any f) (funext λo=>zAt o (true,c)))
theorem zGW {ns:List Int}{i:Int}:(!ns.any (· == i))=!ns.contains i:=by rw[List.contains_eq_any_beq];exact congrArg (λf=>!ns.any f) (funext λx=>Bool.eq_iff_iff.mpr ⟨λh=>by rw[beq_iff_eq] at h ⊢;exact h.symm,λh=>by rw[beq_iff_eq] at h ⊢;exact h.symm⟩)
noncomputable def wV (x:Int×Nat):Val:=.tup [.int x.1,.int x.2]
abbrev waL (pt en:Addr)(i:Int)(pl:Nat)(c:Int)(wa se:Addr)(here first iso op ds ar mo fr go:Option Val):M:=L yY [some (.ref pt),some (.ref en),some (.int i),some (.int pl),some (.int c),some (opdV (true,c)),some (.ref wa),some (.ref se),here,first,iso,op,ds,ar,mo,fr,go,none]
section
variable (G0:Gh) (pt en:Addr) (i:Int) (pl:Nat) (c:Int) (Bs:List PB)
def WnI (k:Nat)(m:M)(G:Gh):Prop:=
 ∀C:M->Prop,(∀(wa se:Addr) (W:List (Int×Nat)) (seen:List Int) (here first iso op ds ar mo fr go:Option Val),Ext G0 G->G0 wa=none->wa≠se->G wa=some (.list (W.map wV))->G se=some (.list (seen.map .int))->wgo Bs c k W seen=true->(∀x∈W,0<=x.1)->W.length+2 * k<=11->seen.length+2 * k<=10->C (waL pt en i pl c wa se here first iso op ds ar mo fr go))->C m
def WsI (G1:Gh)(wa se ra:Addr)(rvs:List Val)(r:Nat)(here first:Option Val)(go:Option Val)(xs:List Val)(m:M)(G:Gh):Prop:=
 ∀C:M->Prop,(∀(ps:List PS) (op ds ar mo fr:Option Val),G=G1->Zk G0 ps xs->wG c ps=r->C (waL pt en i pl c wa se here first (some (.bool true)) op ds ar mo fr go))->C m
def WsP (G1:Gh)(wa se:Addr)(r:Nat)(here first:Option Val)(go:Option Val)(m:M)(G:Gh):Prop:=
 ∀C:M->Prop,(∀(b:Bool) (op ds ar mo fr:Option Val),G=G1->r=cond b 2 1->C (waL pt en i pl c wa se here first (some (.bool b)) op ds ar mo fr go))->C m
end
inductive GlI (G0:Gh)(seen:List Int)(goal:List (Int×Nat))(xs acc:List Val)(G:Gh):Prop where
 | mk (js:List Int) (done:List (Int×Nat)) (e1:xs=js.map .int) (e2:acc=done.map wV) (x:G=G0) (hg:done++(js.filter λj=>!seen.contains j).map (λj=>(j,0))=goal)
theorem zEh {W:List (Int×Nat)}:RDs G 11 (W.map wV) (W.map λx=>.tuple [.int x.1,.int (x.2:Int)]):=.map _ _ _ λx _=>.aU (.cons (.int _) (.cons (.int _) .nil))
end
section
variable {X:Cx}{n:Nat}{G:Gh}{sc:Scope}{os os' os'':List (Option Val)}{m:M}{v w:Val}
theorem SnS.bq (h:Sn X n sc e m G (BndP X sc (.Tuple es k p) m Q))
  (hw:swappedStores [.Tuple es k p] e (zC7 sc)=pure .none:=by rfl) (hsw:∀env,swapsWithSole [.Tuple es k p] e pos.line env=pure false:=by intro _;rfl) :
  SnS X n sc (.Assign [.Tuple es k p] e pos) m G Q:=⟨λhs=>
 Assign_Tuple (h.use hs.hy λy s₁ v G1 hv hy1 f₁ q=>by
  obtain⟨m',hb,q⟩:=q;exact zA (hb.go hy1.he hy1.hA.hd hs.hl hy1.hr hy1.hf hv) λ_ _ o=>(o.next .refl f₁).out rfl q) (hsw _) ((zEE hs.hy.he.scope).trans hw)⟩
theorem SnB.au (h:Sn X n sc e (L sc os) G (A2P X n sc os x y sts Q))
  (hw:swappedStores [.Tuple [.Name x p1,.Name y p2] k p] e (zC7 sc)=pure .none:=by rfl) (hsw:∀env,swapsWithSole [.Tuple [.Name x p1,.Name y p2] k p] e pos.line env=pure false:=by intro _;rfl):SnB X n sc (.Assign [.Tuple [.Name x p1,.Name y p2] k p] e pos::sts) (L sc os) G Q:=
 .cons (.bq (h.mono λv G' q=>by obtain⟨v1,v2,os',os'',rfl,u1,u2,q⟩:=q;exact⟨_,.tup (.two u1 u2),.next q⟩) hw hsw)
theorem Sn.goals (hx:Zv X)(hf:FinW B)(elo:B.fin.op<36)(h1:Rd X n sc e1 m G (.str (opS B.fin.op)))(h2:Rd X n sc e2 m G (.str (opS B.fin.op)))(h3:Rd X n sc (.Name z3 q3) m G B.fin.more)(h4:Rd X n sc (.Name z4 q4) m G B.fin.more)(hg:Zf sc "list")(q:NewL (B.ways.map .int) G Q) :
  Sn X n sc (.IfExp (.Compare e1 [.Eq] [.Constant (.str "give") k1 p1] p2) (.List [] p3) (.IfExp (.Compare e2 [.Eq] [.Constant (.str "jump") k2 p4] p5) (.List [.Name z3 q3] p6) (.Call (.Name "list" p7) [.Name z4 q4] [] p8) p9) p0) m G Q:=by
 cases hf with
 | give r h hw _=>rw[hw] at q;exact .ite ((RdT.aG 35 h1 elo).to ⟨λ_=>.aJ .nil q,λe=>absurd h (of_decide_eq_false e)⟩)
 | jump i h hm hw=>
  rw[hw] at q;rw[hm] at h3;exact .ite ((RdT.aG 35 h1 elo).to ⟨λe=>absurd (h.symm.trans (of_decide_eq_true e)) (),λ_=>.ite ((RdT.aG 32 h2 elo).to ⟨λ_=>.aJ (.cons h3 .nil) q,λe=>absurd h (of_decide_eq_false e)⟩)⟩)
 | branch i j r h hm hw _=>
  rw[hw] at q;rw[hm] at h4;exact .ite ((RdT.aG 35 h1 elo).to ⟨λe=>absurd (h.symm.trans (of_decide_eq_true e)) (),λ_=>.ite ((RdT.aG 32 h2 elo).to ⟨λe=>absurd (h.symm.trans (of_decide_eq_true e)) (),λ_=>Sn.ty (id:="list") hx () () hg (λ_ _=>rfl) (Rds.to (.cons h4 .nil) (Blt.cP (by show 2<cap;decide) q.nl))⟩)⟩)
theorem zGj (h:FinW B):B.ways.length<=2:=by
 cases h with
 | give _ _ hw _=>rw[hw];decide
 | jump _ _ _ hw=>rw[hw];exact le_succ 1
 | branch _ _ _ _ _ hw _=>rw[hw];exact le_refl 2
theorem wl2 {a b k:Nat}(h:a+1+2 * (k+1)<=11)(hb:b<=2):a+b+2 * k<=11:=by lia
theorem SnT.dM {Q:Bool->Gh->Prop}{e:Expr}{W:List (Int×Nat)}(h:Rd X n sc e m G (.ref a))(ea:G a=some (.list (W.map wV)))(k:∀G',Ext G G'->Q (!W.isEmpty) G'):SnT X n sc (.Compare e [.NotEq] [.List [] p] pos) m G Q:=
 SnT.cmp (h.to (Sn.aJ .nil λna G4 h4 x4 e4=>Op2.ne (d:=.list (W.map λx=>.tuple [.int x.1,.int (x.2:Int)])) (e:=.list []) (.aS (x4 _ _ ea) zEh) (.aS e4 .nil) ⟨!W.isEmpty,by
  rw[show (PyData.list (W.map λx=>.tuple [.int x.1,.int (x.2:Int)])).eqv (.list [])=W.isEmpty from by cases W<;>rfl];exact .b,k G4 x4⟩))
theorem SnB.di (h:Rd X n sc o (L sc os) G (.ref a))(ea:G a=some (.list (xs++[.tup [v,w]])))(hl:xs.length<=2000)(u1:Upd false sc.names os x v os')(u2:Upd false sc.names os' y w os'')(k:∀G',Ext1 a G G'->G' a=some (.list xs)->SnB X n sc sts (L sc os'') G' Q)
  (hs:∀env whole,attributeBase o "pop" env whole=whole:=by intro _ _;rfl) (hq:(p4.endLine == p5.line)=true:=by rfl):SnB X n sc (.Assign [.Tuple [.Name x p1,.Name y p2] k1 p3] (.Call (.Attribute o "pop" p4) [] [] p5) pos::sts) (L sc os) G Q:=
 .cons (.aP (Sn.aV .pop (λ_ _=>rfl) (h.to ⟨.list ea,Rds.nil.to (Meth.dH ea hl λG5 x5 e5=>⟨_,.tup (.two u1 u2),.next (k G5 x5 e5)⟩)⟩) hs hq))
theorem Sn.dR {f:Nat}(h:Rd X n sc e m G (.ref a))(ea:G a=some (.list xs))(hf:Rd X n sc ef m G (.int f))(q:NewL (xs.drop f) G Q):Sn X n sc (.Subscript e (.Slice (some ef) .none .none p) pos) m G Q:=
 Sn.slice (h.to (.some (hf.to ⟨f,rfl,.none (SlOp.list ea (by rw[zDX];exact q.nl))⟩)))
theorem Sn.bO (h1:Rd X n sc e1 m G (.ref a))(h2:Rd X n sc e2 m G (.ref b))(ea:G a=some (.list xs))(eb:G b=some (.list ys))(hl:xs.length+ys.length<cap)(q:NewL (xs++ys) G Q):Sn X n sc (.BinOp e1 .Add e2 pos) m G Q:=.bin (h1.to (h2.to (.bu ea eb hl q.nl)))
theorem Sn.more {js seen:List Int}{kd k2:Nat}(hok:yZ sc scope=true)(hr:relS sc scope=wH)(hm:∀y w,Loc wH.names [none,none,some (.ref c)] y w->capM sc scope m y w)(h1:Rd X n sc e1 m G (.ref a))(h2:Rd X n sc e2 m G (.ref b))(ea:G a=some (.list (W.map wV)))(eb:G b=some (.list (js.map .int)))(ec:G c=some (.list (seen.map .int)))(hj:js.length<=2)(hl:W.length<=20)
  (k:∀c' G',G c'=none->Ext G G'->G' c'=some (.list ((W++(js.filter λj=>!seen.contains j).map λj=>(j,0)).map wV))->Q (.ref c') G') (hs:∀env x,foldedSetIterable e2 env x=pure x:=by intro _ _;rfl):Sn X n sc (.BinOp e1 .Add (.ListComp (.Tuple [.Name "goal" p1,.Constant (.int 0) kd p2] k2 p3) [⟨.Name "goal" p4,e2,[.Compare (.Name "goal" p5) [.NotIn] [.Name "seen" p6] p7],0⟩] scope cpos) pos) m G Q:=by
 refine Sn.bin (h1.to (Sn.comp hok (.seq (h2.to ⟨_,_,.list eb,by rw[length_map];exact lt_of_le_of_lt hj (),GlI G seen ((js.filter λj=>!seen.contains j).map λj=>(j,0)),.cap (sc':=wH) [none,none,some (.ref c)] ⟨λv xs acc G8 hI=>?_,λacc Gz hI=>?_⟩ hm hr,.mk js [] rfl rfl rfl rfl⟩)) hs))
 ·obtain⟨js,done,e1,rfl,rfl,hg⟩:=hI;cases js with
  | nil=>cases e1
  | cons j js=>
   obtain⟨rfl,rfl⟩:=List.cons.inj e1;refine⟨eb,_,.name (Upd.put ()),.cons (RdT.to (t:=!seen.any (· == j)) (.cmp () () (.b6 ec)) ?_)⟩;rw[zGW];refine⟨λq=>.nil ⟨λ_=>(show Rd X _ _ _ _ _ (wV (j,0)) from Rd.tup (.cons () (.cons (.int (i:=0)) .nil))).to (.mk js (done++[(j,0)]) rfl (by rw[List.map_append];rfl) rfl ?_),λq=>nomatch q⟩,λq=>⟨λq=>(nomatch q),λ_=>.mk js done rfl rfl rfl ?_⟩⟩
   ·rw[<-hg];rw[filter_cons];rw[if_pos q];rw[append_assoc];rfl
   ·rw[<-hg];rw[filter_cons];rw[if_neg (by rw[q];exact Bool.false_ne_true)]
 ·obtain⟨js',done,e1,rfl,rfl,hg⟩:=hI;cases js' with
  | cons=>cases e1
  | nil=>
   have hg:done=(js.filter λj=>!seen.contains j).map λj=>(j,0):=by rw[<-hg];exact(append_nil done).symm
   subst hg;refine⟨eb,λci hci=>Op2.bu (Ext.new (o:=.list _) hci _ _ ea) (Gh.aA ..) ?_ (NewL.nl λwb G8 h8 x8 e8=>k wb G8 ((Ext.new hci).none h8) ((Ext.new hci).trans x8) (by rw[List.map_append];exact e8))⟩;rw[length_map];rw[length_map];rw[length_map];exact lt_of_le_of_lt (add_le_add hl (le_trans (length_filter_le ..) hj)) ()
theorem u5 {as:List Addr}{evs:List Val}{i c:Int}{pl:Nat}{Bs:List PB}(T:Tops X)(hpt:G pt=some (.list (as.map .ref)))(hR:RLs G (lstB Bs) as)(hen:G en=some (.list evs))(hE:EnsV G Bs evs)(ok:BsR Bs)(i0:0<=i)(hw:wgo Bs c 5 [(i,pl)] []=true)
  (kk:∀G',Ext G G'->Q (.bool true) G'):Cal X (n+1) wr [.ref pt,.ref en,.int i,.int (pl:Int),.int c] G Q:=by
 refine Cal.start (T.d 39 rfl) rfl rfl ?_;refine SnB.assign (v:=opdV (true,c)) (Rd.tup (.cons .str (.cons () .nil))) () ?_;refine SnB.au (Sn.tup (SnEs.cons (Sn.aJ (vs:=[wV (i,pl)]) (.cons (Rd.tup (vs:=[.int i,.int (pl:Int)]) ()) .nil) λwa G1 h1 x1 e1=>SnEs.cons (Sn.aJ .nil λse G2 h2 x2 e2=>SnEs.nil ⟨by show 2<cap;decide,.mk _ _ _ _ rfl () () ?_⟩) (λ_=>rfl)) (λ_=>rfl)));refine SnB.bR (WnI G pt en i pl c Bs) 5 (λ_ k=>k wa se [(i,pl)] [] none none none none none none none none none (x1.trans x2) h1 (ne_new e1 h2) (x2 _ _ e1) e2 hw (zB i0 zH) (le_refl 11) (le_refl 10)) λk m G3 QT hI hN hR'=>?_;clear h1 x1 e1 h2 x2 e2 hw;apply hI;intro wa se W seen here first iso op ds ar mo fr go x3 f3 ne3 ew es hw hW lW lS;refine SnT.dM () ew λG4 x4=>?_;cases k with
 | zero=>cases hw
 | succ k=>
 rcases List.eq_nil_or_concat W with eW | ⟨W0,x,eW⟩
 ·rw[eW] at hw;cases hw
 rw[List.concat_eq_append] at eW;subst eW;refine⟨λ_=>?_,λe=>?_⟩
 case refine_2=>exact absurd e (by cases W0<;>exact Bool.false_ne_true ∘ Eq.symm)
 obtain⟨h,f⟩:=x;have x4':=x3.trans x4;have ew4:=x4 _ _ ew;have es4:=x4 _ _ es;clear x3 ew es x4;rw[List.map_append] at ew4;rw[length_append] at lW;have hh:=hW _ (mem_append_right _ (.head _));have hW0:∀x∈W0,0<=x.1:=λx q=>hW x (mem_append_left _ q);cases hBi:Bs[h.toNat]? with
 | none=>
  exfalso;have e:wgo Bs c (k+1) (W0++[(h,f)]) seen=false:=by
   show (((W0++[(h,f)]).getLast?).elim false λx=>(Bs[x.1.toNat]?).elim false _)=false;rw[List.getLast?_concat];show (Bs[h.toNat]?).elim false _=false;rw[hBi];rfl
  rw[e] at hw;cases hw
 | some B=>
 rw[jU hBi] at hw;refine vr (ok.st B (mem_of_getElem? hBi)) λoks okl okf okw=>?_;have gB:(lstB Bs)[h.toNat]?=some B.steps:=by unfold lstB;rw[getElem?_map];rw[hBi];rfl
 obtain⟨a,ha,rvs,r1,r2⟩:=hR.get gB;obtain⟨ev,hev,⟨el,rfl,el1,elo⟩⟩:=hE.get hBi;have hat:zy (as.map Val.ref) h=some (.ref a):=by have:=zY (f:=Val.ref) ha;rw[toNat_of_nonneg hh] at this;exact this
 have hate:zy evs h=some (.tup [.str (opS B.fin.op),.ref el,B.fin.more]):=by have:=ya hev;rw[toNat_of_nonneg hh] at this;exact this
 have hcap:h.natAbs<cap:=wD hh (lt_of_lt_of_le (List.getElem?_eq_some_iff.mp hBi).1 (le_trans ok.len ()));have lW':W0.length+1+2 * (k+1)<=11:=lW;refine SnB.di (a:=wa) () ew4 (by rw[length_map];exact le_trans (le_trans (le_add_right _ _) (le_trans (le_add_right _ _) lW')) ()) () () λG5 x5 ew5=>?_;have es5:=x5 _ _ ne3.symm es4;have x50:=x4'.fresh f3 x5;clear x5 es4 x4' ew4 hev ha hW;refine SnB.assign (v:=.bool true) .av () ?_;refine SnB.dT (Sn.dR (a:=a) (.aF () (x50 _ _ hpt) () hcap hat) (x50 _ _ r1) () λra G6 f6 x6 e6=>?_);have x60:=x50.trans x6;have ew6:=x6 _ _ ew5;have es6:=x6 _ _ es5;clear x6 ew5 es5 x50 hat f6;refine .mk ra (rvs.drop f) (WsI G pt en i pl c G6 wa se ra rvs (wG c (B.steps.drop f)) (some (.int h)) (some (.int f)) go) (WsP pt en i pl c G6 wa se (wG c (B.steps.drop f)) (some (.int h)) (some (.int f)) go) rfl e6 (λ_ k=>k _ _ _ _ _ _ rfl (r2.drop f) rfl) (λv xs m G7 QU hJ hM hP hV=>?_) (λm G7 hJ=>?_) (λxs m G7 hJ=>hJ (λ_=>_) λ_ _ _ _ _ _ e _ _=>by rw[e];exact e6) λm G7 hA=>?_
 ·clear hN;apply hJ;intro ps op ds ar mo fr eG hr er;cases hr with | @cons p ps _ _ hp hr=>
  obtain⟨la,rfl,la1,po⟩:=hp;subst eG;have er:(if useA c p.args then 0 else if p.dst=c then 1 else wG c ps)=wG c (B.steps.drop f):=er;refine⟨_,.tup (.cons (Upd.aM ()) (.cons (Upd.aM ()) (.cons (Upd.aM ()) (.cons (Upd.aM ()) (.cons (Upd.aM ()) .nil))))),?_⟩;refine SnB.ifs (r:=useA c p.args) (.bc () () (x60 _ _ la1)) (λu=>.ret (Rd.av.to (.ret (hV (hR' (.ret (kk _ x60))))))) λu=>.aK ?_;rw[u] at er;rw[if_neg Bool.false_ne_true] at er;refine SnB.ifs (r:=decide (p.dst=c)) (.cmp () () (.cv qA)) (λu=>?_) λu=>?_
  ·rw[if_pos (of_decide_eq_true u)] at er;refine .assign (v:=.bool false) () () (.cons (.brk (.brk (.brk (hP λ_ k=>k false _ _ _ _ _ rfl er.symm)))))
  ·rw[if_neg (of_decide_eq_false u)] at er;exact .aK (.nil (hM λ_ k=>k ps _ _ _ _ _ rfl hr er))
 ·apply hJ;intro ps op ds ar mo fr eG hr er;cases hr;exact λ_ k=>k true _ _ _ _ _ eG er.symm
 ·clear r1 r2;apply hA;intro b op ds ar mo fr eG er;subst eG;rw[er] at hw;cases b with
  | false=>exact .ifs (r:=false) (.val () .b) (λq=>nomatch q) λ_=>.aK (.nil (hN (lt_succ_self k) λ_ kq=>kq wa se W0 seen _ _ _ _ _ _ _ _ _ x60 f3 ne3 ew6 es6 hw hW0 (le_trans (add_le_add (le_succ _) (Nat.mul_le_mul_left 2 (le_succ k))) lW') (le_trans (add_le_add_left (Nat.mul_le_mul_left 2 (le_succ k)) _) lS)))
  | true=>
  have hw:(if useA c B.fin.args then true else wgo Bs c k (W0++(B.ways.filter λj=>!seen.contains j).map λj=>(j,0)) (seen++B.ways))=true:=hw;refine .ifs (r:=true) (.val () .b) (λ_=>?_) λq=>nomatch q
  refine .cons (.aP (Rd.to (.aF () (x60 _ _ hen) () hcap hate) ⟨_,.tup (.cons (Upd.aM ()) (.cons (Upd.aM ()) (.cons (Upd.aM ()) .nil))),.next ?_⟩));refine SnB.ifs (r:=useA c B.fin.args) (.bc () () (x60 _ _ el1)) (λu=>.ret (Rd.av.to (.ret (.ret (hR' (.ret (kk _ x60))))))) λu=>.aK ?_;rw[u] at hw;rw[if_neg Bool.false_ne_true] at hw;have w2:=zGj okf;refine SnB.aB (Sn.goals T.blt okf elo () () () () () λga G7 h7 x7 e7=>⟨_,(),?_⟩);have ew7:=x7 _ _ ew6;have es7:=x7 _ _ es6;refine SnB.aB (Sn.more (by decide +kernel) rfl (capn (capn (capv ⟨by walk_at"0",by walk_at"0",()⟩ cap0))) () () ew7 e7 es7 w2 (le_trans (le_add_right _ _) (le_trans (le_add_right _ _) (le_trans lW' ()))) λwb G8 h8 x8 e8=>⟨_,(),?_⟩);have lf:((B.ways.filter λj=>!seen.contains j).map λj=>(j,0):List (Int×Nat)).length<=2:=by rw[length_map];exact le_trans (length_filter_le ..) w2
  have hnw0:∀x∈((B.ways.filter λj=>!seen.contains j).map λj=>(j,0):List (Int×Nat)),0<=x.1:=λx q=>by
   refine zC (List.mem_map.mp q) λj h1 eq2=>?_;subst eq2;exact okw j (List.mem_filter.mp h1).1
  generalize ((B.ways.filter λj=>!seen.contains j).map λj=>(j,0):List (Int×Nat))=nw at *;refine SnB.aB (Sn.bO () () (x8 _ _ es7) (x8 _ _ e7) (by rw[length_map];rw[length_map];exact lt_of_le_of_lt (add_le_add (le_trans (le_add_right _ _) lS) w2) ()) λsb G9 h9 x9 e9=>⟨_,(),?_⟩);rw[<-List.map_append] at e9;have xs:=x60.trans x7;refine .nil (.next (.nil (hN (lt_succ_self k) λ_ kq=>kq wb sb _ _ _ _ _ _ _ _ _ _ _ (xs.trans (x8.trans x9)) (xs.none h8) (ne_new e8 h9) (x9 _ _ e8) e9 hw (λx q=>(List.mem_append.mp q).elim (hW0 x) (hnw0 x)) ?_ ?_)))
  ·rw[length_append];exact wl2 lW' lf
  ·rw[length_append];exact le_trans (add_le_add_right (add_le_add_left w2 _) _) (by rw[add_assoc];rw[Nat.add_comm 2];exact lS)
end
section
variable {X:Cx}{n:Nat}{G:Gh}{sc:Scope}{os os' os'':List (Option Val)}{m:M}{v w:Val}
theorem Blt.dY {bs:List Bool}(e:G a=some (.list (bs.map .bool)))(hl:bs.length<cap)(q:Q (.bool (bs.all id)) G):Blt X n (.builtin "all") [.ref a] G Q:=.one ⟨λ{A b s x} hA hb hr hv=>by
 rw[hv.aC];refine wn (zO hr e) λzs k _ ho hs hlen=>?_;have hL:s.heap.IsList a zs:=⟨_,ho,rfl,k,rfl⟩
 refine call_all_walk (wpAny_pyIter_list hL ?_);have hne:a≠s.heap.objs.size:=ne_of_lt (lt_size ho);refine⟨s.heap.objs.size,_,_,_,_,_,λi=>bs.getD i true,rfl,Walks.list (A:=A.in1) hA.hd _ a hne zs,⟨⟨_,get?_push_size _ rfl,rfl,rfl⟩,hL.push _⟩,λi v s' Q' E' hP hQ'=>?_,λh4 tk4 kp6=>?_⟩
 ·have hiz:i<zs.size:=(Array.getElem?_eq_some_iff.mp hP).1;rw[length_map] at hlen;have hi:i<bs.length:=by lia
  have hv2:=hs.at_ i (.bool bs[i]) v (by rw[getElem?_map];rw[getElem?_eq_getElem hi];rfl) (by rw[getElem?_toList];exact hP);rw[hv2.bool_inv];have hQ':Q' (bs.getD i true) s':=hQ';rw[show bs.getD i true=bs[i] by rw[getD_eq_getElem?_getD];rw[getElem?_eq_getElem hi];rfl] at hQ';exact wpAny_truthy_bool hQ'
 ·have e2:((List.range zs.size).all λi=>bs.getD i true)=bs.all id:=by
   rw[length_map] at hlen;rw[<-hlen];rw[Bool.eq_iff_iff];rw[all_eq_true];rw[all_eq_true];refine⟨λh b hb=>?_,λh i hi=>?_⟩
   ·obtain⟨i,hi⟩:=List.getElem?_of_mem hb
    have:=h i (List.mem_range.mpr (List.getElem?_eq_some_iff.mp hi).1);rw[getD_eq_getElem?_getD] at this;rw[hi] at this;exact this
   ·have hi:=List.mem_range.mp hi;rw[getD_eq_getElem?_getD];rw[getElem?_eq_getElem hi];exact h _ (List.getElem_mem hi)
  rw[e2];exact Out.grow (s:=s) (tk:=tk4) hr (.bool _) (λa' o e=>kp6 a' o (by rw[mem_singleton];exact ne_of_lt (lt_size e)) (get?_push_of_some _ e)) q⟩
theorem Op2.eV {ns:List Int}{i:Int}(h:G a=some (.list (ns.map .int))):O2 X n (compareOp .In) (.int i) (.ref a) G (.bool (ns.any (· == i))):=
 zDN i ns▸Op2.inD (zCm _ _) (.inr (.aS h (.map _ _ _ λx _=>zCm _ x))) qA
theorem SnT.eJ 
  (h:Sn X n sc l m G λv G1=>Sn X n sc r m G1 λw G2=>Op2 X n (compareOp op) v w G2 λu G3=>∃t,Tru G3 u t/\Two (Sn X n sc r' m G3 λz G4=>Op2 X n (compareOp op') w z G4 (TQ Q)) (Q false G3) t)
  (hm:lastMarks [op,op'] [r,r']=false:=by with_unfolding_all rfl):SnT X n sc (.Compare l [op,op'] [r,r'] pos) m G Q:=⟨λhy=>
 isTrue_chain (h.use hy λx s₁ v G1 hv hy1 f₁ h1=>test_link (Sn.use h1 hy1 λy s₂ w G2 hw hy2 f₂ h2=>
  zA (h2.go hy2.hA hy2.hb hy2.hr (hv.mono f₂.tk) hw) λz s3 o=>o.elim λu G3 hu hr3 f3 h3=>by
   refine zC h3 λt ht h3=>?_;have hy3:=hy2.next hr3 f3
   refine zA (yI (Q:=λt' G'=>t'=t/\G'=G3) hr3 hu ht qA) λt' s4 o=>o.elim λG' hr f q=>?_;obtain⟨rfl,rfl⟩:=q;have ff:=((f₁.trans f₂).trans f3).trans f;cases t'
   ·exact .mk G' hr ff (h3.2 rfl)
   ·exact test_last ((h3.1 rfl).use (hy3.next hr f) λx5 s5 v₅ G5 hv5 hy5 f5 h5=>
     zA (h5.go hy5.hA hy5.hb hy5.hr (hw.mono ((f3.trans f).trans f5).tk) hv5) λ_ _ q=>q.test (ff.trans f5)))) hm⟩
theorem RdT.between (h1:Rd X n sc e1 m G (.int a))(h2:Rd X n sc e2 m G (.int x))(h3:Rd X n sc e3 m G (.int b))(hm:lastMarks [.LtE,.LtE] [e2,e3]=false:=by with_unfolding_all rfl):RdT X n sc (.Compare e1 [.LtE,.LtE] [e2,e3] pos) m G (decide (a<=x)&&decide (x<=b)):=
 SnT.eJ (h1.to (h2.to (.le ⟨decide (a<=x),.bool _,λe=>h3.to (.le ⟨_,.bool _,by rw[e];rfl,rfl⟩),λe=>⟨by rw[e];rfl,rfl⟩⟩))) hm
theorem zJw (h:DrS p):p.args.length<=2:=by cases h<;>first | exact le_refl 2 | exact le_succ 1 | exact zero_le 2
theorem zDT (h:DrS p)(e:p.op=1):p.more=.int (wI p.more):=by
 cases h with
 | ar h=>exact absurd e λe=>by subst e;cases h
 | store _=>rfl
 | _=>cases e
theorem zE6:zN sl p k s=(decide (p.op=1)&&(decide ((k:Int)=0)&&(!p.vol&&decide (wI p.more<=zP sl s)))):=by
 unfold zN;rw[show Nat.beq p.op 1=decide (p.op=1) from(by
  cases h:Nat.beq p.op 1 with
  | true=>exact(decide_eq_true (Nat.eq_of_beq_eq_true h)).symm
  | false=>exact(decide_eq_false λe=>by rw[e] at h;cases h).symm)];rw[show Nat.beq k 0=decide ((k:Int)=0) from by cases k<;>rfl]
 cases decide (p.op=1)<;>cases decide ((k:Int)=0)<;>cases p.vol<;>rfl
abbrev swL (pt en sa st rd:Addr)(at_ rows place row op ds ar mo fr spot opd just:Option Val):M:=L yd [some (.ref pt),some (.ref en),some (.ref sa),some (.ref st),some (.ref rd),at_,rows,place,row,op,ds,ar,mo,fr,spot,opd,just,none,none,none]
structure SwK (G0:Gh)(st rd:Addr)(S:Cs)(G:Gh):Prop where
 x:Ext G0 G
 s:G st=some (.list (S.1.map .int))
 r:G rd=some (.list (S.2.map .int))
theorem SwK.ext {G0 G':Gh}{st rd:Addr}{S:Cs}(h:SwK G0 st rd S G)(x:Ext G G'):SwK G0 st rd S G':=⟨h.x.trans x,x _ _ h.s,x _ _ h.r⟩
section
variable (G0:Gh) (pt en sa st rd:Addr) (sl:Za) (Bs:List PB)
noncomputable abbrev nS (S:Cs):Nat:=S.1.length+S.2.length
def SwA (i:Nat)(r:List Addr)(m:M)(G:Gh):Prop:=
 ∀C:M->Prop,(∀(S:Cs) (Cs:List PB) (at_ rows place row op ds ar mo fr spot opd just:Option Val),SwK G0 st rd S G->Cs=Bs.drop i->RLs G0 (lstB Cs) r->Cs.foldl (λS B=>B.steps.foldl (jl sl) S) S=cells sl Bs->nS S<=80 * i->i+r.length<=16->C (swL pt en sa st rd at_ rows place row op ds ar mo fr spot opd just))->C m
def SwB (i:Nat)(at_ rows:Option Val)(Cs:List PB)(B:PB)(j:Nat)(xs:List Val)(m:M)(G:Gh):Prop:=
 ∀C:M->Prop,(∀(S:Mine.Internal.Cs) (ps:List PS) (place row op ds ar mo fr spot opd just:Option Val),SwK G0 st rd S G->ps=B.steps.drop j->Zk G0 ps xs->Cs.foldl (λS B=>B.steps.foldl (jl sl) S) (ps.foldl (jl sl) S)=cells sl Bs->nS S<=80 * i+2 * j->j+xs.length<=39->C (swL pt en sa st rd at_ rows place row op ds ar mo fr spot opd just))->C m
def SwC (i j:Nat)(at_ rows place row op ds ar mo fr:Option Val)(Cs:List PB)(p:PS)(ps:List PS)(k:Nat)(r:List Opd)(m:M)(G:Gh):Prop:=
 ∀C:M->Prop,(∀(S:Mine.Internal.Cs) (spot opd just:Option Val),SwK G0 st rd S G->Cs.foldl (λS B=>B.steps.foldl (jl sl) S) (ps.foldl (jl sl) (jC sl p r k S))=cells sl Bs->nS S<=80 * i+2 * j+k->k+r.length<=2->C (swL pt en sa st rd at_ rows place row op ds ar mo fr spot opd just))->C m
end
inductive SfI (G0:Gh)(rs:List Int)(goal:List Bool)(xs acc:List Val)(G:Gh):Prop where
 | mk (cs:List Int) (bs:List Bool) (e1:xs=cs.map .int) (e2:acc=bs.map .bool) (x:G=G0) (hg:bs++cs.map (λc=>rs.any λd=>d == c)=goal)
theorem Rd.eq (h:Rd X n sc e m G v)(q:v=w):Rd X n sc e m G w:=q▸h
theorem uo {as:List Addr}{evs:List Val}{sl:Za}{Bs:List PB}(T:Tops X)(hpt:G pt=some (.list (as.map .ref)))(hR:RLs G (lstB Bs) as)(hen:G en=some (.list evs))(hE:EnsV G Bs evs)(hs:G sa=some (.list (sl.map wX)))(h4:sl.length=4)(ok:BsR Bs)(sw:Z9 sl Bs)
  (kk:∀G',Ext G G'->Q (.bool true) G'):Cal X (n+2) yD [.ref pt,.ref en,.ref sa] G Q:=by
 refine Cal.start (T.d 40 rfl) rfl rfl ?_;refine SnB.au (Sn.tup (SnEs.cons (Sn.aJ .nil λst G1 h1 x1 e1=>SnEs.cons (Sn.aJ .nil λrd G2 h2 x2 e2=>SnEs.nil ⟨by show 2<cap;decide,.mk _ _ _ _ rfl () () ?_⟩) (λ_=>rfl)) (λ_=>rfl)));have sj:SwK G st rd ([],[]) G2:=⟨x1.trans x2,x2 _ _ e1,e2⟩
 have fst:=h1;have frd:=x1.none h2;have nsr:=ne_new e1 h2;have las:as.length<=16:=by rw[hR.length];unfold lstB;rw[length_map];exact ok.len
 clear e1 h2 x2 e2 h1 x1;refine SnB.a9 .ref T.blt () (λ_ _=>rfl) (Rd.to (v:=.ref pt) () ⟨pt,as,rfl,sj.x _ _ hpt,SwA G pt en sa st rd sl Bs,λ_ k=>k ([],[]) Bs none none none none none none none none none none none none sj rfl hR rfl (zero_le _) (by rw[zero_add];exact las),λi r m G3 hI=>hI (λ_=>_) λ_ _ _ _ _ _ _ _ _ _ _ _ _ _ h _ _ _ _ _=>h.x _ _ hpt,λi a r m G3 QT hI hN hV=>?_,λi m G3 hI=>?_⟩)
 ·apply hI;intro S Cs at_ rows place row op ds ar mo fr spot opd just h eC hr hg hn hl;cases Cs with
  | nil=>cases hr
  | cons B Cs=>
  obtain⟨⟨rvs,r1,r2⟩,hr⟩:RowL G B.steps a/\RLs G (lstB Cs) r:=by cases hr with | cons h t=>exact⟨h,t⟩
  have hBi:Bs[i]?=some B:=by
   have e:(Bs.drop i)[0]?=some B:=by rw[<-eC];rfl
   rw[getElem?_drop] at e;exact e
  have eC':Cs=Bs.drop (i+1):=by
   have e:(Bs.drop i).drop 1=Cs:=by rw[<-eC];rfl
   rw[List.drop_drop] at e;exact e.symm
  refine vr (ok.st B (mem_of_getElem? hBi)) λoks okl okf okw=>?_;have hl':i+1+r.length<=16:=by rw[length_cons] at hl;lia
  refine⟨_,.tup (.two () ()),?_⟩;have r1':=h.x _ _ r1;have lrv:rvs.length<=39:=by rw[r2.length];exact okl
  refine SnB.a9 id T.blt () (λ_ _=>rfl) (Rd.to (v:=.ref a) () ⟨a,rvs,rfl,by rw[map_id];exact r1',SwB G pt en sa st rd sl Bs i (some (.int i)) (some (.ref a)) Cs B,λ_ k=>k S B.steps place row op ds ar mo fr spot opd just h rfl r2 hg hn (by rw[zero_add];exact lrv),λj r m G4 hJ=>by rw[map_id];exact hJ (λ_=>_) λ_ _ _ _ _ _ _ _ _ _ _ _ h _ _ _ _ _=>h.x _ _ r1,λj v xs m G4 QU hJ hM hW=>?_,λj m G4 hJ=>?_⟩)
  ·clear h hg hn hl r1' lrv hI hN;apply hJ;intro S ps place row op ds ar mo fr spot opd just h eP hx hg hn hl;cases hx with | @cons p ps _ _ hp hx=>
   obtain⟨la,ev,la1,po⟩:=hp;have hBj:B.steps[j]?=some p:=by
    have e:(B.steps.drop j)[0]?=some p:=by rw[<-eP];rfl
    rw[getElem?_drop] at e;exact e
   have eP':ps=B.steps.drop (j+1):=by
    have e:(B.steps.drop j).drop 1=ps:=by rw[<-eP];rfl
    rw[List.drop_drop] at e;exact e.symm
   have dw:=oks p (mem_of_getElem? hBj);have d2:=zJw dw.dr;have hl':j+1+xs.length<=39:=by rw[length_cons] at hl;lia
   refine⟨_,.tup (.two () (show Upd _ _ _ _ v _ from by walk_at"r")),?_⟩;refine .cons (.aP ((Rd.eq (Rd.var (v:=v) ()) ev).to ⟨_,.tup (.cons (Upd.aM ()) (.cons (Upd.aM ()) (.cons (Upd.aM ()) (.cons (Upd.aM ()) (.cons (Upd.aM ()) (.nil)))))),.next ?_⟩));refine SnB.bg (r:=false) (.and ((RdT.aG 4 () po).to ⟨λq1=>.and ((RdT.cmp (t:=decide (p.dst >= 0)) () .int (.ge qA)).to ⟨λq2=>.aX (.not (.val (Sn.ref (T.f 36 rfl) () (λ_ _=>rfl) (.cons () (.cons () (.cons () (.cons (.bin (v:=.int j) () .int (.add qA)) (.cons () .nil))))) (u5 (n:=n) T (h.x _ _ hpt) (hR.lk h.x.lk) (h.x _ _ hen) (hE.ext h.x) ok (natCast_nonneg i) (sw.w i B j p hBi hBj (of_decide_eq_true q1) (of_decide_eq_true q2)) λG' x=>⟨true,.bool _,rfl,x⟩)))),λ_=>⟨rfl,.refl⟩⟩),λ_=>⟨rfl,.refl⟩⟩)) (λq=>nomatch q) λ_ G5 x5=>.aK ?_;have h5:=h.ext x5;clear h;refine SnB.a9 opdV T.blt () (λ_ _=>rfl) (Rd.to (v:=.ref la) () ⟨la,p.args,rfl,h5.x _ _ la1,SwC G pt en sa st rd sl Bs i j (some (.int i)) (some (.ref a)) (some (.int j)) (some v) (some (.str (opS p.op))) (some (.int p.dst)) (some (.ref la)) (some p.more) (some (.bool p.vol)) Cs p ps,λ_ k=>k S spot opd just h5 hg hn (by rw[zero_add];exact d2),λk r m G6 hJ=>hJ (λ_=>_) λ_ _ _ _ h _ _ _=>h.x _ _ la1,λk o r m G6 QV hK hO hV=>?_,λk m G6 hK=>?_⟩)
   ·clear h5;apply hK;intro S spot opd just h hg hn hl;have hl':k+1+r.length<=2:=by rw[length_cons] at hl;lia
    refine⟨_,.tup (.two () ()),?_⟩;have hg:Cs.foldl (λS B=>B.steps.foldl (jl sl) S) (ps.foldl (jl sl) (jC sl p r (k+1) (zw sl p k S o)))=cells sl Bs:=hg;refine SnB.ifs (r:=uZ o) (.and (zHu (.eO ())) λ_=>.aX (.between .int (.cX ()) .int)) (λq=>?_) λq=>.aK (.nil (hO λ_ kq=>kq S _ _ _ h (by rw[<-hg];unfold zw;rw[q];rfl) (by lia) hl'));have q2:2<=o.2/\o.2<=4:=by
     have:=(Bool.and_eq_true_iff.mp q).2;exact⟨of_decide_eq_true (Bool.and_eq_true_iff.mp this).1,of_decide_eq_true (Bool.and_eq_true_iff.mp this).2⟩
    refine SnB.assign (v:=.bool (zN sl p k (o.2 - 2))) ?_ () ?_
    ·rw[zE6];exact .and (.cmp () .str (.bH ⟨by rw[show ("store" : Str)=opS 1 from by decide +kernel];rw[zJ1 po ()],rfl⟩)) λq1=>.and (.bK ()) λ_=>.and (.not () (.bool _)) λ_=>.aX (.cmp (v:=.int (wI p.more)) (by rw[<-zDT dw.dr (of_decide_eq_true q1)];walk_at"r") (.size (h.x _ _ hs) () (.bin (.cX ()) .int (.sub qA)) (by lia) (by lia) h4) (.le qA))
    have hn':S.1.length+S.2.length<=80 * i+2 * j+k:=hn;have hS:nS S<=1999:=by lia
    have lS1:S.1.length<=1999:=le_trans (le_add_right _ _) hS;have lS2:S.2.length<=1999:=le_trans (le_add_left _ _) hS;cases hb:zN sl p k (o.2 - 2) with
    | true=>
     have eS:zw sl p k S o=(S.1++[o.2],S.2):=by unfold zw;rw[if_pos q];rw[if_pos hb]
     rw[eS] at hg;refine SnB.bF (a:=st) (.ite (r:=true) (w:=.none) (.val () (.bool _)) (λ_=>()) λq=>nomatch q) h.s (.cX ()) (by rw[length_map];exact le_trans lS1 ()) λG7 x7 e7=>?_;rw[<-List.map_singleton (f:=Val.int)] at e7;rw[<-List.map_append] at e7;refine .nil (.next (.nil (hO λ_ kq=>kq (S.1++[o.2],S.2) _ _ _ ⟨h.x.fresh fst x7,e7,x7 _ _ nsr.symm h.r⟩ hg (by show (S.1++[o.2]).length+S.2.length<=_;rw[length_append];show S.1.length+1+S.2.length<=_;lia) hl')))
    | false=>
     have eS:zw sl p k S o=(S.1,S.2++[o.2]):=by unfold zw;rw[if_pos q];rw[if_neg (by rw[hb];exact Bool.false_ne_true)]
     rw[eS] at hg;refine SnB.bF (a:=rd) (.ite (r:=false) (v:=.none) (.val () (.bool _)) (λq=>nomatch q) λ_=>()) h.r (.cX ()) (by rw[length_map];exact le_trans lS2 ()) λG7 x7 e7=>?_;rw[<-List.map_singleton (f:=Val.int)] at e7;rw[<-List.map_append] at e7;refine .nil (.next (.nil (hO λ_ kq=>kq (S.1,S.2++[o.2]) _ _ _ ⟨h.x.fresh frd x7,x7 _ _ nsr h.s,e7⟩ hg (by show S.1.length+(S.2++[o.2]).length<=_;rw[length_append];show S.1.length+(S.2.length+1)<=_;lia) hl')))
   ·apply hK;intro S spot opd just h hg hn hl;have hl:k<=2:=hl;exact .nil (hM λ_ k=>k S ps _ _ _ _ _ _ _ _ _ _ h eP' hx hg (by lia) hl')
  ·apply hJ;intro S ps place row op ds ar mo fr spot opd just h eP hx hg hn hl;have hl:j<=39:=hl;cases hx;exact .nil (hN λ_ k=>k S Cs _ _ _ _ _ _ _ _ _ _ _ _ h eC' hr hg (by lia) hl')
 ·apply hI;intro S Cs at_ rows place row op ds ar mo fr spot opd just h eC hr hg hn hl;have hl:i<=16:=hl;have eS:S=cells sl Bs:=by
   cases Cs with
   | nil=>exact hg
   | cons=>cases hr
  have hS:nS S<=1999:=by lia
  have lS1:S.1.length<=1999:=le_trans (le_add_right _ _) hS;have hc:=sw.c;rw[<-eS] at hc;refine SnB.aH (Sn.fn (id:="all") T.blt () () () (λ_ _=>rfl) (SnEs.cons (Sn.comp (by decide +kernel) (.seq (Rd.to (v:=.ref st) () ⟨_,_,.list h.s,by rw[length_map];exact lt_of_le_of_lt lS1 (),SfI G3 S.2 (S.1.map λc=>S.2.any λd=>d == c),.cap (sc':=j8) [none,none,some (.ref rd)] ⟨λv xs acc G5 hI=>?_,λacc G5 hI=>?_⟩ (capn (capn (capv ⟨by walk_at"0",by walk_at"0",()⟩ cap0))),.mk S.1 [] rfl rfl rfl rfl⟩)))))
  ·obtain⟨cs,bs,e1,rfl,rfl,hg⟩:=hI;cases cs with
   | nil=>cases e1
   | cons c cs=>
    obtain⟨rfl,rfl⟩:=List.cons.inj e1;exact⟨h.s,_,.name (Upd.put ()),.nil ⟨λ_=>Rd.to (v:=.bool (S.2.any λd=>d == c)) (.cmp () () (.eV h.r)) (.mk cs (bs++[S.2.any λd=>d == c]) rfl (by rw[List.map_append];rfl) rfl (by rw[<-hg];rw[append_assoc];rfl)),λq=>nomatch q⟩⟩
  ·obtain⟨cs,bs,e1,rfl,rfl,hg⟩:=hI;cases cs with
   | cons=>cases e1
   | nil=>
    have hg:bs=S.1.map λc=>S.2.any λd=>d == c:=by rw[<-hg];exact(append_nil bs).symm
    subst hg;refine⟨h.s,NewL.nl λlb G6 h6 x6 e6=>SnEs.nil (Blt.dY e6 (by rw[length_map];exact lt_of_le_of_lt lS1 ()) ?_)⟩;rw[List.all_map];have e:S.1.all (id ∘ λc=>S.2.any λd=>d == c)=true:=hc;rw[e];exact kk G6 (h.x.trans x6)
end
section
variable {X:Cx}{n:Nat}{G G':Gh}{sc:Scope}{os os' os'':List (Option Val)}{m:M}{v w:Val}
theorem zHA {env:Env}{f:Value}{P:Args->Shared->Prop}:∀l:List (Bool×Sem Value),l.any (·.1)=false->wpAny (model X.prog X.w) A (spliced l) (λys s₁=>P ⟨ys,[]⟩ s₁) NoE s->wpAny (model X.prog X.w) A (evalArgs f true l []) P NoE s:=by
 intro l hl h;cases l with
 | nil=>
  unfold evalArgs;show wpAny _ A (spliced [] >>= _) _ _ s;refine wpAny_bind (zA h λvs s' h'=>?_);refine wpAny_bind (wpAny_pure ?_);refine wpAny_holding ?_;exact wpAny_bind (wpAny_pure (wpAny_bind (wpAny_pure (wpAny_pure h'))))
 | cons p l=>
  obtain⟨q,t⟩:=p;rw[any_cons] at hl;rw[or_eq_false_iff] at hl;obtain rfl:q=false:=hl.1;exact Calls.evalArgs_plain h
theorem Rd.isBool {c:Bool}(hx:Zv X)(hk:Zf sc "isinstance")(hk2:Zf sc "bool")(h:Rd X n sc e m G (.bool c))(hn:Zj [e,.Name "bool" p2]:=by exact λ_ _=>rfl)(hs:NS e:=by intro _ _;rfl):Rd X n sc (.Call (.Name "isinstance" p) [e,.Name "bool" p2] [] pos) m G (.bool true):=⟨λ{env A b s} hy=>
 PyProof.Rows.Call_ (wpAny_Name (zAK hy.he hy.hb hy.hr hk (hx.mg "isinstance" ()) (hx.fn "isinstance" ()) (Calls.callWith_builtin (first:=[]) (hn.any _ _) (zHA (env:=env) _ (hn.any _ _) (args_cons (Sn.use h hy λx s₁ v G1 hv hy1 f₁ q=>by
  obtain⟨rfl,rfl⟩:=q;rw[hv.bool_inv];refine args_cons (wpAny_Name (zAK hy1.he hy1.hb hy1.hr hk2 (hx.mg "bool" ()) (hx.ty "bool" ()) (args_nil ?_)) (hk2.bL hy1.he));exact PySem.IsiPair.bool_bool (.mk _ _ (.bool _) hy1.hr f₁ qA)) (hs _ _))))) (hk.bL hy.he))⟩
noncomputable def zGU (x:Note):PyData:=.tuple (x.1.elim (x.2.map .int) λt=>.str (opS t.1)::.list (t.2.1.map .int)::jE t.2.2::x.2.map .int)
noncomputable def resD (o:Out1):PyData:=.tuple [y3 o.1,.list (o.2.1.map zGU),.int o.2.2.1,.int o.2.2.2]
theorem ResV.lk (h:ResV G o v)(x:LK G G'):ResV G' o v:=by obtain⟨no,vs,e,h2,h3,ha⟩:=h;exact⟨no,vs,e,x _ _ h2,h3.map λa xs _ e=>x a xs e,ha⟩
theorem zFE {is:List Int}{k:Nat}:RDs G k (is.map .int) (is.map .int):=.map _ _ _ λi _=>.int i
theorem NtAt.rd {k:Nat}(h:NtAt no G nt vs):RDs G (k+2) vs (nt.map zGU):=by
 induction h with
 | nil=>exact .nil
 | cons a _ ih=>
  refine .cons ?_ ih;cases a with
  | see l=>exact .aU zFE
  | acc op kn more x ga h _ ho hm=>exact .aU (.cons (.str (zIK _ ho)) (.cons (.aS h zFE) (.cons hm.rd (.cons (.int _) .nil))))
theorem ResV.rd {k:Nat}(h:ResV G o v):RD G (k+4) v (resD o):=by obtain⟨no,vs,rfl,h2,h3,ha⟩:=h;exact .aU (.cons ha.rd (.cons (.aS h2 h3.rd) (.cons (.int _) (.cons (.int _) .nil))))
theorem zC4 {α:Type}{f:α->PyData}:∀{l:List α},(∀a∈l,(f a).eqv (f a)=true)->PyData.eqvAll (l.map f) (l.map f)=true:=λ{l}=>by
 induction l with
 | nil=>exact λ_=>rfl
 | cons a l ih=>
  intro h;show ((f a).eqv (f a)&&PyData.eqvAll (l.map f) (l.map f))=true;rw[h a (.head _)];rw[ih (zL h)];rfl
theorem zDD (is:List Int):PyData.eqvAll (is.map .int) (is.map .int)=true:=zC4 λi _=>beq_self_eq_true i
theorem NtAt.eqv (h:NtAt no G nt vs):∀x∈nt,(zGU x).eqv (zGU x)=true:=by
 induction h with
 | nil=>exact zH
 | cons a _ ih=>
  refine zB ?_ ih;cases a with
  | see l=>exact zDD l
  | acc op kn more x ga _ _ _ hm=>
   show ((opS op == opS op)&&(PyData.eqvAll _ _&&((jE more).eqv (jE more)&&((x == x)&&true))))=true;rw[beq_self_eq_true];rw[zDD];rw[hm.eqv];rw[beq_self_eq_true];rfl
theorem ResV.eqv (h:ResV G o v):(resD o).eqv (resD o)=true:=by obtain⟨no,vs,e,h2,h3,ha⟩:=h;show ((y3 o.1).eqv (y3 o.1)&&(PyData.eqvAll _ _&&((o.2.2.1 == o.2.2.1)&&((o.2.2.2 == o.2.2.2)&&true))))=true;rw[ha.eqv];rw[zC4 h3.eqv];rw[beq_self_eq_true];rw[beq_self_eq_true];rfl
theorem Op2.dU (h:ResV G o v)(k:ResV G o w):O2 X n (compareOp .Eq) v w G (.bool true):=.eq (h.rd (k:=8)) (k.rd (k:=8)) ⟨by rw[h.eqv],rfl⟩
theorem zIE (o:Opd):(opdD o).eqv (opdD o)=true:=by rw[zAt];unfold zC5;rw[beq_self_eq_true];rw[beq_self_eq_true];rfl
theorem EndV.rd (h:EndV G f v)(hm:Zi f.more):RD G 11 v (.tuple [.str (opS f.op),.list (f.args.map opdD),jE f.more]):=by obtain⟨el,rfl,ha,ho⟩:=h;exact .aU (.cons (.str (zIK _ ho)) (.cons (.aS ha (.map _ _ _ λo _=>zCp o 8)) (.cons hm.rd .nil)))
theorem EnsV.eQ {Bs:List PB}{v1 v2:List Val}(h:EnsV G Bs v1)(k:EnsV G Bs v2)(hm:∀B∈Bs,Zi B.fin.more):∃ds,RDs G 11 v1 ds/\RDs G 11 v2 ds/\PyData.eqvAll ds ds=true:=by
 induction h generalizing v2 with
 | nil=>cases k;exact⟨[],.nil,.nil,rfl⟩
 | @cons B Bs _ _ a _ ih=>
  cases k with | cons b k=>
  refine zU (ih k (zL hm)) λds r1 r2 e=>?_;have hd:=hm B (.head _);refine⟨_::ds,.cons (a.rd hd) r1,.cons (b.rd hd) r2,?_⟩;show (((opS B.fin.op == opS B.fin.op)&&(PyData.eqvAll (B.fin.args.map opdD) (B.fin.args.map opdD)&&((jE B.fin.more).eqv (jE B.fin.more)&&true)))&&PyData.eqvAll ds ds)=true;rw[beq_self_eq_true];rw[zC4 λo _=>zIE o];rw[hd.eqv];rw[e];rfl
theorem Op2.cg {Bs:List PB}{v1 v2:List Val}(h1:EnsV G Bs v1)(e1:G a=some (.list v1))(h2:EnsV G Bs v2)(e2:G b=some (.list v2))(hm:∀B∈Bs,Zi B.fin.more):O2 X n (compareOp .NotEq) (.ref a) (.ref b) G (.bool false):=by refine zU (h1.eQ h2 hm) λds r1 r2 e=>?_;exact .ne (.aS e1 r1) (.aS e2 r2) ⟨by show Val.bool (!(PyData.eqvAll ds ds))=_;rw[e];rfl,rfl⟩
theorem Zo.ct {Bs Bs':List PB}(h:Zo Bs Bs'){P:PS->Prop}:(∀B∈Bs,P B.fin)->∀B∈Bs',P B.fin:=by
 induction h with
 | nil=>exact λ_=>zH
 | cons h1 _ _ _ ih=>exact λk=>zB (h1▸k _ (.head _)) (ih (zL k))
theorem EnsV.rel {Bs Bs':List PB}{vs:List Val}(h:EnsV G Bs vs)(k:Zo Bs Bs'):EnsV G Bs' vs:=by
 induction k generalizing vs with
 | nil=>exact h
 | cons h1 _ _ _ ih=>cases h with | cons a t=>exact .cons (h1.symm▸a) (ih t)
theorem zHJ {Bs:List PB}{B:PB}(h:B∈Bs):B.steps.length<=wtB Bs:=by
 have key:∀ps:List PS,ps.length<=wtS ps:=λps=>by
  induction ps with
  | nil=>exact le_refl _
  | cons p ps ih=>rw[wc];rw[length_cons];rw[Nat.add_comm];exact add_le_add (uf p) ih
 induction Bs with
 | nil=>cases h
 | cons A As ih=>
  have e:wtB (A::As)=wtS A.steps+wtB As:=by unfold wtB;rw[map_cons];rw[List.sum_cons]
  rw[e];rcases List.mem_cons.mp h with rfl | q
  ·exact le_trans (key _) (le_add_right _ _)
  ·exact le_trans (ih q) (le_add_left _ _)
theorem Zo.get {Bs Bs':List PB}(h:Zo Bs Bs'):∀{i:Nat} {B:PB},Bs[i]?=some B->∃B',Bs'[i]?=some B'/\Lss B.steps B'.steps:=by
 induction h with
 | nil=>exact λe=>nomatch e
 | cons _ _ h3 _ ih=>
  intro i B e;cases i with
  | zero=>cases e;exact⟨_,rfl,h3⟩
  | succ i=>exact ih (i:=i) e
theorem FinW.rel (h:FinW B)(h1:B'.fin=B.fin)(h2:B'.ways=B.ways):FinW B':=by
 cases h with
 | jump i h hm hw=>exact .jump i (h1▸h) (h1▸hm) (h2.trans hw)
 | branch i j r h hm hw ha=>exact .branch i j r (h1▸h) (h1▸hm) (h2.trans hw) (h1▸ha)
 | give r h hw ha=>exact .give r (h1▸h) (h2.trans hw) (h1▸ha)
theorem Zo.fw {Bs Bs':List PB}(h:Zo Bs Bs'):(∀B∈Bs,FinW B)->∀B∈Bs',FinW B:=by
 induction h with
 | nil=>exact λ_=>zH
 | cons h1 h2 _ _ ih=>exact λk=>zB ((k _ (.head _)).rel h1 h2) (ih (zL k))
structure LwS (sl:Za)(v:Int)(Bs0:List PB)(o:Out1)(Bs:List PB):Prop where
 gd:Gd Bs
 rel:Zo Bs0 Bs
 run:runG sl Bs 8 0 (s00 v)=some o
 fw:∀B∈Bs,FinW B
 mr:∀B∈Bs,Zi B.fin.more
 fl:∀B∈Bs,B.fin.args.length<=8
 wt:wtB Bs<=33
 si:SIa Bs
 ne:NoSl Bs
theorem LwS.bs {sl:Za}{v:Int}{Bs0 Bs:List PB}{o:Out1}(h:LwS sl v Bs0 o Bs):BsR Bs:=⟨h.gd.ok.few,λB hB=>⟨λp hp=>(h.gd.steps B hB p hp).1,le_trans (zHJ hB) (le_trans h.wt ()),h.fw B hB,λj hj=>((h.gd.ok.blks B hB).goals j hj).1⟩⟩
theorem zCv {Bs:List PB}(h:Gd Bs):Z4 (lstB Bs):=λps hps p hp=>by
 refine zC (List.mem_map.mp hps) λB hB eq2=>?_;subst eq2;exact(h.steps B hB p hp).1.dr.more
theorem zDk {l:List Int}:∀{i:Nat} {ps:List (List PS)},(vO sl i l ps).length=ps.length:=by
 induction l with
 | nil=>intro i ps;rfl
 | cons n r ih=>
  intro i ps;show (vO sl (i+1) r (ps.set (i % 3) _)).length=_;rw[ih];rw[length_set]
theorem Mk4.few {Bs:List PB}{as:List Addr}{vs:List Val}(h:Mk4 G Bs as vs):∀B∈Bs,B.fin.args.length<=8:=by
 induction h with
 | nil=>exact zH
 | cons _ _ _ _ h5 _ _ ih=>exact zB h5 ih
structure Y2 (G:Gh)(Bs:List PB)(as:List Addr)(evs:List Val):Prop where
 m4:Mk4 G Bs as evs
 en:EnsV G Bs evs
 fw:∀B∈Bs,FinW B
 mr:∀B∈Bs,Zi B.fin.more
theorem zIZ {ns:List Int}(h:PgR G0 G ns pa ea sa as)(gd:Gd (zAP (zz (ns.getD 0 0)) ns)):∃evs,G ea=some (.list evs)/\Y2 G (zAP (zz (ns.getD 0 0)) ns) as evs:=by
 obtain⟨_,_,rl,_,e0,e1,e2,he,h0,h1,h2⟩:=h;refine⟨_,he,?_⟩;have hs:=gd.ok.blks;unfold zAP at hs ⊢;have hl:(vB (zz (ns.getD 0 0)) ns).length=3:=by unfold vB vt;rw[length_set];rw[zDk];rfl
 generalize vB (zz (ns.getD 0 0)) ns=pp at rl hl hs;cases rl with | nil=>cases hl | cons r0 rl=>cases rl with | nil=>cases hl | cons r1 rl=>cases rl with | nil=>cases hl | cons r2 rl=>cases rl with | cons=>cases hl | nil=>
 have bk:∀{N:Nat} {B:PB},BOK N B->B.steps.length<=900/\∀p∈B.steps,p.args.length<=8:=λh=>⟨h.len,λp hp=>(h.wf p hp).few⟩
 have m2:∀i j:Int,Zi (.tup [.int i,.int j]):=λi j=>.tup (zB (.int _) (zB (.int _) zH));exact⟨.cons r0 h0 (.jump rfl rfl) rfl (zero_le _) (bk (hs _ (.head _))) (.cons r1 h1 (.branch rfl rfl) rfl L18 (bk (hs _ (.tail _ (.head _)))) (.cons r2 h2 (.other rfl rfl rfl) rfl L18 (bk (hs _ (.tail _ (.tail _ (.head _))))) .nil)),
  .cons h0 (.cons h1 (.cons h2 .nil)),zB (.jump 1 rfl rfl rfl) (zB (.branch 1 2 9 rfl rfl rfl rfl) (zB (.give (6+Int.fmod (ns.getD 2 0) 3) rfl rfl rfl) zH)),zB (.atom (.int _)) (zB (m2 _ _) (zB (.atom (.int _)) zH))⟩
theorem LwS.turn {sl:Za}{v:Int}{Bs0 Bs:List PB}{o:Out1}{AH:List (Int×Nat)}(S:LwS sl v Bs0 o Bs)(t:Yk sl v Bs AH (w9 sl (zK pa0 (zR Bs)) AH Bs)):LwS sl v Bs0 o (w9 sl (zK pa0 (zR Bs)) AH Bs).1:=
 ⟨t.gd,S.rel.trans t.sw.rel,t.run o S.run,t.sw.rel.fw S.fw,t.sw.rel.ct (P:=λf=>Zi f.more) S.mr,t.sw.rel.ct (P:=λf=>f.args.length<=8) S.fl,le_trans t.sw.le S.wt,λc h2 h4=>zHk (Int.le_trans () h2) S.gd t (S.si c h2 h4),t.sw.rel.ct (P:=λf=>∀o∈f.args,o.1=true->5<=o.2) S.ne⟩
end
section
variable {X:Cx}{n:Nat}{G G':Gh}{sc:Scope}{os os' os'':List (Option Val)}{m:M}{v w:Val}
inductive AlI (G0:Gh)(xs acc:List Val)(G:Gh):Prop where
 | mk (i:Nat) (hi:i<=3) (e1:xs=rg i 3) (e2:acc=(replicate i true).map .bool) (x:Ext G0 G)
theorem zHH (i:Nat):(replicate i true).all id=true:=by rw[all_eq_true];exact λb hb=>(List.mem_replicate.mp hb).2
theorem Sn.cK {kd:Nat}{ls ws:List Addr}{Bs Bs':List PB}(T:Tops X)(hka:Zf sc "all")(hkr:Zf sc "range")(hr:relS sc scope=uw)(hok:yZ sc scope=true)
  (hm:∀y w,Loc uw.names [none,none,none,some (.ref le),some (.ref wa)] y w->capM sc scope (L sc os) y w) (e1:G le=some (.list (ls.map .ref))) (h1:RLs G (lstB Bs') ls) (e2:G wa=some (.list (ws.map .ref))) (h2:RLs G (lstB Bs) ws) (d1:∀B∈Bs',∀p∈B.steps,DrW p) (d2:∀B∈Bs,∀p∈B.steps,DrW p) (rel:Zo Bs Bs') (h4:Bs.length=3) (h39:wtB Bs'<=33)
  (k:∀G',Ext G G'->Q (.bool true) G'):Sn X (n+1) sc (.Call (.Name "all" p1) [.ListComp (.Call (.Name "_law_is_less" p2) [.Subscript (.Name "left" p3) (.Name "at" p4) p5,.Subscript (.Name "was" p6) (.Name "at" p7) p8] [] p9) [⟨.Name "at" p10,.Call (.Name "range" p11) [.Constant (.int 3) kd p12] [] p13,[],0⟩] scope cpos] [] pos) (L sc os) G Q:=by
 refine Sn.fn (id:="all") T.blt () () hka (λ_ _=>rfl) (SnEs.cons (Sn.comp hok (.range T.blt hkr (λ_ _=>rfl) (Rds.to (vs:=[.int 3]) (.cons .int .nil) ⟨3,rfl,(),(),AlI G,.cap (sc':=uw) [none,none,none,some (.ref le),some (.ref wa)] ⟨?_,?_⟩ hm hr,⟨0,(),jb 3,rfl,.refl⟩⟩))))
 ·intro v xs acc G2 hI;obtain⟨i,hi,e0,rfl,x⟩:=hI;have hlt:i<3:=lt_of_not_le λq=>by rw[zCl q] at e0;cases e0
  rw[jO hlt] at e0;obtain⟨rfl,rfl⟩:=List.cons.inj e0;obtain⟨B,hB⟩:∃B,Bs[i]?=some B:=⟨_,getElem?_eq_getElem (h4▸hlt)⟩
  refine zC (rel.get hB) λB' hB' hls=>?_;have gB:(lstB Bs)[i]?=some B.steps:=by unfold lstB;rw[getElem?_map];rw[hB];rfl
  have gB':(lstB Bs')[i]?=some B'.steps:=by unfold lstB;rw[getElem?_map];rw[hB'];rfl
  refine zC (h1.get gB') λla hla rl=>?_;refine zC (h2.get gB) λwb hwb rw_=>?_;have mB:=mem_of_getElem? hB;have mB':=mem_of_getElem? hB';have hcap:(i:Int).natAbs<cap:=(show i<cap from lt_of_lt_of_le hlt ())
  refine⟨trivial,_,Upd.aM (),.nil ⟨λ_=>?_,λq=>nomatch q⟩⟩;refine Sn.ref (T.f 35 rfl) () (λ_ _=>rfl) (.cons (.aF () (x _ _ e1) () hcap (ya (by rw[getElem?_map];rw[hla];rfl))) (.cons (.aF () (x _ _ e2) () hcap (ya (by rw[getElem?_map];rw[hwb];rfl))) .nil)) (v8 T (rl.ext x) (rw_.ext x) (λp hp=>(d1 B' mB' p hp).dr.more) (λp hp=>(d2 B mB p hp).dr.more) (le_trans (zHJ mB') (le_trans h39 ())) ?_);rw[zI0 hls λp hp=>(d2 B mB p hp).dr];exact⟨i+1,hlt,rfl,by rw[List.replicate_succ'];rw[List.map_append];rfl,x⟩
 ·intro acc G2 hI;obtain⟨i,hi,e0,rfl,x⟩:=hI;refine⟨trivial,NewL.nl λc G3 hc x3 e3=>SnEs.nil (Blt.dY e3 (by rw[List.length_replicate];exact lt_of_le_of_lt hi ()) ?_)⟩;rw[zHH];exact k G3 (x.trans x3)
end
section
variable {X:Cx}{n:Nat}{G G':Gh}{sc:Scope}{os os' os'':List (Option Val)}{m:M}{v w:Val}
abbrev lwL (l nu pt en sa:Addr)(va:Int)(du:Val)(bo:Addr)(le sy tu wa:Option Val):M:=L zHP [some (.ref l),some (.ref nu),some (.ref pt),some (.ref en),some (.ref sa),some (.int va),some du,some (.ref bo),le,sy,tu,wa,none,none,none,none,none,none,none,none,none,none,none,none,none,none]
structure LwF (G:Gh)(en sa:Addr)(du:Val)(evs:List Val)(sl:Za)(Bs0:List PB)(o:Out1):Prop where
 en:G en=some (.list evs)
 ens:EnsV G Bs0 evs
 du:ResV G o du
 sa:G sa=some (.list (sl.map wX))
theorem LwF.lk {en sa:Addr}{du:Val}{evs:List Val}{sl:Za}{Bs0:List PB}{o:Out1}(h:LwF G en sa du evs sl Bs0 o)(x:LK G G'):LwF G' en sa du evs sl Bs0 o:=⟨x _ _ h.en,h.ens.lk x,h.du.lk x,x _ _ h.sa⟩
structure LwB (G:Gh)(bo le:Addr)(sl:Za)(bs rls:List Addr)(Bs:List PB):Prop where
 f:Zh G bo [0,1] sl bs
 b:Zd G 0 bs Bs
 nd:bs.Nodup
 le:G le=some (.list (rls.map .ref))
 rl:RLs G (lstB Bs) rls
inductive LwI (l nu pt en sa:Addr)(va:Int)(du:Val)(bo:Addr)(evs:List Val)(sl:Za)(Bs0:List PB)(o:Out1)(i:Nat)(m:M)(G:Gh):Prop where
 | mk (le:Addr) (sy tu wa:Option Val) (bs rls:List Addr) (Bs:List PB) (e:m=lwL l nu pt en sa va du bo (some (.ref le)) sy tu wa) (F:LwF G en sa du evs sl Bs0 o) (B:LwB G bo le sl bs rls Bs) (S:LwS sl va Bs0 o Bs) (hw:wtB Bs+i<=33)
theorem zFc {Bs:List PB}(h:Gd Bs):(zR Bs).length<=900:=le_trans zFd h.few
theorem Zo.len {Bs Bs':List PB}(h:Zo Bs Bs'):Bs'.length=Bs.length:=by
 induction h with
 | nil=>rfl
 | cons _ _ _ _ ih=>exact congrArg (· + 1) ih
theorem Mk4.df {Bs:List PB}{as:List Addr}{vs:List Val}(h:Mk4 G Bs as vs):RLs G (lstB Bs) as:=by
 induction h with
 | nil=>exact .nil
 | cons h1 _ _ _ _ _ _ ih=>exact .cons h1 ih
theorem Mk4.ext {Bs:List PB}{as:List Addr}{vs:List Val}(h:Mk4 G Bs as vs)(x:Ext G G'):Mk4 G' Bs as vs:=by
 induction h with
 | nil=>exact .nil
 | cons h1 h2 h3 h4 h5 h6 _ ih=>exact .cons (h1.ext x) (h2.ext x) (h3.ext x) h4 h5 h6 ih
theorem zJP {ns:List Int}(T:Tops X)(hl:(ns.map Val.int).length<=2 * cap/\∃ys,X.H0.IsList l ys/\VRs X.H0 (ns.map .int) ys.toList)(kk:∀G',Q (.bool true) G'):Cal X (n+8) zFi [.ref l] G Q:=by
 refine Cal.start (T.d 41 rfl) rfl rfl ?_;have ok:=zIM ns;refine SnB.aB (Sn.ref (T.f 22 rfl) () (λ_ _=>rfl) () (v7 T hl λnu G1 hn x1=>⟨_,(),?_⟩));generalize zEd ns=ns at ok hn;refine .cons (.aP (Sn.ref (T.f 24 rfl) () (λ_ _=>rfl) () (v6 T hn ok λpt en sa as G2 hP=>⟨_,.tup (.cons (Upd.aM ()) (.cons (Upd.aM ()) (.cons (Upd.aM ()) .nil))),.next ?_⟩)));have h1:ns[1]?=some (ns.getD 1 0):=by rw[getD_eq_getElem?_getD];rw[getElem?_eq_getElem (lt_of_lt_of_le () ok.lo)];rfl
 refine SnB.assign (v:=.int (Int.fmod (ns.getD 1 0) 1000000)) (.aO (.aF () (hP.ex _ _ hn) .int () (zY (f:=Val.int) (i:=1) h1))) () ?_;obtain⟨v0,v1⟩:=fm (x:=ns.getD 1 0) (k:=1000000) ();generalize Int.fmod (ns.getD 1 0) 1000000=va at v0 v1;obtain⟨gd,⟨o,run⟩,wt,si,ne⟩:=zGo ok v0 v1;obtain⟨evs,hev,m4,men,mfw,mmr⟩:=zIZ hP gd;have hpt:=hP.pt;have hsl:=hP.sl;have hrl:RLs G2 (lstB (zAP (zz (ns.getD 0 0)) ns)) as:=m4.df;have sok:=zA4 (ns.getD 0 0);generalize zz (ns.getD 0 0)=sl at *;generalize zAP sl ns=Bs0 at *;have S0:LwS sl va Bs0 o Bs0:=⟨gd,.refl,run,mfw,mmr,m4.few,wt,si,ne⟩
 clear hP h1 hn x1 hl v0 v1;refine SnB.aB (Sn.ref (T.f 34 rfl) () (λ_ _=>rfl) () (vz T hpt hrl hev men hsl sok.len S0.bs run λdu G3 x3 rs=>⟨_,(),?_⟩));refine SnB.aB (Sn.call (T.f 25 rfl) () (λ_ _=>rfl) (SnEs.cons (Rd.to (v:=.ref pt) () (SnEs.cons (Rd.to (v:=.ref en) () (SnEs.cons (Sn.ty (id:="list") T.blt () () () (λ_ _=>rfl) (Rds.to (vs:=[.ref sa]) () (Blt.ak (x3 _ _ hsl) (by rw[length_map];rw[sok.len];decide) λs2 G4 h4 x4 e4=>SnEs.nil ?_))) (λ_=>rfl))) (λ_=>rfl))) (λ_=>rfl)));have x34:=x3.trans x4;refine zBu T (x34 _ _ hpt) (x34 _ _ hev) e4 (m4.ext x34) gd.ok.few λbo bs G5 x5 hf hb nd _=>⟨_,(),?_⟩
 refine SnB.au (Sn.tup (SnEs.cons (Sn.ref (T.f 26 rfl) () (λ_ _=>rfl) () (jG T hf hb gd.ok λle rls G6 x6 e6 r6=>SnEs.cons (Rd.to (v:=.bool true) () (SnEs.nil ⟨by show 2<cap;decide,.mk _ _ _ _ rfl () () ?_⟩)) (λ_=>rfl))) (λ_=>rfl)));have x36:=x4.trans (x5.trans x6);have x26:=x3.trans x36;have F6:LwF G6 en sa du evs sl Bs0 o:=⟨x26 _ _ hev,men.lk x26.lk,rs.lk x36.lk,x26 _ _ hsl⟩
 have B6:LwB G6 bo le sl bs rls Bs0:=⟨hf.ext x6,hb.ext x6,nd,e6,r6⟩
 clear hpt hev m4 men hsl hrl gd run x3 x4 x34 h4 e4 x5 hf hb nd rs x6 e6 r6 x36 x26 si ne mfw mmr;refine SnB.forR 60 T.blt () .int () (LwI l nu pt en sa va du bo evs sl Bs0 o) ⟨le,_,none,none,bs,rls,Bs0,rfl,F6,B6,S0,wt⟩ (λi m G7 hi hI=>?_) λm G7 hI=>?_
 ·clear F6 B6 S0;obtain⟨le,sy,tu,wa,bs,rls,Bs,rfl,F,B,S,hw⟩:=hI;refine⟨_,.name (Upd.put ()),?_⟩;refine SnB.assign (v:=.ref le) () () ?_;obtain⟨AH,t⟩:=turn sok (v:=va) S.gd;have cf:=t.cf;refine SnB.aB (Sn.ref (T.f 21 rfl) () (λ_ _=>rfl) () (zAX T B.f B.b B.nd S.gd.ok (zFc S.gd) () (λp hp=>?_) (by rw[sok.len];decide) cf.po cf.eM (λq hq=>le_trans (cf.two q hq) ()) t.go λG8 x8 hB8=>⟨_,(),?_⟩))
  ·refine zC (u9 hp) λB' hB' hp=>?_;exact zCA sok.len (S.gd.steps B' hB' p hp).1.dr
  have lk8:=x8.lk B.b;have hf8:=B.f.bh B.b x8;have F8:=F.lk lk8;have le8:=lk8 _ _ B.le;have rl8:=B.rl.lk lk8;have S8:=S.turn t;have hso:(w9 sl (zK pa0 (zR Bs)) AH Bs).2=false->Z9 sl Bs:=zFp sok S.gd S.si S.ne t;have sw:=t.sw;have hsay:=zHp sw λB hB p hp=>(S.gd.steps B hB p hp).1.dr;generalize w9 sl (zK pa0 (zR Bs)) AH Bs=R at hB8 sw S8 hsay hso ⊢;obtain⟨Bs8,c8⟩:=R;have gdS:=S.gd;have gd8:=S8.gd;have nd:=B.nd;clear x8 lk8 t;refine SnB.aB (Sn.ref (T.f 26 rfl) () (λ_ _=>rfl) () (jG T hf8 hB8 gd8.ok λle2 rls2 G9 x9 e9 r9=>⟨_,(),?_⟩));have F9:=F8.lk x9.lk;have le9:=x9 _ _ le8;have rl9:=rl8.lk x9.lk;have hf9:=hf8.ext x9;have hB9:=hB8.ext x9;clear F8 le8 rl8 hf8 hB8 x9 F B;have len3:Bs.length=3:=cf.len;refine SnB.bg (r:=false) (.or ((RdT.not (.val (.isBool T.blt () () ()) .b)).to ⟨λe=>(nomatch e),λ_=>.or ((RdT.cmp (t:=false) (v:=.bool c8) (w:=.bool (!eqLs (lstB Bs8) (lstB Bs))) () (.cmp () () (.cZ r9 e9 (zCv gd8) rl9 le9 (zCv gdS))) (.ne (.bool _) (.bool _) ⟨by rw[hsay];cases c8<;>rfl,rfl⟩)).to ⟨λe=>(nomatch e),λ_=>.bG (.cmp (Sn.ref (T.f 27 rfl) () (λ_ _=>rfl) () (zBw T hf9 hB9 gd8.ok.few S8.fl λr vs G10 x10 er hv=>Rd.to (v:=.ref en) () (O2.to (.cg hv er ((F9.ens.ext x10).rel S8.rel) (x10 _ _ F9.en) S8.mr) ⟨_,.b,rfl,x10⟩))))⟩)⟩)) (λe=>(nomatch e)) λ_ G10 x10=>.aK ?_;refine SnB.bg (r:=false) (.or ((RdT.cmp (t:=false) (v:=.int (rls2.length:Int)) (.fn (id:="len") T.blt () () () (λ_ _=>rfl) (vs:=[.ref le2]) () (Blt.aw (x10 _ _ e9) ?_ ⟨by rw[length_map],rfl⟩)) .int (.d6 ⟨?_,rfl⟩)).to ⟨λe=>(nomatch e),λ_=>.bG (.not (.val (Sn.cK T () () rfl (by decide +kernel) (capn (capn (capn (capv ⟨by walk_at"0",by walk_at"0",()⟩ (capv ⟨by walk_at"0",by walk_at"0",()⟩ cap0))))) (x10 _ _ e9) (r9.lk x10.lk) (x10 _ _ le9) (rl9.lk x10.lk) (λB hB p hp=>(gd8.steps B hB p hp).1) (λB hB p hp=>(gdS.steps B hB p hp).1) sw.rel len3 S8.wt λG11 x11=>⟨true,.b,rfl,x11⟩)))⟩)) (λe=>(nomatch e)) λ_ G11 x11=>.aK ?_
  ·rw[length_map];rw[r9.length];unfold lstB;rw[length_map];rw[Zo.len sw.rel];rw[len3];decide
  ·rw[r9.length];unfold lstB;rw[length_map];rw[Zo.len sw.rel];rw[len3];rfl
  have x9:=x10.trans x11;have F11:=F9.lk x9.lk;have B11:LwB G11 bo le2 sl bs rls2 Bs8:=⟨hf9.ext x9,hB9.ext x9,nd,x9 _ _ e9,r9.lk x9.lk⟩
  clear F9 hf9 hB9 r9 e9 x10 x11 x9 le9 rl9 gdS hsay gd8 cf;refine SnB.ifs (r:=!c8) (.not (.val () .b)) (λe=>?_) λe=>.aK (.nil (.next ⟨le2,_,_,_,bs,rls2,Bs8,rfl,F11,B11,S8,?_⟩))
  ·refine .cons (.brk (.brk (.brk (.brk (.next ?_)))));have c0:c8=false:=by rw[not_eq_true'] at e;exact e
   subst c0;have eB:Bs8=Bs:=sw.same rfl;have sw2:=hso rfl;rw[<-eB] at sw2;have E11:=F11.ens.rel S8.rel;refine SnB.bg (r:=false) (.or ((RdT.val (t:=false) () .b).to ⟨λe=>(nomatch e),λ_=>.bG (.not (.val (Sn.ref (T.f 37 rfl) () (λ_ _=>rfl) () (uo T B11.le B11.rl F11.en E11 F11.sa sok.len S8.bs sw2 λG12 x12=>⟨true,.b,rfl,x12⟩))))⟩)) (λe=>(nomatch e)) λ_ G12 x12=>.aK ?_;exact .aH (Sn.cmp (Sn.ref (T.f 34 rfl) () (λ_ _=>rfl) () (vz T (x12 _ _ B11.le) (B11.rl.lk x12.lk) (x12 _ _ F11.en) (E11.lk x12.lk) (x12 _ _ F11.sa) sok.len S8.bs S8.run λr G13 x13 rs=>Rd.to (v:=du) () (O2.to (.dU rs (F11.du.lk (x12.trans x13).lk)) (kk G13)))))
  ·have:wtB Bs8<wtB Bs:=sw.lt (by rw[Bool.not_eq_false'] at e;exact e);lia
 ·obtain⟨le,sy,tu,wa,bs,rls,Bs,rfl,F,B,S,hw⟩:=hI;exact absurd hw (by lia)
end
section
set_option maxRecDepth 100000
set_option maxHeartbeats 4000000
theorem and2 {a b:Bool}(h:(a&&b)=true):a=true/\b=true:=Bool.and_eq_true_iff.mp h
def Yd (fd:FuncData)(ps:List Str):Prop:=∀ys:List Value,ys.length=ps.length->bindArgs fd ⟨ys,[]⟩=pure (ps.zip ys)
def AllY (n:Nat):(List Value->Prop)->Prop:=Nat.rec (motive:=λ_=>(List Value->Prop)->Prop) (λP=>P []) (λ_ ih P=>∀y,ih λys=>P (y::ys)) n
theorem allY {n:Nat}:∀{P:List Value->Prop},AllY n P->∀ys:List Value,ys.length=n->P ys:=by
 induction n with
 | zero=>intro P h ys e;rw[List.eq_nil_of_length_eq_zero e];exact h
 | succ n ih=>
  intro P h ys e;cases ys with
  | nil=>cases e
  | cons y ys=>exact ih (P:=λys=>P (y::ys)) (h y) ys (Nat.succ.inj e)
theorem bindK (h:AllY ps.length λys=>bindArgs fd ⟨ys,[]⟩=pure (ps.zip ys)):Yd fd ps:=allY h
noncomputable def zJh {α:Type}:List α->Bool | []=>true | _=>false
theorem zGb {α:Type}{l:List α}(h:zJh l=true):l=[]:=by cases l;rfl;cases h
noncomputable def fdOf (o:Option Obj):Option FuncData:=match o with | some o=>(match o.data with | .func fd=>some fd | _=>none) | none=>none
noncomputable def zJf (sc:Scope)(x:Str):Bool:=sc.names.any λp=>p.1 == x&&(decide (p.2=.local)||decide (p.2=.cell))
noncomputable def zIp (K:Frag)(fd:FuncData)(ps:List Str):Bool:=decide ps.Nodup&&(zJh fd.closure&&(decide (fd.globals=mainGlobals)&&(decide (fd.builtins=builtinsNs)&&(codeIn K fd.code fd.qualname &&
 (!fd.scope.isCoroutine&&(!fd.scope.isGenerator&&(decide (fd.scope.kind=.function)&&(ps.all (zJf fd.scope)&&scOK fd.scope))))))))
theorem zG5 (h:zJf sc x=true):Z1 false sc x:=by
 refine zC (List.any_eq_true.mp h) λpq0 hp h=>?_;obtain⟨y,k⟩:=pq0;obtain⟨h1,h2⟩:=and2 h;obtain rfl:y=x:=eq_of_beq h1;clear h h1;rcases Bool.or_eq_true_iff.mp h2 with q | q
 ·exact .inl (of_decide_eq_true q▸hp)
 ·exact .inr ⟨rfl,of_decide_eq_true q▸hp⟩
structure DefK (K:Frag)(a:Addr)(ps:List Str)(scope:Scope)(body:List Stmt):Prop where
 body:(fdOf (K.lookup a)).map (·.body)=some (.stmts body)
 scope:(fdOf (K.lookup a)).map (·.scope)=some scope
 chk:(fdOf (K.lookup a)).any (λfd=>zIp K fd ps)=true
 bind:∀fd,fdOf (K.lookup a)=some fd->Yd fd ps
theorem fdIs {K:Frag}{o:Obj}{fd0:FuncData}{ps:List Str}(h:K.lookup a=some o)(hd:o.data=.func fd0)(hb:Yd fd0 ps):∀fd,fdOf (K.lookup a)=some fd->Yd fd ps:=λfd e=>by
 rw[h] at e;unfold fdOf at e;dsimp only at e;rw[hd] at e;rw[<-Option.some.inj e];exact hb
theorem nos {C:Prop}{α:Type}{a:α}(h:Option.none=some a):C:=by cases h
theorem zFP {R:Option Obj->Prop}(k:∀o:Obj,o.data=.func fd->R (some o)):fdOf o=some fd->R o:=by
 cases o with
 | none=>exact λh=>nos h
 | some o=>
  cases o with | mk c d dt sl=>
  cases dt with
  | func f=>exact λh=>k _ (congrArg Data.func (Option.some.inj h))
  | _=>exact λh=>nos h
theorem nt {b:Bool}(h:(!b)=true):b=false:=not_eq_true' b▸h
theorem DefK.at {X:Cx}{a:Addr}{ps:List Str}{scope:Scope}{body:List Stmt}(h:DefK X.K a ps scope body):Yj X a ps scope body:=by
 obtain⟨hb,hs,hc,hbd⟩:=h;cases e:fdOf (X.K.lookup a) with
 | none=>rw[e] at hb;exact nos hb
 | some fd=>
  have hbd:=hbd fd e;rw[e] at hb hs hc;refine zC (zFP (R:=λq=>∃o,q=some o/\o.data=.func fd) (λo h=>⟨o,rfl,h⟩) e) λo ho hd=>?_;clear e;have hb:=Option.some.inj hb;obtain rfl:=Option.some.inj hs;have hc:zIp X.K fd ps=true:=hc;obtain⟨g2,h⟩:=and2 hc;obtain⟨g4,h⟩:=and2 h;obtain⟨g5,h⟩:=and2 h;obtain⟨g6,h⟩:=and2 h;obtain⟨g7,h⟩:=and2 h;obtain⟨g8,h⟩:=and2 h;obtain⟨g9,h⟩:=and2 h;obtain⟨g10,h⟩:=and2 h;obtain⟨g11,g12⟩:=and2 h;exact⟨⟨o,fd,ho,hd,hb,rfl,zGb g4,of_decide_eq_true g5,of_decide_eq_true g6,g7,hbd⟩,nt g8,nt g9,of_decide_eq_true g10,λp hp=>zG5 (List.all_eq_true.mp g11 p hp),of_decide_eq_true g2,g12⟩
theorem zI4 {P:Params}{l:List DictEntry}{xs:List Str}{ts:List Tok}(hl:xs.length<=ts.length)(h:l.map (λe=>(e.hash,e.key))=(xs.zip ts).map (λx=>(PyData.keyHash P x.1,Value.str x.1 x.2)))(x:Str):(l.find? λe=>Value.isStrOf x e.key).isSome=xs.contains x:=by
 have e1:(l.any λe=>Value.isStrOf x e.key)=(l.map λe=>(e.hash,e.key)).any λk=>Value.isStrOf x k.2:=by rw[any_map];rfl
 rw[List.isSome_find?];rw[e1];rw[h];rw[any_map];have e2:(xs.zip ts).any ((λk:Int×Value=>Value.isStrOf x k.2) ∘ λx=>(PyData.keyHash P x.1,Value.str x.1 x.2))=((xs.zip ts).map Prod.fst).any λz=>z == x:=by rw[any_map];rfl
 rw[e2];rw[List.map_fst_zip hl];rw[List.contains_eq_any_beq];exact congrArg (λf=>xs.any f) (funext λz=>BEq.comm)
theorem zDf:∀{zs:List (Str×Tok)},l.map (λe=>(e.hash,e.key))=zs.map (λx=>(PyData.keyHash P x.1,Value.str x.1 x.2))->KeysLit P l:=by
 induction l with
 | nil=>exact λ_=>trivial
 | cons e l ih=>
  intro zs h;cases zs with
  | nil=>exact absurd h (List.cons_ne_nil _ _)
  | cons z zs=>
   have h1:=List.head_eq_of_cons_eq h;exact⟨⟨z.1,z.2,congrArg Prod.snd h1,congrArg Prod.fst h1⟩,ih (List.tail_eq_of_cons_eq h)⟩
theorem jV (zs:List (Int×Tok)):VRs h (zs.map λx=>.int x.1) (zs.map λx=>Value.int x.1 x.2):=by
 induction zs with
 | nil=>exact .nil
 | cons z zs ih=>exact .cons (.int _ _) ih
structure TabK (P:Params)(K:Frag)(es0:Array DictEntry)(x:Str)(a:Addr)(es:Array DictEntry)(k:Nat)(ks:List Str)(ts:List Tok):Prop where
 mg:nsFind es0 x=some (.ref a)
 look:K.lookup a=some ⟨.type "dict",none,.dict es k,#[]⟩
 keys:es.toList.map (λe=>(e.hash,e.key))=(ks.zip ts).map (λx=>(PyData.keyHash P x.1,Value.str x.1 x.2))
 len:Nat.ble ks.length ts.length=true
theorem TabK.at {es0 es:Array DictEntry}{k:Nat}{ks:List Str}{ts:List Tok}(hm:∀x,X.mg x=nsFind es0 x)(h:TabK X.w.params X.K es0 x a es k ks ts)(hs:(a == sysModules)=false):Zw X x ks:=
 ⟨a,es,k,(hm _).trans h.mg,h.look,zDf h.keys,hs,λz=>by
  rw[<-zI4 (Nat.le_of_ble_eq_true h.len) h.keys z];unfold findBy;rw[isSome_map];rw[<-Array.find?_toList]⟩
theorem zK1 (P:Params):(K0 P).lookup 3=some (ko3 P):=by kernel_rfl
noncomputable def zr (P:Params):Array DictEntry:=match (ko3 P).data with | .dict es _=>es | _=>#[]
theorem zIX {w:World}{mg:Str->Option Value}(kin:(K0 w.params).In h)(ng:h.Ns mainGlobals mg):∀x,mg x=nsFind (zr w.params) x:=by
 intro x;refine vp ng λo es ep h1 h2 _ h3=>?_;have e:=kin 3 _ (zK1 w.params)
 have:o=ko3 w.params:=Option.some.inj (h1.symm.trans e);subst this;rw[<-h3 x];unfold zr;rw[h2]
noncomputable def cA0:Cls->Addr | .step=>31 | .block=>52 | .func=>73
theorem cls0 (X:Cx)(hK:X.K=K0 X.w.params)(hc:X.cA=cA0):Z0 X:=by
 refine⟨?_,?_,?_,?_,?_,?_⟩<;>(rw[hK];rw[hc])<;>generalize X.w.params=P
 ·intro c f;cases c<;>kernel_rfl
 ·intro c;cases c<;>kernel_rfl
 ·intro c f;cases c<;>cases f<;>kernel_rfl
 ·intro c;cases c<;>kernel_rfl
 ·intro c;cases c<;>kernel_rfl
 ·intro c;cases c<;>kernel_rfl
theorem mgB (P:Params):(["len","list","sorted","any","all","sum","int","abs","min","set","range","enumerate","zip","isinstance","bool"]:List String).all (λx=>(nsFind (zr P) (Str.ofString x)).isNone)=true:=by kernel_rfl
theorem fnB:∀x∈(["len","sorted","any","all","sum","abs","min","isinstance"]:List String),Str.ofString x≠"__name__"/\bootBuiltins (Str.ofString x)=some (.builtin x):=
 ac ⟨by decide +kernel,by kernel_rfl⟩ <| ac ⟨by decide +kernel,by kernel_rfl⟩ <| ac ⟨by decide +kernel,by kernel_rfl⟩ <| ac ⟨by decide +kernel,by kernel_rfl⟩ <| ac ⟨by decide +kernel,by kernel_rfl⟩ <| ac ⟨by decide +kernel,by kernel_rfl⟩ <| ac ⟨by decide +kernel,by kernel_rfl⟩ <| ac ⟨by decide +kernel,by kernel_rfl⟩ <| an
theorem tyB:∀x∈(["list","int","set","range","enumerate","zip","bool"]:List String),Str.ofString x≠"__name__"/\bootBuiltins (Str.ofString x)=some (.type x):=
 ac ⟨by decide +kernel,by kernel_rfl⟩ <| ac ⟨by decide +kernel,by kernel_rfl⟩ <| ac ⟨by decide +kernel,by kernel_rfl⟩ <| ac ⟨by decide +kernel,by kernel_rfl⟩ <| ac ⟨by decide +kernel,by kernel_rfl⟩ <| ac ⟨by decide +kernel,by kernel_rfl⟩ <| ac ⟨by decide +kernel,by kernel_rfl⟩ <| an
theorem blt0 (X:Cx)(hm:∀x,X.mg x=nsFind (zr X.w.params) x)(hb:∀x:Str,x≠"__name__"->X.mb x=bootBuiltins x):Zv X:=
 ⟨λx hx=>by rw[hm];exact Option.isNone_iff_eq_none.mp (List.all_eq_true.mp (mgB X.w.params) x hx),λx hx=>(hb _ (fnB x hx).1).trans (fnB x hx).2,λx hx=>(hb _ (tyB x hx).1).trans (tyB x hx).2⟩
theorem zIn (hK:X.K=K0 X.w.params)(hm:∀x,X.mg x=nsFind (zr X.w.params) x)(h:∀P,nsFind (zr P) x=some (.ref a)/\keepIn (K0 P) (.ref a)=true):Z3 X x a:=⟨(hm _).trans (h _).1,by rw[hK];exact(h _).2⟩
theorem zC8 (hK:X.K=K0 X.w.params)(hc:X.cA=cA0)(hm:∀x,X.mg x=nsFind (zr X.w.params) x)(h:∀P,nsFind (zr P) x=some (.ref (cA0 k))/\keepIn (K0 P) (.ref (cA0 k))=true/\findIn (K0 P) (.ref (cA0 k)) "__init__" = some (some (.ref a))/\typeIn (K0 P) (.ref a)=some (.type "function")):Zx X x k a:=by refine vr (h X.w.params) λh1 h2 h3 h4=>?_;exact⟨by rw[hc];exact(hm _).trans h1,by rw[hK];rw[hc];exact h2,by rw[hK];rw[hc];exact h3,by rw[hK];exact h4⟩
theorem zI2 (P:Params):nsFind (zr P) "Step" = some (.ref (cA0 .step))/\keepIn (K0 P) (.ref (cA0 .step))=true/\findIn (K0 P) (.ref (cA0 .step)) "__init__" = some (some (.ref zBn))/\typeIn (K0 P) (.ref zBn)=some (.type "function"):=⟨by kernel_rfl,by kernel_rfl,by kernel_rfl,by kernel_rfl⟩
theorem zG8 (P:Params):nsFind (zr P) "Block" = some (.ref (cA0 .block))/\keepIn (K0 P) (.ref (cA0 .block))=true/\findIn (K0 P) (.ref (cA0 .block)) "__init__" = some (some (.ref zAx))/\typeIn (K0 P) (.ref zAx)=some (.type "function"):=⟨by kernel_rfl,by kernel_rfl,by kernel_rfl,by kernel_rfl⟩
theorem zI3 (P:Params):nsFind (zr P) "Func" = some (.ref (cA0 .func))/\keepIn (K0 P) (.ref (cA0 .func))=true/\findIn (K0 P) (.ref (cA0 .func)) "__init__" = some (some (.ref zDP))/\typeIn (K0 P) (.ref zDP)=some (.type "function"):=⟨by kernel_rfl,by kernel_rfl,by kernel_rfl,by kernel_rfl⟩
theorem zG6 (P:Params):nsFind (zr P) "ROUND" = some (.int 4294967296 304):=by kernel_rfl
noncomputable def vM (P:Params):Array DictEntry:=match (ko85 P).data with | .dict es _=>es | _=>#[]
theorem zDe (P:Params):TabK P (K0 P) (zr P) "EFFECTS" 85 (vM P) 4 ["store","move","call","callreg"] [306,308,310,312]:=⟨by kernel_rfl,by kernel_rfl,by kernel_rfl,by kernel_rfl⟩
noncomputable def jg (P:Params):Array DictEntry:=match (ko86 P).data with | .dict es _=>es | _=>#[]
theorem zB7 (P:Params):TabK P (K0 P) (zr P) "DIVISIONS" 86 (jg P) 4 ["div","divu","rem","remu"] [319,321,323,325]:=⟨by kernel_rfl,by kernel_rfl,by kernel_rfl,by kernel_rfl⟩
noncomputable def zBe (P:Params):Array DictEntry:=match (ko127 P).data with | .dict es _=>es | _=>#[]
theorem zG7 (P:Params):TabK P (K0 P) (zr P) "CALLS" 127 (zBe P) 2 ["call","callreg"] [387,389]:=⟨by kernel_rfl,by kernel_rfl,by kernel_rfl,by kernel_rfl⟩
noncomputable def yj (P:Params):Array DictEntry:=match (ko128 P).data with | .dict es _=>es | _=>#[]
theorem vn (P:Params):TabK P (K0 P) (zr P) "SELDOM_FREE" 128 (yj P) 9 ["load","store","move","call","callreg","div","divu","rem","remu"] [394,396,398,400,402,404,406,408,410]:=⟨by kernel_rfl,by kernel_rfl,by kernel_rfl,by kernel_rfl⟩
theorem zDd (P:Params):nsFind (zr P) "_law_ALL" = some (.int 4294967296 590):=by kernel_rfl
theorem zDc (P:Params):nsFind (zr P) "_law_SEE" = some (.int 20000 592):=by kernel_rfl
theorem zAn (P:Params):nsFind (zr P) "_law_OBJECT" = some (.int 8192 594):=by kernel_rfl
theorem vK (P:Params):nsFind (zr P) "_law_REST" = some (.ref 230)/\(K0 P).lookup 230=some ⟨.type "tuple",none,.seq ((([27,9,5,812,10,834,5,32,271]:List Int).zip [596,597,598,599,600,601,602,603,604]).map λx=>Value.int x.1 x.2).toArray 0,#[]⟩:=⟨by kernel_rfl,by kernel_rfl⟩
theorem zK8 (P:Params):(K0 P).lookup 231=some ⟨.type "tuple",none,.seq ((([1,1]:List Int).zip [606,607]).map λx=>Value.int x.1 x.2).toArray 0,#[]⟩:=by kernel_rfl
theorem zK7 (P:Params):(K0 P).lookup 232=some ⟨.type "tuple",none,.seq ((([2,2]:List Int).zip [608,609]).map λx=>Value.int x.1 x.2).toArray 0,#[]⟩:=by kernel_rfl
theorem zK6 (P:Params):(K0 P).lookup 233=some ⟨.type "tuple",none,.seq ((([4,4]:List Int).zip [610,611]).map λx=>Value.int x.1 x.2).toArray 0,#[]⟩:=by kernel_rfl
theorem zK5 (P:Params):(K0 P).lookup 234=some ⟨.type "tuple",none,.seq ((([8,4]:List Int).zip [612,613]).map λx=>Value.int x.1 x.2).toArray 0,#[]⟩:=by kernel_rfl
theorem uY (P:Params):nsFind (zr P) "_law_SIZES" = some (.ref 235)/\(K0 P).lookup 235=some ⟨.type "tuple",none,.seq [Value.ref 231,Value.ref 232,Value.ref 233,Value.ref 234].toArray 0,#[]⟩:=⟨by kernel_rfl,by kernel_rfl⟩
theorem kfA (P:Params):∀r∈topF,nsFind (zr P) r.1=some (.ref r.2)/\keepIn (K0 P) (.ref r.2)=true:=by
 repeat refine ac ⟨by kernel_rfl,by kernel_rfl⟩ ?_
 exact an
theorem dk {K:Frag}{ps:List Str}{body:List Stmt}{fd0:FuncData}(o:Obj)(hb:AllY ps.length λys=>bindArgs fd0 ⟨ys,[]⟩=pure (ps.zip ys))(hd:o.data=.func fd0)(h:K.lookup a=some o)(h1:(fdOf (K.lookup a)).map (·.body)=some (.stmts body))(h2:(fdOf (K.lookup a)).map (·.scope)=some scope)(h3:(fdOf (K.lookup a)).any (λfd=>zIp K fd ps)=true):DefK K a ps scope body:=⟨h1,h2,h3,fdIs h hd (allY hb)⟩
theorem kdA (P:Params):∀r∈topD,DefK (K0 P) r.a r.ps r.sc (fdB r.st):=by
 refine ac (dk (ko28 P) (λ_ _ _ _ _=>?_) rfl ?_ ?_ ?_ ?_) <| ac (dk (ko49 P) (λ_ _=>?_) rfl ?_ ?_ ?_ ?_) <| ac (dk (ko70 P) (λ_ _=>?_) rfl ?_ ?_ ?_ ?_) <| ac (dk (ko84 P) (λ_=>?_) rfl ?_ ?_ ?_ ?_) <| ac (dk (ko93 P) (λ_=>?_) rfl ?_ ?_ ?_ ?_) <| ac (dk (ko100 P) (λ_=>?_) rfl ?_ ?_ ?_ ?_) <| ac (dk (ko107 P) (λ_=>?_) rfl ?_ ?_ ?_ ?_) <| ac (dk (ko112 P) (λ_=>?_) rfl ?_ ?_ ?_ ?_) <| ac (dk (ko119 P) (λ_=>?_) rfl ?_ ?_ ?_ ?_) <| ac (dk (ko126 P) (λ_ _ _ _ _=>?_) rfl ?_ ?_ ?_ ?_) <| ac (dk (ko135 P) (λ_=>?_) rfl ?_ ?_ ?_ ?_) <| ac (dk (ko142 P) (λ_ _=>?_) rfl ?_ ?_ ?_ ?_) <| ac (dk (ko149 P) (λ_=>?_) rfl ?_ ?_ ?_ ?_) <| ac (dk (ko156 P) (λ_ _ _=>?_) rfl ?_ ?_ ?_ ?_) <| ac (dk (ko163 P) (λ_ _ _ _=>?_) rfl ?_ ?_ ?_ ?_) <| ac (dk (ko170 P) (λ_ _=>?_) rfl ?_ ?_ ?_ ?_) <| ac (dk (ko177 P) (λ_ _=>?_) rfl ?_ ?_ ?_ ?_) <| ac (dk (ko184 P) (λ_=>?_) rfl ?_ ?_ ?_ ?_) <| ac (dk (ko191 P) (λ_ _ _ _=>?_) rfl ?_ ?_ ?_ ?_) <| ac (dk (ko196 P) (λ_ _=>?_) rfl ?_ ?_ ?_ ?_) <| ac (dk (ko203 P) (λ_ _ _ _=>?_) rfl ?_ ?_ ?_ ?_) <| ac (dk (ko210 P) (λ_ _ _=>?_) rfl ?_ ?_ ?_ ?_) <| ac (dk (ko217 P) (λ_ _ _=>?_) rfl ?_ ?_ ?_ ?_) <| ac (dk (ko222 P) (λ_ _ _=>?_) rfl ?_ ?_ ?_ ?_) <| ac (dk (ko229 P) (λ_=>?_) rfl ?_ ?_ ?_ ?_) <| ac (dk (ko240 P) (λ_=>?_) rfl ?_ ?_ ?_ ?_) <| ac (dk (ko247 P) (λ_ _=>?_) rfl ?_ ?_ ?_ ?_) <| ac (dk (ko252 P) (λ_=>?_) rfl ?_ ?_ ?_ ?_) <| ac (dk (ko259 P) (λ_ _ _=>?_) rfl ?_ ?_ ?_ ?_) <| ac (dk (ko264 P) (λ_=>?_) rfl ?_ ?_ ?_ ?_) <| ac (dk (ko269 P) (λ_=>?_) rfl ?_ ?_ ?_ ?_) <| ac (dk (ko276 P) (λ_=>?_) rfl ?_ ?_ ?_ ?_) <| ac (dk (ko281 P) (λ_ _ _=>?_) rfl ?_ ?_ ?_ ?_) <| ac (dk (ko286 P) (λ_ _ _=>?_) rfl ?_ ?_ ?_ ?_) <| ac (dk (ko293 P) (λ_ _ _ _=>?_) rfl ?_ ?_ ?_ ?_) <| ac (dk (ko300 P) (λ_ _ _ _ _=>?_) rfl ?_ ?_ ?_ ?_) <| ac (dk (ko307 P) (λ_ _ _ _ _ _=>?_) rfl ?_ ?_ ?_ ?_) <| ac (dk (ko312 P) (λ_ _ _ _=>?_) rfl ?_ ?_ ?_ ?_) <| ac (dk (ko319 P) (λ_ _=>?_) rfl ?_ ?_ ?_ ?_) <| ac (dk (ko324 P) (λ_ _ _ _ _=>?_) rfl ?_ ?_ ?_ ?_) <| ac (dk (ko329 P) (λ_ _ _=>?_) rfl ?_ ?_ ?_ ?_) <| ac (dk (ko334 P) (λ_=>?_) rfl ?_ ?_ ?_ ?_) <| an
 all_goals kernel_rfl
theorem zKH (X:Cx)(hK:X.K=K0 X.w.params)(hc:X.cA=cA0)(hm:∀x,X.mg x=nsFind (zr X.w.params) x)(hb:∀x:Str,x≠"__name__"->X.mb x=bootBuiltins x):Tops X:=
 ⟨cls0 X hK hc,blt0 X hm hb,
  zC8 hK hc hm zI2,
  zC8 hK hc hm zG8,
  zC8 hK hc hm zI3,
  ⟨_,(hm _).trans (zG6 _),.int _ _⟩,
  TabK.at (es:=vM X.w.params) hm (by rw[hK];exact zDe _) (),
  TabK.at (es:=jg X.w.params) hm (by rw[hK];exact zB7 _) (),
  TabK.at (es:=zBe X.w.params) hm (by rw[hK];exact zG7 _) (),
  TabK.at (es:=yj X.w.params) hm (by rw[hK];exact vn _) (),
  ⟨_,(hm _).trans (zDd _),.int _ _⟩,
  ⟨_,(hm _).trans (zDc _),.int _ _⟩,
  ⟨_,(hm _).trans (zAn _),.int _ _⟩,
  ⟨_,(hm _).trans (vK _).1,.aU (X.kin _ _ (by rw[hK];exact(vK _).2)) (jV (([27,9,5,812,10,834,5,32,271]:List Int).zip [596,597,598,599,600,601,602,603,604]))⟩,
  ⟨_,(hm _).trans (uY _).1,.aU (X.kin _ _ (by rw[hK];exact(uY _).2)) (.cons (.aU (X.kin _ _ (by rw[hK];exact zK8 _)) (jV (([1,1]:List Int).zip [606,607]))) (.cons (.aU (X.kin _ _ (by rw[hK];exact zK7 _)) (jV (([2,2]:List Int).zip [608,609]))) (.cons (.aU (X.kin _ _ (by rw[hK];exact zK6 _)) (jV (([4,4]:List Int).zip [610,611]))) (.cons (.aU (X.kin _ _ (by rw[hK];exact zK5 _)) (jV (([8,4]:List Int).zip [612,613]))) .nil))))⟩,
  λr h=>zIn hK hm λP=>kfA P r h,
  λr h=>DefK.at (by rw[hK];exact kdA _ r h)⟩
end
section
set_option maxRecDepth 100000
set_option maxHeartbeats 4000000
theorem hd0 (H:WalkO q0 zB1 (XL q0 []) (kHook K0 as0 K0e).says rw0.row.toRowW ⟨"law",fdA (pst 55),fdB (pst 55),fdS (pst 55),(match pst 55 with | .FunctionDef _ _ _ _ _ _ _ _ _ p=>p | _=>⟨0,0,0,0⟩)⟩ [] λf vs=>PySem.call f vs):PySem.Challenge.rw_nm0021_02.Holds:=by
 w_on
 refine holds_law zKP λsaid=>?_;refine holds_open (q:=q0) (loose:=zB1) (Xt:=λs=>xlAt q0 [] s&&recOk (RowW.records rw0.row.toRowW) s) (XP:=XL q0 []) (Yf:=(kHook K0 as0 K0e).obs) (Ya:=(kHook K0 as0 K0e).val) (YP:=(kHook K0 as0 K0e).says) (N:=4250) zK4
  (Hook.of _) (Hook.keeps _) (λs e=>xl_of s (Bool.and_eq_true_iff.mp e).1) XL.keeps (by rfl) (by rfl) (by rfl) (λs e=>recFacts_of (Bool.and_eq_true_iff.mp e).2) (by rfl) (by first | assumption | decide +kernel) (by decide +kernel) ⟨rfl,rfl,rfl,rfl,rfl,by decide +kernel⟩ ?hw H
 case hw=>w_witness2
theorem zE2:Rep X h.get? (λ_=>none) h where
 keep:=λ_ _ e=>e
 low:=λa g e=>by cases e
 own:=λa g e=>by cases e
 dsep:=λa c fs o d e=>by cases e
theorem zGx {ns:List Int}(h:ns.length<=63):(ns.map Val.int).length<=2 * cap:=by rw[length_map];unfold cap;omega
set_option tactic.hygienic true in
theorem law_of:PySem.Challenge.rw_nm0021_02.Holds:=by
 refine hd0 ?_;intro w s₀ s₁ mg mb G Y fa o pm cd doc dV kV ho hd hcd hD hmg hg args vals as hpre hlay hrd hwl hlo;have KX:=kIn_of Y
 wrow_args hpre hlay hrd hwl hlo
 rename_i ns _ _ _ _ _ _ _ l lv _ hL _ _ _ hI _ hlen _;have hm:=zIX KX G.T.g;have T:=zKH { prog:=rw0.row.prog,w:=w,K:=K0 w.params,H0:=s₁.heap,mg:=mg,mb:=mb,cA:=cA0,kin:=KX,ng:=G.T.g,nb:=G.T.b,lim:=G.T.nolimit } rfl rfl hm G.T.builtins;have hfa:fa=zFi:=by
  have e2:=(hm "law").trans (kfA w.params ⟨"law",zFi⟩ (mi 38 rfl)).1;have e3:mg "law" = some (.ref fa):=hmg;rw[e3] at e2;cases e2;rfl
 subst hfa;have hv0:VRs s₁.heap (ns.map .int) lv.toArray.toList:=by rw[toList_toArray];exact zCe hI
 refine wpAny_call (Cal.go (zJP (n:=9) (G:=λ_=>none) (Q:=λv _=>v=.bool true) T ⟨zGx (by omega),_,hL,hv0⟩ λ_=>rfl) (b:=s₁.heap.get?) ⟨rfl,by decide +kernel,by decide +kernel⟩ ?_ zE2 (.cons (.ref _) .nil) ?_)
 ·exact λ_ _ e=>e
 rintro v s' ⟨u,G',hv,hr,⟨tk,hgen,hos⟩,rfl⟩;rw[hv.bool_inv];exact⟨.inl ⟨_,.bool true,[],rfl,λ_=>rfl,.bool _,by kernel_rfl,λ_=>⟨List.nodup_nil,λa h=>by cases h⟩⟩,.of_keep λb o e=>hr.keep b o e,hos,.of_eq (hgen.trans hg)⟩
end
end Mine.Internal
theorem PySem.Challenge.cw_nm0021_02_holds : PySem.Challenge.rw_nm0021_02.Holds :=
 Mine.Internal.law_of
